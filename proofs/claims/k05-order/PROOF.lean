import PyProof.Rows.All
import Wide.All
import OpenK.AllK
import Wide.FinOn
import HandS.ForMost
import HandS.IsInst
import HandS.TupAny
import HandS.Wide
import HandS.WideBits
import HandS.Walk
import HandS.Deep
import HandS.Zip
import HandS.Flow
import HandS.Style
import HandS.More
import HandS.ExcCtx
import HandS.HotCalls
import HandS.ExcIs
import HandS.Lambda
import HandS.EndTab
import KE.GoesMore
import HandS.Comp
import HandS.Words
import KE.KNestM
import PySem.Challenge.RW_armwright_k05_numbers_in_order
section
set_option Elab.async false
set_option maxRecDepth 100000
set_option maxHeartbeats 4000000
/-! Dn0: tree data, a store of the lists that are changed, a small language, and what it means. Plain Lean. -/
namespace Dn
open PySem

/-- a thing: rol is a list that nobody changes any more; lst a list of the store; obj an instance of the store -/
inductive D where
  | non | bl (b : Bool) | int (i : Int) | str (x : Str) | tup (xs : List D) | rol (xs : List D) | lst (i : Nat) | obj (i : Nat)
instance : Inhabited D := ⟨.non⟩
inductive Cell where
  | lst (xs : List D) | ins (c : Str) (fs : List (Str × D)) | dead
abbrev Sto := List Cell
def Cell.live : Cell → Bool
  | .dead => false
  | _ => true

mutual
def D.py : D → PyData
  | .non => .none
  | .bl b => .bool b
  | .int i => .int i
  | .str x => .str x
  | .tup xs => .tuple (D.pys xs)
  | .rol xs => .list (D.pys xs)
  | .lst _ => .dict []
  | .obj _ => .dict []
def D.pys : List D → List PyData
  | [] => []
  | x :: xs => x.py :: D.pys xs
end

inductive Res (α : Type) where
  | ok (a : α) (s : Sto) | exc (c : Nat) (fs : List (Str × D)) (s : Sto) | bad
@[inline] def Res.bind {α β : Type} (r : Res α) (f : α → Sto → Res β) : Res β :=
  match r with
  | .ok a s => f a s
  | .exc c fs s => .exc c fs s
  | .bad => .bad

inductive Bo where
  | add | sub | mul | fdiv | mod | pow | shl | catc
inductive Co where
  | eq | ne | lt | le | gt | ge | is | isn | inn | nin
inductive Ty where
  | int | bool | tuple | list | str
inductive Pr where
  | len | abs | int | list | listm | tuple | any | all | isi (ts : List Ty)

mutual
inductive E where
  | var (i : Nat)
  | cst (d : D)
  | top (x : Str) (d : D)
  | bin (o : Bo) (a b : E)
  | neg (a : E)
  | cmp (o : Co) (a b : E)
  | cmp2 (o1 o2 : Co) (a b c : E)
  | nt (a : E)
  | and (a b : E)
  | or (a b : E)
  | ife (t a b : E)
  | tup (es : Es)
  | lst (m : Bool) (es : Es)
  | ix (a i : E)
  | sl (a : E) (lo hi : Oe)
  | rev (a k : E)
  | call (f : Nat) (es : Es)
  | prim (p : Pr) (es : Es)
  | app (a b : E)
  | ins (a i b : E)
  | bits (a : E)
  | join (a b : E)
  | frz (a : E)
  | lc (own : List Nat) (tg : Tg) (it : It) (c : Oe) (e : E)
  | tryl (cs : List Nat) (e : E)
inductive Es where
  | nil | cons (e : E) (es : Es)
inductive Oe where
  | no | so (e : E)
inductive It where
  | seq (e : E) | rng (e : E) | rng2 (a b : E) | enum (e : E) | zip (a b : E)
inductive Tg where
  | nm (i : Nat) | tup (ts : Tgs) | sub (a i : E)
inductive Tgs where
  | nil | cons (t : Tg) (ts : Tgs)
end
def Tgs.len : Tgs → Nat
  | .nil => 0
  | .cons _ ts => ts.len + 1
mutual
inductive S where
  | set (t : Tg) (e : E)
  | par (i j : Nat) (a b : E)
  | par3 (i j k : Nat) (a b c : E)
  | aug (i : Nat) (o : Bo) (e : E)
  | ex (e : E)
  | ret (e : E)
  | retn
  | ite (c : E) (a b : Ss)
  | whl (c : E) (b : Ss)
  | forr (t : Tg) (it : It) (b : Ss)
  | rai (c : Nat)
  | tryo (b : Ss) (cs : List Nat) (c : Nat) (d : D)
  | pas | brk | cnt
inductive Ss where
  | nil | cons (s : S) (ss : Ss)
end

/-! ### what the operations give -/
def listOf (s : Sto) : D → Option (List D)
  | .rol xs => some xs
  | .lst i => match s[i]? with
    | some (.lst xs) => some xs
    | _ => none
  | _ => none
def seqOf (s : Sto) : D → Option (List D)
  | .tup xs => some xs
  | d => listOf s d

def okD (d : D) (s : Sto) : Res D := .ok d s
def guardD (b : Bool) (d : D) (s : Sto) : Res D := if b then .ok d s else .bad

def fdivOk (i j : Int) : Bool := decide (j ≠ 0) && !(Builtin.divisionGoesByPylong i j)
def mulOk (i j : Int) : Bool := decide (i.natAbs.log2 + j.natAbs.log2 < 1000000)
def powOk (i j : Int) : Bool := decide (0 ≤ j) && decide (j ≤ 1000000) && decide (i.natAbs < 2 ^ 64)
def lineOk (n : Nat) : Bool := decide (n ≤ sizeLine)
def lineLt (n : Nat) : Bool := decide (n < sizeLine)

def binD (o : Bo) (x y : D) (s : Sto) : Res D :=
  match o, x, y with
  | .add, .int i, .int j => .ok (.int (i + j)) s
  | .sub, .int i, .int j => .ok (.int (i - j)) s
  | .mul, .int i, .int j => guardD (mulOk i j) (.int (i * j)) s
  | .fdiv, .int i, .int j => guardD (fdivOk i j) (.int (i.fdiv j)) s
  | .mod, .int i, .int j => guardD (decide (j ≠ 0)) (.int (i.fmod j)) s
  | .pow, .int i, .int j => guardD (powOk i j) (.int (i ^ j.toNat)) s
  | .shl, .int i, .int j => guardD (powOk i j) (.int (i * 2 ^ j.toNat)) s
  | .add, .tup xs, .tup ys => guardD (lineOk (xs.length + ys.length)) (.tup (xs ++ ys)) s
  | .add, .str a, .str b => guardD (lineOk (a.length + b.length)) (.str (a ++ b)) s
  | .add, a, b => match listOf s a, listOf s b with
    | some xs, some ys => guardD (lineOk (xs.length + ys.length)) (.rol (xs ++ ys)) s
    | _, _ => .bad
  | .catc, a, b => match listOf s a, listOf s b with
    | some xs, some ys => guardD (lineOk (xs.length + ys.length)) (.lst s.length) (s ++ [.lst (xs ++ ys)])
    | _, _ => .bad
  | _, _, _ => .bad

def eqD (x y : D) : Option Bool := if SeqAt.shaped x.py && SeqAt.shaped y.py then some (PyData.eqv x.py y.py) else none
def inD (s : Sto) (x y : D) : Option Bool := match y with
  | .tup ys => if SeqAt.shaped x.py && SeqAt.shaped (D.tup ys).py then some ((D.pys ys).any fun z => PyData.eqv z x.py) else none
  | y => match listOf s y with
    | some ys => if SeqAt.shaped x.py && SeqAt.shaped (D.rol ys).py then some ((D.pys ys).any fun z => PyData.eqv z x.py) else none
    | none => none
def ofB (o : Option Bool) (s : Sto) : Res D := match o with
  | some b => .ok (.bl b) s
  | none => .bad
def isNon : D → Bool
  | .non => true
  | _ => false
def cmpD (o : Co) (x y : D) (s : Sto) : Res D :=
  match o with
  | .eq => ofB (eqD x y) s
  | .ne => ofB ((eqD x y).map (!·)) s
  | .inn => ofB (inD s x y) s
  | .nin => ofB ((inD s x y).map (!·)) s
  | .lt => match x, y with
    | .int i, .int j => .ok (.bl (decide (i < j))) s
    | _, _ => .bad
  | .le => match x, y with
    | .int i, .int j => .ok (.bl (decide (i ≤ j))) s
    | _, _ => .bad
  | .gt => match x, y with
    | .int i, .int j => .ok (.bl (decide (j < i))) s
    | _, _ => .bad
  | .ge => match x, y with
    | .int i, .int j => .ok (.bl (decide (j ≤ i))) s
    | _, _ => .bad
  | .is => match y with
    | .non => .ok (.bl (isNon x)) s
    | .bl b => match x with
      | .bl a => .ok (.bl (a == b)) s
      | _ => .bad
    | _ => .bad
  | .isn => match y with
    | .non => .ok (.bl (!isNon x)) s
    | .bl b => match x with
      | .bl a => .ok (.bl (!(a == b))) s
      | _ => .bad
    | _ => .bad

def tyD (s : Sto) : Ty → D → Option Bool
  | _, .non => some false
  | t, .bl _ => some (match t with | .int => true | .bool => true | _ => false)
  | t, .int _ => some (match t with | .int => true | _ => false)
  | t, .str _ => some (match t with | .str => true | _ => false)
  | t, .tup _ => some (match t with | .tuple => true | _ => false)
  | t, .rol _ => some (match t with | .list => true | _ => false)
  | t, .lst i => match s[i]? with
    | some (.lst _) => some (match t with | .list => true | _ => false)
    | _ => none
  | _, .obj _ => none
/-- isinstance by classes, one after another -/
def tysD (s : Sto) (x : D) : List Ty → Option Bool
  | [] => some false
  | t :: ts => match tyD s t x with
    | some true => some true
    | some false => tysD s x ts
    | none => none

/-- a place in a list of that length -/
def ixOf (n : Nat) (i : Int) : Option Nat := if 0 ≤ i then (if i < n then some i.toNat else none) else if -(n : Int) ≤ i then some (i + n).toNat else none
def ixD (s : Sto) (x i : D) : Res D :=
  match i with
  | .int k => match seqOf s x with
    | some xs => match (ixOf xs.length k).bind (xs[·]?) with
      | some d => .ok d s
      | none => .bad
    | none => .bad
  | _ => .bad
def cut {α : Type} (xs : List α) (lo hi : Option Int) : List α := (xs.drop (HT.sIx xs.length 0 lo)).take (HT.sIx xs.length xs.length hi - HT.sIx xs.length 0 lo)
def slD (s : Sto) (x : D) (lo hi : Option Int) : Res D :=
  match x with
  | .tup xs => .ok (.tup (cut xs lo hi)) s
  | d => match listOf s d with
    | some xs => .ok (.rol (cut xs lo hi)) s
    | none => .bad

/-- a tuple taken backwards -/
def revD (x k : D) (s : Sto) : Res D := match x, k with
  | .tup xs, .int (-1) => .ok (.tup xs.reverse) s
  | _, _ => .bad
def boolsOf : List D → Option (List Bool)
  | [] => some []
  | .bl b :: r => (boolsOf r).map (b :: ·)
  | _ :: _ => none
def strsOf : List D → Option (List Str)
  | [] => some []
  | .str b :: r => (strsOf r).map (b :: ·)
  | _ :: _ => none
def primD (p : Pr) (xs : List D) (s : Sto) : Res D :=
  match p, xs with
  | .len, [x] => match seqOf s x with
    | some ys => .ok (.int ys.length) s
    | none => .bad
  | .abs, [.int i] => .ok (.int (if i < 0 then -i else i)) s
  | .int, [.int i] => .ok (.int i) s
  | .int, [.bl b] => .ok (.int (if b then 1 else 0)) s
  | .list, [x] => match seqOf s x with
    | some ys => .ok (.rol ys) s
    | none => .bad
  | .listm, [x] => match seqOf s x with
    | some ys => .ok (.lst s.length) (s ++ [.lst ys])
    | none => .bad
  | .tuple, [x] => match seqOf s x with
    | some ys => .ok (.tup ys) s
    | none => .bad
  | .any, [x] => match (listOf s x).bind boolsOf with
    | some bs => .ok (.bl (bs.any id)) s
    | none => .bad
  | .all, [x] => match (listOf s x).bind boolsOf with
    | some bs => .ok (.bl (bs.all id)) s
    | none => .bad
  | .isi ts, [x] => ofB (tysD s x ts) s
  | _, _ => .bad
/-- a list of the store gets other items -/
def setL (s : Sto) (x : D) (f : List D → Option (List D)) : Option Sto :=
  match x with
  | .lst i => match s[i]? with
    | some (.lst xs) => (f xs).map fun ys => s.set i (.lst ys)
    | _ => none
  | _ => none
def appD (x y : D) (s : Sto) : Res D := match setL s x (fun xs => if lineLt xs.length then some (xs ++ [y]) else none) with
  | some s' => .ok .non s'
  | none => .bad
def insI (xs : List D) (i : Nat) (y : D) : List D := xs.take i ++ y :: xs.drop i
def insD (x i y : D) (s : Sto) : Res D := match i with
  | .int k => match setL s x (fun xs => if lineLt xs.length && decide (0 ≤ k) && decide (k ≤ xs.length) then some (insI xs k.toNat y) else none) with
    | some s' => .ok .non s'
    | none => .bad
  | _ => .bad
def setIx (x i y : D) (s : Sto) : Option Sto := match i with
  | .int k => setL s x (fun xs => (ixOf xs.length k).map fun j => xs.set j y)
  | _ => none
def negD (x : D) (s : Sto) : Res D := match x with
  | .int i => .ok (.int (-i)) s
  | _ => .bad
def bitsD (x : D) (s : Sto) : Res D := match x with
  | .int i => .ok (.int (Builtin.Int.intBits i : Nat)) s
  | _ => .bad
def isStrD : D → Bool
  | .str _ => true
  | _ => false
def joinD (a b : D) (s : Sto) : Res D := match a, b with
  | .str z, d => match (listOf s d).bind strsOf with
    | some ys => guardD (decide ((ys.map (·.length)).sum + ys.length * z.length ≤ 16777216)) (.str (Txt.join z ys)) s
    | none => .bad
  | _, _ => .bad
def frzD (x : D) (s : Sto) : Res D := match x with
  | .lst i => match s[i]? with
    | some (.lst xs) => .ok (.rol xs) (s.set i .dead)
    | _ => .bad
  | .rol xs => .ok (.rol xs) s
  | _ => .bad

/-! ### what expressions give -/
abbrev Env := List (Option D)
abbrev Cf := Nat → Nat → List D → Sto → Res D
/-- what is walked: things that stand, told ahead -/
inductive Wk where
  | items (xs : List D)
  | live (d : D)
def wipeE (env : Env) : List Nat → Env
  | [] => env
  | v :: vs => (wipeE env vs).set v none
/-- the refusals, by their places -/
def clsNames : List Str := ["ArmError", "NoNumber", "NoField", "NoHeading", "Reached", "Endless", "NoWay", "NoPart", "NotRound", "NoArm", "NoPlace", "NoTurn", "Nowhere", "Stops", "Stuck", "NoJoint", "NoLimit", "Beyond"]
def clsName (c : Nat) : Str := clsNames.getD c "ArmError"
def kinStr (c : Nat) : Str := clsName c ++ "+"
/-- whether a clause of the class k takes the refusal c -/
def takesC (k c : Nat) : Bool := k == 0 || k == c
/-- the i-th thing of what is walked, as it stands -/
def wkAt (s : Sto) (i : Nat) : Wk → Option (Option D)
  | .items xs => some xs[i]?
  | .live d => (listOf s d).map (·[i]?)
/-- a text, sign by sign -/
def signs (z : Str) : List D := z.cps.toList.map fun c => .str ⟨#[c]⟩
def pairs2 (xs ys : List D) : List D := (xs.zip ys).map fun p => .tup [p.1, p.2]
def enumFrom (k : Nat) : List D → List D
  | [] => []
  | x :: xs => .tup [.int k, x] :: enumFrom (k + 1) xs

inductive SR where
  | nx (e : Env) (s : Sto) | rt (d : D) (s : Sto) | bk (e : Env) (s : Sto) | ct (e : Env) (s : Sto) | exc (c : Nat) (fs : List (Str × D)) (e : Env) (s : Sto) | bad
def SR.andThen (r : SR) (f : Env → Sto → SR) : SR := match r with
  | .nx e s => f e s
  | .rt d s => .rt d s
  | .bk e s => .bk e s
  | .ct e s => .ct e s
  | .exc c fs e s => .exc c fs e s
  | .bad => .bad
def Res.toS (r : Res D) (env : Env) (f : D → Sto → SR) : SR := match r with
  | .ok d s => f d s
  | .exc c fs s => .exc c fs env s
  | .bad => .bad
/-- a loop over what is walked: fuel, turn -/
def loopW (body : D → Env → Sto → SR) (w : Wk) : Nat → Nat → Env → Sto → SR
  | 0, _, _, _ => .bad
  | f + 1, i, env, s => match wkAt s i w with
    | none => .bad
    | some none => .nx env s
    | some (some d) => match body d env s with
      | .nx e' s' => loopW body w f (i + 1) e' s'
      | .ct e' s' => loopW body w f (i + 1) e' s'
      | .bk e' s' => .nx e' s'
      | r => r
def whileW (c : Env → Sto → Res D) (body : Env → Sto → SR) : Nat → Env → Sto → SR
  | 0, _, _ => .bad
  | f + 1, env, s => match c env s with
    | .ok (.bl true) s' => match body env s' with
      | .nx e' s'' => whileW c body f e' s''
      | .ct e' s'' => whileW c body f e' s''
      | .bk e' s'' => .nx e' s''
      | r => r
    | .ok (.bl false) s' => .nx env s'
    | .ok _ _ => .bad
    | .exc c fs s' => .exc c fs env s'
    | .bad => .bad
/-- a comprehension's turns: the target, the test, the element, over what is walked; no error leaves it -/
def lcW (turn : D → Sto → Option (Option D × Sto)) (w : Wk) : Nat → Nat → List D → Sto → Option (List D × Sto)
  | 0, _, _, _ => none
  | f + 1, i, acc, s => match wkAt s i w with
    | none => none
    | some none => some (acc, s)
    | some (some d) => match turn d s with
      | some (some y, s') => if lineLt acc.length then lcW turn w f (i + 1) (acc ++ [y]) s' else none
      | some (none, s') => lcW turn w f (i + 1) acc s'
      | none => none
/-! ### the meaning -/
def Res.toO (r : Res D) : Option (D × Sto) := match r with
  | .ok d s => some (d, s)
  | _ => none
mutual
def denE (F : Nat) (cf : Cf) : Nat → E → Env → Sto → Res D
  | _, .var i, env, s => match env[i]? with
    | some (some d) => .ok d s
    | _ => .bad
  | _, .cst d, _, s => .ok d s
  | _, .top _ d, _, s => .ok d s
  | n, .bin o a b, env, s => (denE F cf n a env s).bind fun x s1 => (denE F cf n b env s1).bind fun y s2 => binD o x y s2
  | n, .neg a, env, s => (denE F cf n a env s).bind negD
  | n, .cmp o a b, env, s => (denE F cf n a env s).bind fun x s1 => (denE F cf n b env s1).bind fun y s2 => cmpD o x y s2
  | n, .cmp2 o1 o2 a b c, env, s => (denE F cf n a env s).bind fun x s1 => (denE F cf n b env s1).bind fun y s2 => (cmpD o1 x y s2).bind fun r s3 => match r with
    | .bl true => (denE F cf n c env s3).bind fun z s4 => cmpD o2 y z s4
    | .bl false => .ok (.bl false) s3
    | _ => .bad
  | n, .nt a, env, s => (denE F cf n a env s).bind fun x s1 => match x with
    | .bl b => .ok (.bl (!b)) s1
    | _ => .bad
  | n, .and a b, env, s => (denE F cf n a env s).bind fun x s1 => match x with
    | .bl true => denE F cf n b env s1
    | .bl false => .ok (.bl false) s1
    | _ => .bad
  | n, .or a b, env, s => (denE F cf n a env s).bind fun x s1 => match x with
    | .bl true => .ok (.bl true) s1
    | .bl false => denE F cf n b env s1
    | _ => .bad
  | n, .ife t a b, env, s => (denE F cf n t env s).bind fun x s1 => match x with
    | .bl true => denE F cf n a env s1
    | .bl false => denE F cf n b env s1
    | _ => .bad
  | n, .tup es, env, s => (denEs F cf n es env s).bind fun xs s1 => guardD (lineOk xs.length) (.tup xs) s1
  | n, .lst m es, env, s => (denEs F cf n es env s).bind fun xs s1 => if lineOk xs.length then (if m then .ok (.lst s1.length) (s1 ++ [.lst xs]) else .ok (.rol xs) s1) else .bad
  | n, .ix a i, env, s => (denE F cf n a env s).bind fun x s1 => (denE F cf n i env s1).bind fun y s2 => ixD s2 x y
  | n, .rev a k, env, s => (denE F cf n a env s).bind fun x s1 => (denE F cf n k env s1).bind fun y s2 => revD x y s2
  | n, .sl a lo hi, env, s => (denE F cf n a env s).bind fun x s1 => (denO F cf n lo env s1).bind fun l s2 => (denO F cf n hi env s2).bind fun u s3 => slD s3 x l u
  | n, .call f es, env, s => (denEs F cf n es env s).bind fun xs s1 => cf n f xs s1
  | n, .prim p es, env, s => (denEs F cf n es env s).bind fun xs s1 => primD p xs s1
  | n, .app a b, env, s => (denE F cf n a env s).bind fun x s1 => if (listOf s1 x).isSome then (denE F cf n b env s1).bind fun y s2 => appD x y s2 else .bad
  | n, .ins a i b, env, s => (denE F cf n a env s).bind fun x s1 => if (listOf s1 x).isSome then (denE F cf n i env s1).bind fun k s2 => (denE F cf n b env s2).bind fun y s3 => insD x k y s3 else .bad
  | n, .bits a, env, s => (denE F cf n a env s).bind bitsD
  | n, .join a b, env, s => (denE F cf n a env s).bind fun x s1 => if isStrD x then (denE F cf n b env s1).bind fun y s2 => joinD x y s2 else .bad
  | n, .frz a, env, s => (denE F cf n a env s).bind frzD
  | n, .lc own tg it c e, env, s => (denIt F cf n it env s).bind fun w s1 =>
      match lcW (fun d s2 => match setTg F cf n tg d (wipeE env own) s2 with
        | .nx env' s3 => match denC F cf n c env' s3 with
          | .ok (.bl true) s4 => match denE F cf n e env' s4 with
            | .ok y s5 => some (some y, s5)
            | _ => none
          | .ok (.bl false) s4 => some (none, s4)
          | _ => none
        | _ => none) w F 0 [] s1 with
      | some (xs, s2) => .ok (.rol xs) s2
      | none => .bad
  | n, .tryl cs e, env, s => match n with
    | m + 2 => match denE F cf m e env s with
      | .ok d s1 => .ok (.tup [.str "told", d]) s1
      | .exc c [] s1 => if c ∈ cs then .ok (.str (kinStr c)) s1 else .bad
      | _ => .bad
    | _ => .bad
def denC (F : Nat) (cf : Cf) : Nat → Oe → Env → Sto → Res D
  | _, .no, _, s => .ok (.bl true) s
  | n, .so e, env, s => denE F cf n e env s
def denO (F : Nat) (cf : Cf) : Nat → Oe → Env → Sto → Res (Option Int)
  | _, .no, _, s => .ok none s
  | n, .so e, env, s => match denE F cf n e env s with
    | .ok (.int i) s1 => .ok (some i) s1
    | .exc c fs s1 => .exc c fs s1
    | _ => .bad
def denEs (F : Nat) (cf : Cf) : Nat → Es → Env → Sto → Res (List D)
  | _, .nil, _, s => .ok [] s
  | n, .cons e es, env, s => (denE F cf n e env s).bind fun x s1 => (denEs F cf n es env s1).bind fun xs s2 => .ok (x :: xs) s2
def denIt (F : Nat) (cf : Cf) : Nat → It → Env → Sto → Res Wk
  | n, .seq e, env, s => (denE F cf n e env s).bind fun x s1 => match x with
    | .tup xs => .ok (.items xs) s1
    | .rol xs => .ok (.items xs) s1
    | .str z => .ok (.items (signs z)) s1
    | .lst i => match listOf s1 (.lst i) with
      | some _ => .ok (.live (.lst i)) s1
      | none => .bad
    | _ => .bad
  | n, .rng e, env, s => (denE F cf n e env s).bind fun x s1 => match x with
    | .int j => if decide (-(2 ^ 62) ≤ j) && decide (j < 2 ^ 62) then .ok (.items ((List.range j.toNat).map fun k => .int (k : Nat))) s1 else .bad
    | _ => .bad
  | n, .rng2 a b, env, s => (denE F cf n a env s).bind fun x s1 => (denE F cf n b env s1).bind fun y s2 => match x, y with
    | .int i, .int j => if decide (-(2 ^ 62) ≤ i) && decide (i < 2 ^ 62) && decide (-(2 ^ 62) ≤ j) && decide (j < 2 ^ 62) then .ok (.items ((List.range (j - i).toNat).map fun k => .int (i + (k : Nat)))) s2 else .bad
    | _, _ => .bad
  | n, .enum e, env, s => (denE F cf n e env s).bind fun x s1 => match x with
    | .rol xs => .ok (.items (enumFrom 0 xs)) s1
    | .tup xs => .ok (.items (enumFrom 0 xs)) s1
    | _ => .bad
  | n, .zip a b, env, s => (denE F cf n a env s).bind fun x s1 => (denE F cf n b env s1).bind fun y s2 => match x, y with
    | .tup xs, .tup ys => .ok (.items (pairs2 xs ys)) s2
    | .rol xs, .rol ys => .ok (.items (pairs2 xs ys)) s2
    | _, _ => .bad
def setTg (F : Nat) (cf : Cf) : Nat → Tg → D → Env → Sto → SR
  | _, .nm i, d, env, s => if i < env.length then .nx (env.set i (some d)) s else .bad
  | n, .tup ts, d, env, s => match d with
    | .tup xs => if xs.length = ts.len then setTgs F cf n ts xs env s else .bad
    | _ => .bad
  | n, .sub a i, d, env, s => (denE F cf n a env s).toS env fun x s1 => (denE F cf n i env s1).toS env fun y s2 => match setIx x y d s2 with
    | some s3 => .nx env s3
    | none => .bad
def setTgs (F : Nat) (cf : Cf) : Nat → Tgs → List D → Env → Sto → SR
  | _, .nil, xs, env, s => match xs with
    | [] => .nx env s
    | _ => .bad
  | n, .cons t ts, xs, env, s => match xs with
    | d :: r => (setTg F cf n t d env s).andThen fun e1 s1 => setTgs F cf n ts r e1 s1
    | [] => .bad
end
/-- name op= thing -/
def augS (i : Nat) (o : Bo) (x y : D) (env : Env) (s : Sto) : SR := match o with
  | .add => (match x, y with
    | .lst k, .lst j => (match listOf s (.lst j) with
      | some ys => (match setL s (.lst k) (fun xs => if lineOk (xs.length + ys.length) then some (xs ++ ys) else none) with
        | some s2 => .nx env s2
        | none => .bad)
      | none => .bad)
    | .int a, .int b => .nx (env.set i (some (.int (a + b)))) s
    | _, _ => .bad)
  | _ => .bad
mutual
def denS (F : Nat) (cf : Cf) : Nat → S → Env → Sto → SR
  | n, .set t e, env, s => (denE F cf n e env s).toS env fun d s1 => setTg F cf n t d env s1
  | n, .par i j a b, env, s => (denE F cf n a env s).toS env fun x s1 => (denE F cf n b env s1).toS env fun y s2 =>
      if i < env.length ∧ j < env.length then .nx ((env.set i (some x)).set j (some y)) s2 else .bad
  | n, .par3 i j k a b c, env, s => (denE F cf n a env s).toS env fun x s1 => (denE F cf n b env s1).toS env fun y s2 => (denE F cf n c env s2).toS env fun z s3 =>
      if i < env.length ∧ j < env.length ∧ k < env.length then .nx (((env.set i (some x)).set j (some y)).set k (some z)) s3 else .bad
  | n, .aug i o e, env, s => match env[i]? with
    | some (some x) => (denE F cf n e env s).toS env fun y s1 => augS i o x y env s1
    | _ => .bad
  | n, .ex e, env, s => (denE F cf n e env s).toS env fun _ s1 => .nx env s1
  | n, .ret e, env, s => (denE F cf n e env s).toS env fun d s1 => .rt d s1
  | _, .retn, _, s => .rt .non s
  | n, .ite c a b, env, s => (denE F cf n c env s).toS env fun x s1 => match x with
    | .bl true => denSs F cf n a env s1
    | .bl false => denSs F cf n b env s1
    | _ => .bad
  | n, .whl c b, env, s => whileW (fun e s1 => denE F cf n c e s1) (fun e s1 => denSs F cf n b e s1) F env s
  | n, .forr t it b, env, s => match denIt F cf n it env s with
    | .ok w s1 => loopW (fun d e s2 => (setTg F cf n t d e s2).andThen fun e1 s3 => denSs F cf n b e1 s3) w F 0 env s1
    | .exc c fs s1 => .exc c fs env s1
    | .bad => .bad
  | _, .rai c, env, s => .exc c [] env s
  | n, .tryo b cs k d, env, s => match denSs F cf n b env s with
    | .exc c [] e s1 => if c ∈ cs then (if takesC k c then .rt d s1 else .exc c [] e s1) else .bad
    | .exc _ (_ :: _) _ _ => .bad
    | r => r
  | _, .pas, env, s => .nx env s
  | _, .brk, env, s => .bk env s
  | _, .cnt, env, s => .ct env s
def denSs (F : Nat) (cf : Cf) : Nat → Ss → Env → Sto → SR
  | _, .nil, env, s => .nx env s
  | n, .cons st ss, env, s => (denS F cf n st env s).andThen fun e1 s1 => denSs F cf n ss e1 s1
end
/-- a def: how many parameters, how many names, the body -/
structure Fn where
  name : Str
  np : Nat
  nsl : Nat
  body : Ss
def startE (fn : Fn) (args : List D) : Env := args.map some ++ List.replicate (fn.nsl - args.length) none
def runFn (F : Nat) (cf : Cf) (n : Nat) (fn : Fn) (args : List D) (s : Sto) : Res D :=
  if args.length = fn.np then match denSs F cf n fn.body (startE fn args) s with
    | .nx _ s1 => .ok .non s1
    | .rt d s1 => .ok d s1
    | .exc c fs _ s1 => .exc c fs s1
    | _ => .bad
  else .bad
def callT (F : Nat) (G : List Fn) : Nat → Cf
  | 0 => fun _ _ _ _ => .bad
  | n + 1 => fun m f args s => if m ≤ n then callT F G n m f args s else match G[f]? with
    | some fn => runFn F (callT F G n) n fn args s
    | none => .bad
/-- a def called, with so many calls within one another at most -/
def callD (F : Nat) (G : List Fn) (n : Nat) (f : Nat) (args : List D) (s : Sto) : Res D := callT F G n n f args s
theorem callT_low (F : Nat) (G : List Fn) {m : Nat} : ∀ {n : Nat}, m ≤ n → callT F G n m = callT F G m m
  | 0, h => by
    obtain rfl : m = 0 := by omega
    rfl
  | n + 1, h => by
    by_cases e : m = n + 1
    · rw [e]
    · have h' : m ≤ n := by omega
      rw [← callT_low F G h']
      funext f args s
      show (if m ≤ n then _ else _) = _
      rw [if_pos h']
theorem callD_succ (F : Nat) (G : List Fn) (n f : Nat) (args : List D) (s : Sto) :
    callD F G (n + 1) f args s = match G[f]? with
      | some fn => runFn F (callT F G n) n fn args s
      | none => .bad := by
  show (if n + 1 ≤ n then _ else _) = _
  rw [if_neg (by omega)]
/-! ### the same data -/
mutual
def D.eqb : D → D → Bool
  | .non, .non => true
  | .bl a, .bl b => a == b
  | .int a, .int b => decide (a = b)
  | .str a, .str b => a == b
  | .tup a, .tup b => D.eqbs a b
  | .rol a, .rol b => D.eqbs a b
  | _, _ => false
def D.eqbs : List D → List D → Bool
  | [], [] => true
  | a :: as, b :: bs => D.eqb a b && D.eqbs as bs
  | _, _ => false
end
mutual
theorem D.eqb_eq : ∀ (a b : D), D.eqb a b = true → a = b
  | .non, b, h => by cases b <;> first | rfl | cases h
  | .bl a, b, h => by cases b <;> first | (simp only [D.eqb, beq_iff_eq] at h; rw [h]) | cases h
  | .int a, b, h => by cases b <;> first | (simp only [D.eqb, decide_eq_true_eq] at h; rw [h]) | cases h
  | .str a, b, h => by cases b <;> first | (simp only [D.eqb, beq_iff_eq] at h; rw [h]) | cases h
  | .tup a, b, h => by cases b <;> first | (rw [D.eqbs_eq a _ h]) | cases h
  | .rol a, b, h => by cases b <;> first | (rw [D.eqbs_eq a _ h]) | cases h
  | .lst _, _, h => by cases h
  | .obj _, _, h => by cases h
theorem D.eqbs_eq : ∀ (a b : List D), D.eqbs a b = true → a = b
  | [], b, h => by cases b <;> first | rfl | cases h
  | a :: as, b, h => by
    cases b with
    | nil => cases h
    | cons b bs =>
      simp only [D.eqbs, Bool.and_eq_true] at h
      rw [D.eqb_eq a b h.1, D.eqbs_eq as bs h.2]
end

end Dn

end
section
set_option Elab.async false
set_option maxRecDepth 100000
set_option maxHeartbeats 4000000
set_option linter.unusedVariables false
/-! Dn1: how tree data and the store lie in the abstract heap. -/
namespace Dn
open PySem PySem.Spec PyProof.Rows L2 LamX

/-- what stays through a law: the written part, the tables of code objects, the classes of the refusals -/
structure Kit where
  K : PySem.W.Frag
  T : List (Addr × Str)
  cv : Nat → Value
  /-- the refusals that may be raised -/
  xs : List Nat
  /-- lists that a comprehension is filling: nothing told is one of them -/
  Z : List Addr
abbrev Kit.at (M : Kit) (Z : List Addr) : Kit := { M with Z := Z }

/-- a cell of the store that may be changed stands there -/
def Lv (β : List Addr) (s : Sto) (a : Addr) : Prop := ∃ (i : Nat) (c : Cell), β[i]? = some a ∧ s[i]? = some c ∧ c.live = true
/-- a list of the written part -/
def KLst (K : PySem.W.Frag) (a : Addr) (xs : List V) : Prop :=
  ∃ (o : Obj) (its : Array Value) (n : Nat), K.lookup a = some o ∧ o.cls = .type "list" ∧ o.dict = none ∧ o.data = .seq its n ∧ its.size ≤ sizeLine ∧ Vals xs its.toList

mutual
def RD (M : Kit) (H : Hp) (β : List Addr) (s : Sto) : D → V → Prop
  | .non, v => v = .non
  | .bl b, v => v = .bl b
  | .int i, v => v = .int i
  | .str x, v => v = .str x
  | .tup ds, v => ∃ a xs, v = .ref a ∧ SqT M.K H a xs ∧ RDs M H β s ds xs
  | .rol ds, v => ∃ a xs, v = .ref a ∧ ((Rd H a (.lst xs) ∧ ¬ Lv β s a ∧ a ∉ M.Z) ∨ KLst M.K a xs) ∧ RDs M H β s ds xs
  | .lst i, v => ∃ a, β[i]? = some a ∧ v = .ref a
  | .obj i, v => ∃ a, β[i]? = some a ∧ v = .ref a
def RDs (M : Kit) (H : Hp) (β : List Addr) (s : Sto) : List D → List V → Prop
  | [], [] => True
  | d :: ds, v :: vs => RD M H β s d v ∧ RDs M H β s ds vs
  | [], _ :: _ => False
  | _ :: _, [] => False
end
def CellOk (M : Kit) (H : Hp) (β : List Addr) (s : Sto) : Cell → Addr → Prop
  | .lst ds, a => ∃ xs, H a = some (.lst xs) ∧ RDs M H β s ds xs
  | .ins _ _, _ => False
  | .dead, _ => True
/-- the store lies in the heap -/
structure RS (M : Kit) (H : Hp) (β : List Addr) (s : Sto) : Prop where
  len : β.length = s.length
  cells : ∀ (i : Nat) (a : Addr) (c : Cell), β[i]? = some a → s[i]? = some c → CellOk M H β s c a
  inj : ∀ (i j : Nat) (a : Addr) (c c' : Cell), β[i]? = some a → β[j]? = some a → s[i]? = some c → s[j]? = some c' → c.live = true → c'.live = true → i = j
  tabs : Tabs M.T H
  open_ : ∀ a ∈ M.Z, (∃ xs, H a = some (.lst xs)) ∧ ¬ Lv β s a
/-- what stands from one state to a later one -/
structure Kp (H : Hp) (β : List Addr) (s : Sto) (H' : Hp) (β' : List Addr) (s' : Sto) : Prop where
  pre : ∀ (i : Nat) (a : Addr), β[i]? = some a → β'[i]? = some a
  kp : ∀ b o, H b = some o → ¬ Lv β s b → (∀ ps, o ≠ .tbl ps) → H' b = some o ∧ ¬ Lv β' s' b

section
variable {M : Kit} {H H1 H2 : Hp} {β β1 β2 : List Addr} {s s1 s2 : Sto}
theorem Kp.refl (H : Hp) (β : List Addr) (s : Sto) : Kp H β s H β s := ⟨fun _ _ h => h, fun _ _ h n _ => ⟨h, n⟩⟩
theorem Kp.trans (a : Kp H β s H1 β1 s1) (b : Kp H1 β1 s1 H2 β2 s2) : Kp H β s H2 β2 s2 :=
  ⟨fun i x h => b.pre i x (a.pre i x h), fun c o h n t => let ⟨h1, n1⟩ := a.kp c o h n t; b.kp c o h1 n1 t⟩
theorem RS.lv (R : RS M H β s) {a : Addr} (h : Lv β s a) : ∃ xs, H a = some (.lst xs) := by
  obtain ⟨i, c, h1, h2, h3⟩ := h
  have q := R.cells i a c h1 h2
  cases c with
  | lst ds => obtain ⟨xs, e, _⟩ := q; exact ⟨xs, e⟩
  | ins c fs => exact q.elim
  | dead => cases h3
theorem RS.nlv (R : RS M H β s) {a : Addr} {o : HO} (h : H a = some o) (n : ∀ xs, o ≠ .lst xs) : ¬ Lv β s a := fun l => by
  obtain ⟨xs, e⟩ := R.lv l
  rw [h] at e
  exact n xs (Option.some.inj e)
theorem RS.nlv0 (R : RS M H β s) {a : Addr} (h : H a = none) : ¬ Lv β s a := fun l => by
  obtain ⟨xs, e⟩ := R.lv l
  rw [h] at e; cases e
theorem Kp.rdt (R : RS M H β s) (k : Kp H β s H1 β1 s1) {a : Addr} {xs : List V} (h : Rd H a (.tup xs)) : Rd H1 a (.tup xs) := by
  rcases h with h | ⟨o, h⟩
  · exact .inl (k.kp a _ h (R.nlv h (fun _ z => nomatch z)) (fun _ z => nomatch z)).1
  · exact .inr ⟨o, (k.kp a _ h (R.nlv h (fun _ z => nomatch z)) (fun _ z => nomatch z)).1⟩
theorem Kp.sqt (R : RS M H β s) (k : Kp H β s H1 β1 s1) {a : Addr} {xs : List V} (h : SqT M.K H a xs) : SqT M.K H1 a xs := by
  rcases h with h | h
  · exact .inl (k.rdt R h)
  · exact .inr h
theorem Kp.rdl (k : Kp H β s H1 β1 s1) {a : Addr} {xs : List V} (h : Rd H a (.lst xs)) (n : ¬ Lv β s a) : Rd H1 a (.lst xs) ∧ ¬ Lv β1 s1 a := by
  rcases h with h | ⟨o, h⟩
  · have q := k.kp a _ h n (fun _ z => nomatch z)
    exact ⟨.inl q.1, q.2⟩
  · have q := k.kp a _ h n (fun _ z => nomatch z)
    exact ⟨.inr ⟨o, q.1⟩, q.2⟩
mutual
theorem RD.mono (R : RS M H β s) (k : Kp H β s H1 β1 s1) : ∀ (d : D) {v : V}, RD M H β s d v → RD M H1 β1 s1 d v
  | .non, _, h => h
  | .bl _, _, h => h
  | .int _, _, h => h
  | .str _, _, h => h
  | .tup ds, _, ⟨a, xs, e, h, r⟩ => ⟨a, xs, e, k.sqt R h, RDs.mono R k ds r⟩
  | .rol ds, _, ⟨a, xs, e, h, r⟩ => ⟨a, xs, e, h.elim (fun q => .inl ⟨(k.rdl q.1 q.2.1).1, (k.rdl q.1 q.2.1).2, q.2.2⟩) .inr, RDs.mono R k ds r⟩
  | .lst _, _, ⟨a, h, e⟩ => ⟨a, k.pre _ _ h, e⟩
  | .obj _, _, ⟨a, h, e⟩ => ⟨a, k.pre _ _ h, e⟩
theorem RDs.mono (R : RS M H β s) (k : Kp H β s H1 β1 s1) : ∀ (ds : List D) {vs : List V}, RDs M H β s ds vs → RDs M H1 β1 s1 ds vs
  | [], [], h => h
  | d :: ds, v :: vs, h => ⟨RD.mono R k d h.1, RDs.mono R k ds h.2⟩
  | [], _ :: _, h => h.elim
  | _ :: _, [], h => h.elim
end
theorem RDs.length : ∀ {ds : List D} {vs : List V}, RDs M H β s ds vs → ds.length = vs.length
  | [], [], _ => rfl
  | _ :: _, _ :: _, h => by rw [List.length_cons, List.length_cons, RDs.length h.2]
  | [], _ :: _, h => h.elim
  | _ :: _, [], h => h.elim
theorem RDs.get : ∀ {ds : List D} {vs : List V} {i : Nat} {d : D}, RDs M H β s ds vs → ds[i]? = some d → ∃ v, vs[i]? = some v ∧ RD M H β s d v
  | [], [], _, _, _, e => by simp at e
  | d :: ds, v :: vs, 0, _, h, e => by simp at e; subst e; exact ⟨v, rfl, h.1⟩
  | d :: ds, v :: vs, i + 1, _, h, e => by
    obtain ⟨u, h1, h2⟩ := RDs.get (i := i) h.2 (by simpa using e)
    exact ⟨u, by simpa using h1, h2⟩
  | [], _ :: _, _, _, h, _ => h.elim
  | _ :: _, [], _, _, h, _ => h.elim
theorem RDs.get' : ∀ {ds : List D} {vs : List V} {i : Nat} {v : V}, RDs M H β s ds vs → vs[i]? = some v → ∃ d, ds[i]? = some d ∧ RD M H β s d v
  | [], [], _, _, _, e => by simp at e
  | d :: ds, v :: vs, 0, _, h, e => by simp at e; subst e; exact ⟨d, rfl, h.1⟩
  | d :: ds, v :: vs, i + 1, _, h, e => by
    obtain ⟨u, h1, h2⟩ := RDs.get' (i := i) h.2 (by simpa using e)
    exact ⟨u, by simpa using h1, h2⟩
  | [], _ :: _, _, _, h, _ => h.elim
  | _ :: _, [], _, _, h, _ => h.elim
theorem RDs.append : ∀ {ds es : List D} {vs us : List V}, RDs M H β s ds vs → RDs M H β s es us → RDs M H β s (ds ++ es) (vs ++ us)
  | [], _, [], _, _, h => h
  | _ :: _, _, _ :: _, _, h, h' => ⟨h.1, RDs.append h.2 h'⟩
  | [], _, _ :: _, _, h, _ => h.elim
  | _ :: _, _, [], _, h, _ => h.elim
theorem RDs.take : ∀ {ds : List D} {vs : List V} (n : Nat), RDs M H β s ds vs → RDs M H β s (ds.take n) (vs.take n)
  | [], [], _, _ => by simp [RDs]
  | _ :: _, _ :: _, 0, _ => trivial
  | _ :: _, _ :: _, n + 1, h => ⟨h.1, RDs.take n h.2⟩
  | [], _ :: _, _, h => h.elim
  | _ :: _, [], _, h => h.elim
theorem RDs.drop : ∀ {ds : List D} {vs : List V} (n : Nat), RDs M H β s ds vs → RDs M H β s (ds.drop n) (vs.drop n)
  | [], [], _, _ => by simp [RDs]
  | _ :: _, _ :: _, 0, h => h
  | _ :: _, _ :: _, n + 1, h => RDs.drop n h.2
  | [], _ :: _, _, h => h.elim
  | _ :: _, [], _, h => h.elim
theorem RDs.set : ∀ {ds : List D} {vs : List V} {d : D} {v : V} (n : Nat), RDs M H β s ds vs → RD M H β s d v → RDs M H β s (ds.set n d) (vs.set n v)
  | [], [], _, _, _, _, _ => by simp [RDs]
  | _ :: _, _ :: _, _, _, 0, h, q => ⟨q, h.2⟩
  | _ :: _, _ :: _, _, _, n + 1, h, q => ⟨h.1, RDs.set n h.2 q⟩
  | [], _ :: _, _, _, _, h, _ => h.elim
  | _ :: _, [], _, _, _, h, _ => h.elim
theorem RDs.one {d : D} {v : V} (h : RD M H β s d v) : RDs M H β s [d] [v] := ⟨h, trivial⟩

/-- a list that may be read: its items -/
theorem RD.listOf (R : RS M H β s) {d : D} {xs : List D} {v : V} (h : RD M H β s d v) (e : listOf s d = some xs) : ∃ a vs, v = .ref a ∧ SqL M.K H a vs ∧ RDs M H β s xs vs := by
  cases d with
  | rol ds =>
    obtain rfl : ds = xs := by simpa [Dn.listOf] using e
    obtain ⟨a, vs, ev, q, r⟩ := h
    exact ⟨a, vs, ev, q.elim (fun z => .inl z.1) (fun z => .inr z), r⟩
  | lst i =>
    obtain ⟨a, hb, ev⟩ := h
    simp only [Dn.listOf] at e
    split at e
    · rename_i ys hs
      cases e
      obtain ⟨vs, h1, h2⟩ := R.cells i a _ hb hs
      exact ⟨a, vs, ev, SqL.of h1, h2⟩
    · cases e
  | _ => simp [Dn.listOf] at e
theorem RD.seqOf (R : RS M H β s) {d : D} {xs : List D} {v : V} (h : RD M H β s d v) (e : seqOf s d = some xs) :
    ∃ a vs, v = .ref a ∧ ((SqL M.K H a vs ∧ Dn.listOf s d = some xs) ∨ (SqT M.K H a vs ∧ d = .tup xs)) ∧ RDs M H β s xs vs := by
  cases d with
  | tup ds =>
    obtain rfl : ds = xs := by simpa [Dn.seqOf] using e
    obtain ⟨a, vs, ev, q, r⟩ := h
    exact ⟨a, vs, ev, .inr ⟨q, rfl⟩, r⟩
  | rol ds =>
    obtain ⟨a, vs, ev, q, r⟩ := RD.listOf R h e
    exact ⟨a, vs, ev, .inl ⟨q, e⟩, r⟩
  | lst i =>
    obtain ⟨a, vs, ev, q, r⟩ := RD.listOf R h e
    exact ⟨a, vs, ev, .inl ⟨q, e⟩, r⟩
  | _ => simp [Dn.seqOf, Dn.listOf] at e

theorem RS.open_mono (R : RS M H β s) (k : Kp H β s H1 β1 s1) : ∀ a ∈ M.Z, (∃ xs, H1 a = some (.lst xs)) ∧ ¬ Lv β1 s1 a := fun a ha => by
  obtain ⟨⟨xs, h⟩, n⟩ := R.open_ a ha
  have q := k.kp a _ h n (fun _ z => nomatch z)
  exact ⟨⟨xs, q.1⟩, q.2⟩
theorem RS.freshZ (R : RS M H β s) {p : Addr} (h : H p = none) : p ∉ M.Z := fun hp => by
  obtain ⟨⟨xs, e⟩, _⟩ := R.open_ p hp
  rw [h] at e; cases e

/-! ### the state grows -/
theorem Kp.alloc {p : Addr} {o : HO} (h : H p = none) : Kp H β s (upd H p o) β s :=
  ⟨fun _ _ q => q, fun b u q n _ => ⟨by rw [upd_ne (ne_of_none q h)]; exact q, n⟩⟩
theorem upd_ext {p : Addr} {o : HO} (h : H p = none) : ∀ b u, H b = some u → upd H p o b = some u := fun b u q => by
  rw [upd_ne (ne_of_none q h)]; exact q
theorem CellOk.mono (R : RS M H β s) (k : Kp H β s H1 β1 s1) {c : Cell} {a : Addr} (e : ∀ xs, H a = some (.lst xs) → H1 a = some (.lst xs)) (h : CellOk M H β s c a) : CellOk M H1 β1 s1 c a := by
  cases c with
  | lst ds => obtain ⟨xs, h1, h2⟩ := h; exact ⟨xs, e xs h1, RDs.mono R k ds h2⟩
  | ins c fs => exact h
  | dead => trivial
theorem RS.alloc (R : RS M H β s) {p : Addr} {o : HO} (h : H p = none) : RS M (upd H p o) β s :=
  ⟨R.len, fun i a c h1 h2 => (R.cells i a c h1 h2).mono R (.alloc h) fun xs q => upd_ext h _ _ q, R.inj, R.tabs.ext (upd_ext h), R.open_mono (.alloc h)⟩
theorem push_get {β : List Addr} {i : Nat} {p a : Addr} (h : (β ++ [p])[i]? = some a) : β[i]? = some a ∨ (i = β.length ∧ a = p) := by
  by_cases hi : i < β.length
  · rw [List.getElem?_append_left hi] at h
    exact .inl h
  · rw [List.getElem?_append_right (by omega)] at h
    by_cases h0 : i - β.length = 0
    · rw [h0] at h
      exact .inr ⟨by omega, by simpa using h.symm⟩
    · obtain ⟨k, hk⟩ : ∃ k, i - β.length = k + 1 := ⟨i - β.length - 1, by omega⟩
      rw [hk] at h
      simp at h
theorem Kp.push (R : RS M H β s) {p : Addr} {o : HO} {c : Cell} (h : H p = none) : Kp H β s (upd H p o) (β ++ [p]) (s ++ [c]) := by
  refine ⟨fun i a q => ?_, fun b u q n _ => ⟨upd_ext h _ _ q, fun l => ?_⟩⟩
  · rw [List.getElem?_append_left (List.getElem?_eq_some_iff.mp q).1]; exact q
  · obtain ⟨i, c', h1, h2, h3⟩ := l
    rcases push_get h1 with z | ⟨z, e⟩
    · refine n ⟨i, c', z, ?_, h3⟩
      have hi : i < s.length := by rw [← R.len]; exact (List.getElem?_eq_some_iff.mp z).1
      rw [List.getElem?_append_left hi] at h2
      exact h2
    · rw [e, h] at q; cases q
theorem RS.push (R : RS M H β s) {p : Addr} {xs : List V} {ds : List D} (h : H p = none) (r : RDs M H β s ds xs) : RS M (upd H p (.lst xs)) (β ++ [p]) (s ++ [.lst ds]) := by
  have k : Kp H β s (upd H p (.lst xs)) (β ++ [p]) (s ++ [.lst ds]) := .push R h
  have old : ∀ (i : Nat) (a : Addr) (c : Cell), β[i]? = some a → (s ++ [Cell.lst ds])[i]? = some c → s[i]? = some c := fun i a c z q => by
    have hi : i < s.length := by rw [← R.len]; exact (List.getElem?_eq_some_iff.mp z).1
    rw [List.getElem?_append_left hi] at q
    exact q
  refine ⟨by rw [List.length_append, List.length_append, R.len]; rfl, fun i a c h1 h2 => ?_, fun i j a c c' h1 h2 h3 h4 h5 h6 => ?_, R.tabs.ext (upd_ext h), R.open_mono k⟩
  · rcases push_get h1 with z | ⟨z, e⟩
    · exact (R.cells i a c z (old i a c z h2)).mono R k fun _ q => upd_ext h _ _ q
    · have ec : c = .lst ds := by
        rw [z, R.len, List.getElem?_append_right (Nat.le_refl _)] at h2
        simpa using h2.symm
      subst ec
      exact ⟨xs, by rw [e, upd_same], RDs.mono R k ds r⟩
  · have fresh : ∀ (i : Nat) (c : Cell), β[i]? = some p → s[i]? = some c → c.live = true → False := fun i c z q l => R.nlv0 h ⟨i, c, z, q, l⟩
    rcases push_get h1 with z | ⟨z, e⟩
    · rcases push_get h2 with y | ⟨y, e'⟩
      · exact R.inj i j a c c' z y (old i a c z h3) (old j a c' y h4) h5 h6
      · rw [e'] at z
        exact (fresh i c z (old i p c z h3) h5).elim
    · rcases push_get h2 with y | ⟨y, e'⟩
      · rw [e] at y
        exact (fresh j c' y (old j p c' y h4) h6).elim
      · rw [z, y]
theorem set_get {s : Sto} {i j : Nat} {c c' : Cell} (h : (s.set i c)[j]? = some c') : (j = i ∧ c' = c) ∨ (j ≠ i ∧ s[j]? = some c') := by
  by_cases e : j = i
  · subst e
    by_cases hl : j < s.length
    · rw [List.getElem?_set_self hl] at h
      exact .inl ⟨rfl, (Option.some.inj h).symm⟩
    · rw [List.getElem?_eq_none (by rw [List.length_set]; omega)] at h; cases h
  · rw [List.getElem?_set_ne (Ne.symm e)] at h
    exact .inr ⟨e, h⟩
theorem Kp.write {i : Nat} {a : Addr} {c c' : Cell} {o : HO} (hb : β[i]? = some a) (hs : s[i]? = some c) (hl : c.live = true) : Kp H β s (upd H a o) β (s.set i c') := by
  refine ⟨fun _ _ q => q, fun b u q n _ => ⟨?_, fun l => ?_⟩⟩
  · rw [upd_ne (fun e => n (by rw [e]; exact ⟨i, c, hb, hs, hl⟩))]; exact q
  · obtain ⟨j, d, h1, h2, h3⟩ := l
    rcases set_get h2 with ⟨e, _⟩ | ⟨_, h2⟩
    · subst e
      rw [hb] at h1; cases h1
      exact n ⟨j, c, hb, hs, hl⟩
    · exact n ⟨j, d, h1, h2, h3⟩
theorem tabs_write {a : Addr} {xs ys : List V} {T : List (Addr × Str)} (h : H a = some (.lst xs)) (t : Tabs T H) : Tabs T (upd H a (.lst ys)) := fun p hp => by
  obtain ⟨ps, h1, h2, h3⟩ := t p hp
  refine ⟨ps, by rw [upd_ne (ne_of h1 h (fun z => nomatch z))]; exact h1, h2, fun pos cv hc => ?_⟩
  obtain ⟨c, e1, e2⟩ := h3 pos cv hc
  exact ⟨c, e1, by rw [upd_ne (ne_of e2 h (fun z => by unfold CodeO at z; cases z))]; exact e2⟩
/-- the list of a cell gets other items -/
theorem RS.write (R : RS M H β s) {i : Nat} {a : Addr} {ds ds' : List D} {vs' : List V} (hb : β[i]? = some a) (hs : s[i]? = some (.lst ds)) (r : RDs M H β s ds' vs') : RS M (upd H a (.lst vs')) β (s.set i (.lst ds')) := by
  have k : Kp H β s (upd H a (.lst vs')) β (s.set i (.lst ds')) := .write hb hs rfl
  obtain ⟨xs, hH, _⟩ := R.cells i a _ hb hs
  refine ⟨by rw [List.length_set]; exact R.len, fun j b c h1 h2 => ?_, fun j l b c c' h1 h2 h3 h4 h5 h6 => ?_, tabs_write hH R.tabs, R.open_mono k⟩
  · rcases set_get h2 with ⟨e, ec⟩ | ⟨ne, h2⟩
    · subst e ec
      rw [hb] at h1; cases h1
      exact ⟨vs', upd_same, RDs.mono R k ds' r⟩
    · cases c with
      | dead => trivial
      | ins c fs => exact R.cells j b _ h1 h2
      | lst es =>
        refine (R.cells j b _ h1 h2).mono R k fun ys q => ?_
        rw [upd_ne (fun e => ne (R.inj j i b _ _ h1 (by rw [e]; exact hb) h2 hs rfl rfl))]; exact q
  · have get : ∀ (j : Nat) (c : Cell), (s.set i (.lst ds'))[j]? = some c → c.live = true → ∃ c0, s[j]? = some c0 ∧ c0.live = true := fun j c q hl => by
      rcases set_get q with ⟨e, _⟩ | ⟨_, q⟩
      · subst e; exact ⟨_, hs, rfl⟩
      · exact ⟨c, q, hl⟩
    obtain ⟨c0, q0, l0⟩ := get j c h3 h5
    obtain ⟨c1, q1, l1⟩ := get l c' h4 h6
    exact R.inj j l b c0 c1 h1 h2 q0 q1 l0 l1
/-- a cell is given up: its list stays as it is -/
theorem Kp.drop {i : Nat} : Kp H β s H β (s.set i .dead) := by
  refine ⟨fun _ _ q => q, fun b u q n _ => ⟨q, fun l => ?_⟩⟩
  obtain ⟨j, d, h1, h2, h3⟩ := l
  rcases set_get h2 with ⟨_, e⟩ | ⟨_, h2⟩
  · subst e; cases h3
  · exact n ⟨j, d, h1, h2, h3⟩
theorem RS.drop (R : RS M H β s) (i : Nat) : RS M H β (s.set i .dead) := by
  refine ⟨by rw [List.length_set]; exact R.len, fun j b c h1 h2 => ?_, fun j l b c c' h1 h2 h3 h4 h5 h6 => ?_, R.tabs, R.open_mono .drop⟩
  · rcases set_get h2 with ⟨_, ec⟩ | ⟨_, h2⟩
    · subst ec; trivial
    · exact (R.cells j b c h1 h2).mono R .drop fun _ q => q
  · have get : ∀ (j : Nat) (c : Cell), (s.set i .dead)[j]? = some c → c.live = true → s[j]? = some c := fun j c q hl => by
      rcases set_get q with ⟨_, e⟩ | ⟨_, q⟩
      · subst e; cases hl
      · exact q
    exact R.inj j l b c c' h1 h2 (get j c h3 h5) (get l c' h4 h6) h5 h6
theorem RD.frz (R : RS M H β s) {i : Nat} {ds : List D} {v : V} (h : RD M H β s (.lst i) v) (hs : s[i]? = some (.lst ds)) : RD M H β (s.set i .dead) (.rol ds) v := by
  obtain ⟨a, hb, ev⟩ := h
  obtain ⟨xs, hH, r⟩ := R.cells i a _ hb hs
  refine ⟨a, xs, ev, .inl ⟨.inl hH, fun l => ?_, fun hz => (R.open_ a hz).2 ⟨i, _, hb, hs, rfl⟩⟩, RDs.mono R .drop ds r⟩
  obtain ⟨j, d, h1, h2, h3⟩ := l
  rcases set_get h2 with ⟨_, e⟩ | ⟨ne, h2⟩
  · subst e; cases h3
  · exact ne (R.inj j i a _ _ h1 hb h2 hs h3 rfl)
end

/-! ### a list that a comprehension fills -/
section
variable {M : Kit} {H : Hp} {β : List Addr} {s : Sto} {L : Addr} {Z : List Addr}
/- an address is taken out of Z, or Z is as it was -/
mutual
theorem RD.lessZ (hz : ∀ a ∈ Z, a ∈ M.Z) : ∀ (d : D) {v : V}, RD M H β s d v → RD (M.at Z) H β s d v
  | .non, _, h => h
  | .bl _, _, h => h
  | .int _, _, h => h
  | .str _, _, h => h
  | .tup ds, _, ⟨a, xs, e, h, r⟩ => ⟨a, xs, e, h, RDs.lessZ hz ds r⟩
  | .rol ds, _, ⟨a, xs, e, h, r⟩ => ⟨a, xs, e, h.elim (fun q => .inl ⟨q.1, q.2.1, fun z => q.2.2 (hz a z)⟩) .inr, RDs.lessZ hz ds r⟩
  | .lst _, _, h => h
  | .obj _, _, h => h
theorem RDs.lessZ (hz : ∀ a ∈ Z, a ∈ M.Z) : ∀ (ds : List D) {vs : List V}, RDs M H β s ds vs → RDs (M.at Z) H β s ds vs
  | [], [], h => h
  | d :: ds, v :: vs, h => ⟨RD.lessZ hz d h.1, RDs.lessZ hz ds h.2⟩
  | [], _ :: _, h => h.elim
  | _ :: _, [], h => h.elim
end
theorem RS.lessZ (R : RS M H β s) (hz : ∀ a ∈ Z, a ∈ M.Z) : RS (M.at Z) H β s :=
  ⟨R.len, fun i a c h1 h2 => by
    have q := R.cells i a c h1 h2
    cases c with
    | lst ds => obtain ⟨xs, e, r⟩ := q; exact ⟨xs, e, RDs.lessZ hz ds r⟩
    | ins c fs => exact q
    | dead => trivial, R.inj, R.tabs, fun a ha => R.open_ a (hz a ha)⟩
/- a new empty list: told from now on as being filled -/
mutual
theorem RD.openZ (R : RS M H β s) (hL : H L = none) (xs : List V) : ∀ (d : D) {v : V}, RD M H β s d v → RD (M.at (L :: M.Z)) (upd H L (.lst xs)) β s d v
  | .non, _, h => h
  | .bl _, _, h => h
  | .int _, _, h => h
  | .str _, _, h => h
  | .tup ds, _, ⟨a, ys, e, h, r⟩ => ⟨a, ys, e, (Kp.alloc hL).sqt R h, RDs.openZ R hL xs ds r⟩
  | .rol ds, _, ⟨a, ys, e, h, r⟩ => by
    refine ⟨a, ys, e, h.elim (fun q => .inl ?_) .inr, RDs.openZ R hL xs ds r⟩
    have k := (Kp.alloc (β := β) (s := s) (o := .lst xs) hL).rdl q.1 q.2.1
    refine ⟨k.1, k.2, fun z => ?_⟩
    rcases List.mem_cons.mp z with e | z
    · subst e
      rcases q.1 with h | ⟨o, h⟩ <;> (rw [hL] at h; cases h)
    · exact q.2.2 z
  | .lst _, _, h => h
  | .obj _, _, h => h
theorem RDs.openZ (R : RS M H β s) (hL : H L = none) (xs : List V) : ∀ (ds : List D) {vs : List V}, RDs M H β s ds vs → RDs (M.at (L :: M.Z)) (upd H L (.lst xs)) β s ds vs
  | [], [], h => h
  | d :: ds, v :: vs, h => ⟨RD.openZ R hL xs d h.1, RDs.openZ R hL xs ds h.2⟩
  | [], _ :: _, h => h.elim
  | _ :: _, [], h => h.elim
end
theorem RS.openZ (R : RS M H β s) (hL : H L = none) (xs : List V) : RS (M.at (L :: M.Z)) (upd H L (.lst xs)) β s :=
  ⟨R.len, fun i a c h1 h2 => by
    have q := R.cells i a c h1 h2
    cases c with
    | lst ds => obtain ⟨ys, e, r⟩ := q; exact ⟨ys, upd_ext hL _ _ e, RDs.openZ R hL xs ds r⟩
    | ins c fs => exact q
    | dead => trivial, R.inj, R.tabs.ext (upd_ext hL), fun a ha => by
      rcases List.mem_cons.mp ha with e | ha
      · subst e; exact ⟨⟨xs, upd_same⟩, R.nlv0 hL⟩
      · obtain ⟨⟨ys, e⟩, n⟩ := R.open_ a ha
        exact ⟨⟨ys, upd_ext hL _ _ e⟩, n⟩⟩
/- the list that is filled gets an item: all that is told stays -/
mutual
theorem RD.fillZ {xs ys : List V} (R : RS M H β s) (hL : H L = some (.lst xs)) (hz : L ∈ M.Z) : ∀ (d : D) {v : V}, RD M H β s d v → RD M (upd H L (.lst ys)) β s d v
  | .non, _, h => h
  | .bl _, _, h => h
  | .int _, _, h => h
  | .str _, _, h => h
  | .tup ds, _, ⟨a, zs, e, h, r⟩ => by
    refine ⟨a, zs, e, ?_, RDs.fillZ R hL hz ds r⟩
    rcases h with (h | ⟨o, h⟩) | h
    · exact .inl (.inl (by rw [upd_ne (ne_of h hL (fun z => nomatch z))]; exact h))
    · exact .inl (.inr ⟨o, by rw [upd_ne (ne_of h hL (fun z => nomatch z))]; exact h⟩)
    · exact .inr h
  | .rol ds, _, ⟨a, zs, e, h, r⟩ => by
    refine ⟨a, zs, e, h.elim (fun q => .inl ⟨?_, q.2⟩) .inr, RDs.fillZ R hL hz ds r⟩
    have ne : a ≠ L := fun e => q.2.2 (by rw [e]; exact hz)
    rcases q.1 with h | ⟨o, h⟩
    · exact .inl (by rw [upd_ne ne]; exact h)
    · exact .inr ⟨o, by rw [upd_ne ne]; exact h⟩
  | .lst _, _, h => h
  | .obj _, _, h => h
theorem RDs.fillZ {xs ys : List V} (R : RS M H β s) (hL : H L = some (.lst xs)) (hz : L ∈ M.Z) : ∀ (ds : List D) {vs : List V}, RDs M H β s ds vs → RDs M (upd H L (.lst ys)) β s ds vs
  | [], [], h => h
  | d :: ds, v :: vs, h => ⟨RD.fillZ R hL hz d h.1, RDs.fillZ R hL hz ds h.2⟩
  | [], _ :: _, h => h.elim
  | _ :: _, [], h => h.elim
end
theorem RS.fillZ {xs ys : List V} (R : RS M H β s) (hL : H L = some (.lst xs)) (hz : L ∈ M.Z) : RS M (upd H L (.lst ys)) β s := by
  have n := (R.open_ L hz).2
  refine ⟨R.len, fun i a c h1 h2 => ?_, R.inj, tabs_write hL R.tabs, fun a ha => ?_⟩
  · have q := R.cells i a c h1 h2
    cases c with
    | lst ds =>
      obtain ⟨zs, e, r⟩ := q
      refine ⟨zs, ?_, RDs.fillZ R hL hz ds r⟩
      rw [upd_ne (fun e => n (by rw [← e]; exact ⟨i, _, h1, h2, rfl⟩))]; exact e
    | ins c fs => exact q
    | dead => trivial
  · obtain ⟨⟨zs, e⟩, n'⟩ := R.open_ a ha
    by_cases h : a = L
    · subst h; exact ⟨⟨ys, upd_same⟩, n'⟩
    · exact ⟨⟨zs, by rw [upd_ne h]; exact e⟩, n'⟩
end

/-! ### what is wanted behind -/
def Po {α ω : Type} (M : Kit) (R : Hp → List Addr → Sto → α → ω → Prop) (H : Hp) (β : List Addr) (s : Sto) (res : Res α) (Q : ω → Hp → Prop) (Wx : Value → Hp → Prop) : Prop :=
  match res with
  | .ok d s' => ∀ H' β' v, RS M H' β' s' → Kp H β s H' β' s' → R H' β' s' d v → Q v H'
  | .exc c fs s' => fs = [] ∧ ∀ H' β', RS M H' β' s' → Kp H β s H' β' s' → Wx (M.cv c) H'
  | .bad => False
section
variable {M : Kit} {H H1 : Hp} {β β1 : List Addr} {s s1 : Sto} {α γ ω θ : Type} {R : Hp → List Addr → Sto → α → ω → Prop} {R' : Hp → List Addr → Sto → γ → θ → Prop} {Q : ω → Hp → Prop} {Q' : θ → Hp → Prop} {Wx : Value → Hp → Prop}
theorem Po.later {res : Res α} (k : Kp H β s H1 β1 s1) (h : Po M R H β s res Q Wx) : Po M R H1 β1 s1 res Q Wx := by
  cases res with
  | ok d s' => exact fun H' β' v rs k' r => h H' β' v rs (k.trans k') r
  | exc c fs s' => exact ⟨h.1, fun H' β' rs k' => h.2 H' β' rs (k.trans k')⟩
  | bad => exact h
/-- one thing after another -/
theorem Po.step {r : Res γ} {f : γ → Sto → Res α} (h : Po M R H β s (r.bind f) Q Wx)
    (n : ∀ d s1 H1 β1 v, r = .ok d s1 → RS M H1 β1 s1 → Kp H β s H1 β1 s1 → R' H1 β1 s1 d v → Po M R H1 β1 s1 (f d s1) Q Wx → Q' v H1) : Po M R' H β s r Q' Wx := by
  cases r with
  | ok d s1 => exact fun H1 β1 v rs k q => n d s1 H1 β1 v rfl rs k q (Po.later k h)
  | exc c fs s' => exact h
  | bad => exact h
theorem Po.ok {d : α} {v : ω} (h : Po M R H β s (.ok d s1) Q Wx) (rs : RS M H1 β1 s1) (k : Kp H β s H1 β1 s1) (r : R H1 β1 s1 d v) : Q v H1 := h H1 β1 v rs k r
end
/-- the slots -/
structure RE (M : Kit) (H : Hp) (β : List Addr) (s : Sto) (env : Env) (σ : L2.St) : Prop where
  len : env.length = σ.length
  at_ : ∀ (i : Nat) (d : D), env[i]? = some (some d) → ∃ v, σ[i]? = some (some v) ∧ RD M H β s d v
section
variable {M : Kit} {H H1 : Hp} {β β1 : List Addr} {s s1 : Sto} {env : Env} {σ : L2.St}
theorem RE.mono (e : RE M H β s env σ) (R : RS M H β s) (k : Kp H β s H1 β1 s1) : RE M H1 β1 s1 env σ :=
  ⟨e.len, fun i d h => let ⟨v, h1, h2⟩ := e.at_ i d h; ⟨v, h1, RD.mono R k d h2⟩⟩
theorem RE.set (e : RE M H β s env σ) {i : Nat} {d : D} {v : V} (r : RD M H β s d v) : RE M H β s (env.set i (some d)) (σ.set i (some v)) := by
  refine ⟨by rw [List.length_set, List.length_set]; exact e.len, fun j x h => ?_⟩
  by_cases hj : j = i
  · subst hj
    by_cases hl : j < env.length
    · rw [List.getElem?_set_self hl] at h
      cases h
      exact ⟨v, by rw [List.getElem?_set_self (by rw [← e.len]; exact hl)], r⟩
    · rw [List.getElem?_eq_none (by rw [List.length_set]; omega)] at h; cases h
  · rw [List.getElem?_set_ne (Ne.symm hj)] at h
    obtain ⟨u, h1, h2⟩ := e.at_ j x h
    exact ⟨u, by rw [List.getElem?_set_ne (Ne.symm hj)]; exact h1, h2⟩
theorem RE.wipe (e : RE M H β s env σ) : ∀ vs : List Nat, RE M H β s (wipeE env vs) (L2.wipe σ vs)
  | [] => e
  | v :: vs => by
    have q := RE.wipe e vs
    refine ⟨by simp only [wipeE, L2.wipe, List.length_set]; exact q.len, fun j x h => ?_⟩
    simp only [wipeE, L2.wipe] at h ⊢
    by_cases hj : v = j
    · subst hj
      by_cases hl : v < (wipeE env vs).length
      · rw [List.getElem?_set_self hl] at h; cases h
      · rw [List.getElem?_eq_none (by rw [List.length_set]; omega)] at h; cases h
    · rw [List.getElem?_set_ne hj] at h ⊢
      exact q.at_ j x h
end
end Dn

end
section
set_option Elab.async false
set_option maxRecDepth 100000
set_option maxHeartbeats 4000000
set_option linter.unusedVariables false
/-! Dn2: each operation on values gives what the meaning says. -/
namespace Dn
open PySem PySem.Spec PyProof.Rows L2 LamX

abbrev W0 : Value → Hp → Prop := fun _ _ => False
def Bo.op : Bo → Operator
  | .add => .Add | .sub => .Sub | .mul => .Mult | .fdiv => .FloorDiv | .mod => .Mod | .pow => .Pow | .shl => .LShift | .catc => .Add
def Co.op : Co → CmpOp
  | .eq => .Eq | .ne => .NotEq | .lt => .Lt | .le => .LtE | .gt => .Gt | .ge => .GtE | .is => .Is | .isn => .IsNot | .inn => .In | .nin => .NotIn

section
variable {X : Cx} {M : Kit}
theorem mulOk_ok {i j : Int} (h : mulOk i j = true) : CMulW i j := by
  unfold CMulW
  exact of_decide_eq_true h
theorem op_fdivG : OpR X (binaryOp .FloorDiv) (rI (fun i j => fdivOk i j = true) fun i j => .int (i.fdiv j)) := opI fun i j _ _ _ _ _ hc q => by
  unfold fdivOk at hc
  simp only [Bool.and_eq_true, decide_eq_true_eq, Bool.not_eq_true'] at hc
  exact floordiv_int hc.1 q (.inl hc.2)
theorem op_catL : OpR X (binaryOp .Add) (fun x y H Q => ∃ l b xs zs, x = .ref l ∧ y = .ref b ∧ SqL X.K H l xs ∧ SqL X.K H b zs ∧ xs.length + zs.length ≤ sizeLine ∧ ∀ p, H p = none → Q (.ref p) (upd H p (.lst (xs ++ zs)))) := by
  intro pins s σ H x y v u Q I rx ry h
  obtain ⟨l, b, xs, zs, rfl, rfl, hl, hb, hz, q⟩ := h
  cases rx; cases ry
  obtain ⟨its, r1, ⟨⟨c1, d1, t1, l1⟩, n1, e1, f1, _, g1⟩, _⟩ := I.list hl
  obtain ⟨iu, r2, ⟨⟨c2, d2, t2, l2⟩, n2, e2, f2, _, g2⟩, _⟩ := I.list hb
  dsimp only at f1 g1 f2 g2
  subst f1 g1 f2 g2
  have hn : its.length + iu.length ≤ sizeLine := by rw [← r1.length, ← r2.length]; exact hz
  have ea : its.toArray ++ iu.toArray = (its ++ iu).toArray := by simp
  refine concat_meets ⟨_, e1, rfl⟩ ⟨_, e2, rfl⟩ noFill_list_add seq_list_add F.slot_list_add F.entry_list_add (F.args_list_add_2 _ _)
    (list_addW l b its.toArray iu.toArray n1 n2 d1 d2 l1 l2 (by simpa using hn)) ⟨e1, e2, ?_⟩
  rw [ea]
  exact ⟨.ref _, _, I.lnew (t' := s.toks) (r1.append r2) (by rw [List.length_append]; exact hz), rfl, q _ I.fresh⟩

/-- an operation's rule, told by the meaning -/
def rM2 (M : Kit) (o : D → D → Sto → Res D) : R2 := fun v u H Q => ∃ x y s β, RS M H β s ∧ RD M H β s x v ∧ RD M H β s y u ∧ Po M (RD M) H β s (o x y s) Q W0
theorem Po.guard {H : Hp} {β : List Addr} {s s1 : Sto} {b : Bool} {d : D} {Q : VK} {Wx : Value → Hp → Prop} (h : Po M (RD M) H β s (guardD b d s1) Q Wx) : b = true ∧ Po M (RD M) H β s (.ok d s1) Q Wx := by
  cases b with
  | true => exact ⟨rfl, h⟩
  | false => exact (show False from h).elim
/-- a new tuple, a new list -/
theorem Po.newTup {H : Hp} {β : List Addr} {s : Sto} {ds : List D} {xs : List V} {Q : VK} {Wx : Value → Hp → Prop} (R : RS M H β s) (r : RDs M H β s ds xs) (h : Po M (RD M) H β s (.ok (.tup ds) s) Q Wx) :
    ∀ p, H p = none → Q (.ref p) (upd H p (.tup xs)) := fun p hp =>
  h _ β _ (R.alloc hp) (.alloc hp) ⟨p, xs, rfl, SqT.of upd_same, RDs.mono R (.alloc hp) ds r⟩
theorem Po.newLst {H : Hp} {β : List Addr} {s : Sto} {ds : List D} {xs : List V} {Q : VK} {Wx : Value → Hp → Prop} (R : RS M H β s) (r : RDs M H β s ds xs) (h : Po M (RD M) H β s (.ok (.rol ds) s) Q Wx) :
    ∀ p, H p = none → Q (.ref p) (upd H p (.lst xs)) := fun p hp =>
  h _ β _ (R.alloc hp) (.alloc hp) ⟨p, xs, rfl, .inl ⟨.inl upd_same, R.nlv0 hp, R.freshZ hp⟩, RDs.mono R (.alloc hp) ds r⟩
theorem Po.newCell {H : Hp} {β : List Addr} {s : Sto} {ds : List D} {xs : List V} {Q : VK} {Wx : Value → Hp → Prop} (R : RS M H β s) (r : RDs M H β s ds xs) (h : Po M (RD M) H β s (.ok (.lst s.length) (s ++ [.lst ds])) Q Wx) :
    ∀ p, H p = none → Q (.ref p) (upd H p (.lst xs)) := fun p hp => by
  refine h _ (β ++ [p]) _ (R.push hp r) (.push R hp) ⟨p, ?_, rfl⟩
  rw [← R.len, List.getElem?_append_right (Nat.le_refl _)]
  simp

theorem op_bin (hK : M.K = X.K) (o : Bo) : OpR X (binaryOp o.op) (rM2 M (binD o)) := by
  intro pins s σ H x y v u Q I rx ry h
  obtain ⟨d, e, st, β, R, hd, he, h⟩ := h
  have lists : ∀ {xs ys : List D}, listOf st d = some xs → listOf st e = some ys → Po M (RD M) H β st (guardD (lineOk (xs.length + ys.length)) (.rol (xs ++ ys)) st) Q W0 → wpAny (model X.prog X.w) X.A (binaryOp .Add v u) (EP X pins σ Q) X.xe s := fun {xs ys} e1 e2 h => by
    obtain ⟨h1, h2⟩ := h.guard
    obtain ⟨a, vs, rfl, q1, r1⟩ := hd.listOf R e1
    obtain ⟨b, us, rfl, q2, r2⟩ := he.listOf R e2
    have hl : vs.length + us.length ≤ sizeLine := by rw [← r1.length, ← r2.length]; exact of_decide_eq_true h1
    exact op_catL pins s σ H _ _ v u Q I rx ry ⟨a, b, vs, us, rfl, rfl, hK ▸ q1, hK ▸ q2, hl, h2.newLst R (r1.append r2)⟩
  cases o with
  | catc =>
    have h : Po M (RD M) H β st (match listOf st d, listOf st e with | some xs, some ys => guardD (lineOk (xs.length + ys.length)) (.lst st.length) (st ++ [.lst (xs ++ ys)]) | _, _ => .bad) Q W0 := h
    cases e1 : listOf st d with
    | none => rw [e1] at h; exact h.elim
    | some xs =>
      cases e2 : listOf st e with
      | none => rw [e1, e2] at h; exact h.elim
      | some ys =>
        rw [e1, e2] at h
        obtain ⟨h1, h2⟩ := h.guard
        obtain ⟨a, vs, rfl, q1, r1⟩ := hd.listOf R e1
        obtain ⟨b, us, rfl, q2, r2⟩ := he.listOf R e2
        have hl : vs.length + us.length ≤ sizeLine := by rw [← r1.length, ← r2.length]; exact of_decide_eq_true h1
        exact op_catL pins s σ H _ _ v u Q I rx ry ⟨a, b, vs, us, rfl, rfl, hK ▸ q1, hK ▸ q2, hl, h2.newCell R (r1.append r2)⟩
  | sub =>
    cases d <;> cases e <;> first | exact h.elim | skip
    rename_i i j
    cases hd; cases he
    exact op_sub pins s σ H _ _ v u Q I rx ry ⟨i, j, rfl, rfl, h.ok R (.refl _ _ _) rfl⟩
  | mul =>
    cases d <;> cases e <;> first | exact h.elim | skip
    rename_i i j
    cases hd; cases he
    obtain ⟨h1, h2⟩ := h.guard
    exact op_mulW pins s σ H _ _ v u Q I rx ry ⟨i, j, rfl, rfl, mulOk_ok h1, h2.ok R (.refl _ _ _) rfl⟩
  | fdiv =>
    cases d <;> cases e <;> first | exact h.elim | skip
    rename_i i j
    cases hd; cases he
    obtain ⟨h1, h2⟩ := h.guard
    exact op_fdivG pins s σ H _ _ v u Q I rx ry ⟨i, j, rfl, rfl, h1, h2.ok R (.refl _ _ _) rfl⟩
  | mod =>
    cases d <;> cases e <;> first | exact h.elim | skip
    rename_i i j
    cases hd; cases he
    obtain ⟨h1, h2⟩ := h.guard
    exact op_modN pins s σ H _ _ v u Q I rx ry ⟨i, j, rfl, rfl, of_decide_eq_true h1, h2.ok R (.refl _ _ _) rfl⟩
  | pow =>
    cases d <;> cases e <;> first | exact h.elim | skip
    rename_i i j
    cases hd; cases he
    obtain ⟨h1, h2⟩ := h.guard
    unfold powOk at h1
    simp only [Bool.and_eq_true, decide_eq_true_eq] at h1
    exact op_pow pins s σ H _ _ v u Q I rx ry ⟨i, j, rfl, rfl, ⟨h1.1.1, h1.1.2, h1.2⟩, h2.ok R (.refl _ _ _) rfl⟩
  | shl =>
    cases d <;> cases e <;> first | exact h.elim | skip
    rename_i i j
    cases hd; cases he
    obtain ⟨h1, h2⟩ := h.guard
    unfold powOk at h1
    simp only [Bool.and_eq_true, decide_eq_true_eq] at h1
    exact op_shl pins s σ H _ _ v u Q I rx ry ⟨i, j, rfl, rfl, ⟨h1.1.1, h1.1.2, h1.2⟩, h2.ok R (.refl _ _ _) rfl⟩
  | add =>
    have gen : (∀ xs ys, listOf st d = some xs → listOf st e = some ys → Po M (RD M) H β st (guardD (lineOk (xs.length + ys.length)) (.rol (xs ++ ys)) st) Q W0) → (listOf st d ≠ none) → (listOf st e ≠ none) → wpAny (model X.prog X.w) X.A (binaryOp .Add v u) (EP X pins σ Q) X.xe s := fun h n1 n2 => by
      obtain ⟨xs, e1⟩ := Option.ne_none_iff_exists'.mp n1
      obtain ⟨ys, e2⟩ := Option.ne_none_iff_exists'.mp n2
      exact lists e1 e2 (h xs ys e1 e2)
    have other : Po M (RD M) H β st (match listOf st d, listOf st e with | some xs, some ys => guardD (lineOk (xs.length + ys.length)) (.rol (xs ++ ys)) st | _, _ => .bad) Q W0 → wpAny (model X.prog X.w) X.A (binaryOp .Add v u) (EP X pins σ Q) X.xe s := fun h => by
      cases e1 : listOf st d with
      | none => rw [e1] at h; exact h.elim
      | some xs =>
        cases e2 : listOf st e with
        | none => rw [e1, e2] at h; exact h.elim
        | some ys => rw [e1, e2] at h; exact lists e1 e2 h
    cases d with
    | int i =>
      cases e with
      | int j =>
        cases hd; cases he
        exact op_add pins s σ H _ _ v u Q I rx ry ⟨i, j, rfl, rfl, h.ok R (.refl _ _ _) rfl⟩
      | _ => exact other h
    | tup xs =>
      cases e with
      | tup ys =>
        obtain ⟨h1, h2⟩ := h.guard
        obtain ⟨a, vs, rfl, q1, r1⟩ := hd
        obtain ⟨b, us, rfl, q2, r2⟩ := he
        have hl : vs.length + us.length ≤ sizeLine := by rw [← r1.length, ← r2.length]; exact of_decide_eq_true h1
        have l1 := r1.length
        have l2 := r2.length
        refine op_catA pins s σ H _ _ v u Q I rx ry ⟨a, b, vs, us, rfl, rfl, hK ▸ q1, hK ▸ q2, hl, fun z => ?_, fun _ z => ?_, fun _ _ => h2.newTup R (r1.append r2)⟩
        · subst z
          obtain rfl : xs = [] := List.eq_nil_of_length_eq_zero l1
          exact h2.ok R (.refl _ _ _) ⟨b, us, rfl, q2, r2⟩
        · subst z
          obtain rfl : ys = [] := List.eq_nil_of_length_eq_zero l2
          exact h2.ok R (.refl _ _ _) ⟨a, vs, rfl, q1, by rw [List.append_nil]; exact r1⟩
      | _ => exact other h
    | str a =>
      cases e with
      | str b =>
        cases hd; cases he
        obtain ⟨h1, h2⟩ := h.guard
        exact op_add_str pins s σ H _ _ v u Q I rx ry ⟨a, b, rfl, rfl, of_decide_eq_true h1, h2.ok R (.refl _ _ _) rfl⟩
      | _ => exact other h
    | _ => exact other h

/-! ### comparisons -/
mutual
theorem RD.dp {H : Hp} {β : List Addr} {s : Sto} : ∀ (d : D) {v : V}, d.py.canLay0 = true → RD M H β s d v → Dp M.K H v d.py
  | .non, _, _, h => by cases h; exact .non
  | .bl b, _, _, h => by cases h; exact .bl b
  | .int i, _, _, h => by cases h; exact .int i
  | .str x, _, _, h => by cases h; exact .str x
  | .tup ds, _, c, h => by
    obtain ⟨a, xs, rfl, q, r⟩ := h
    exact .tup q (RDs.dp ds c r)
  | .rol ds, _, c, h => by
    obtain ⟨a, xs, rfl, q, r⟩ := h
    exact .lst (q.elim (fun z => .inl z.1) (fun z => .inr z)) (RDs.dp ds c r)
  | .lst i, _, c, _ => by cases c
  | .obj i, _, c, _ => by cases c
theorem RDs.dp {H : Hp} {β : List Addr} {s : Sto} : ∀ (ds : List D) {vs : List V}, PyData.canLayAll0 (D.pys ds) = true → RDs M H β s ds vs → DpAll M.K H vs (D.pys ds)
  | [], [], _, _ => .nil
  | d :: ds, v :: vs, c, h => by
    have c' : d.py.canLay0 = true ∧ PyData.canLayAll0 (D.pys ds) = true := by simpa [D.pys, PyData.canLayAll0] using c
    exact .cons (RD.dp d c'.1 h.1) (RDs.dp ds c'.2 h.2)
  | [], _ :: _, _, h => h.elim
  | _ :: _, [], _, h => h.elim
end
theorem RD.dps {H : Hp} {β : List Addr} {s : Sto} {d : D} {v : V} (c : SeqAt.shaped d.py = true) (h : RD M H β s d v) : Dp M.K H v d.py := RD.dp d (SeqAt.canLay_of_shaped c) h
theorem Po.ofB {H : Hp} {β : List Addr} {s : Sto} {o : Option Bool} {Q : VK} (R : RS M H β s) (h : Po M (RD M) H β s (Dn.ofB o s) Q W0) : ∃ b, o = some b ∧ Q (.bl b) H := by
  cases o with
  | none => exact h.elim
  | some b => exact ⟨b, rfl, h.ok R (.refl _ _ _) rfl⟩
theorem rd_non {H : Hp} {β : List Addr} {s : Sto} {d : D} {v : V} (h : RD M H β s d v) : decide (v = V.non) = isNon d := by
  cases d with
  | non => cases h; rfl
  | bl b => cases h; simp [isNon]
  | int i => cases h; simp [isNon]
  | str x => cases h; simp [isNon]
  | tup ds => obtain ⟨a, xs, rfl, _⟩ := h; simp [isNon]
  | rol ds => obtain ⟨a, xs, rfl, _⟩ := h; simp [isNon]
  | lst i => obtain ⟨a, _, rfl⟩ := h; simp [isNon]
  | obj i => obtain ⟨a, _, rfl⟩ := h; simp [isNon]
theorem op_inT (hu : X.A.units + 65 < cLine) : OpR X (compareOp .In) (fun x y H Q => ∃ d ds, Dp X.K H x d ∧ Dp X.K H y (.tuple ds) ∧ SeqAt.shaped d = true ∧ SeqAt.shaped (.tuple ds) = true ∧ Q (.bl (ds.any fun z => PyData.eqv z d)) H) := by
  intro pins s σ H x y v u Q I rx ry h
  obtain ⟨d, ds, hd, he, sd, se, q⟩ := h
  obtain ⟨as, r1⟩ := Dp.reads I d x v hd rx
  obtain ⟨bs, r2⟩ := Dp.reads I _ y u he ry
  refine SeqAt.in_tuple_reads r2 r1 (SeqAt.canLay_of_shaped se) (SeqAt.canLay_of_shaped sd) (room_in_shaped sd hu) ?_
  exact ⟨.bl _, H, I, rfl, q⟩
theorem op_ninT (hu : X.A.units + 65 < cLine) : OpR X (compareOp .NotIn) (fun x y H Q => ∃ d ds, Dp X.K H x d ∧ Dp X.K H y (.tuple ds) ∧ SeqAt.shaped d = true ∧ SeqAt.shaped (.tuple ds) = true ∧ Q (.bl (!ds.any fun z => PyData.eqv z d)) H) := by
  intro pins s σ H x y v u Q I rx ry h
  obtain ⟨d, ds, hd, he, sd, se, q⟩ := h
  obtain ⟨as, r1⟩ := Dp.reads I d x v hd rx
  obtain ⟨bs, r2⟩ := Dp.reads I _ y u he ry
  refine SeqAt.notIn_tuple_reads r2 r1 (SeqAt.canLay_of_shaped se) (SeqAt.canLay_of_shaped sd) (room_in_shaped sd hu) ?_
  exact ⟨.bl _, H, I, rfl, q⟩
/-- what stands to be looked through: a list of the store told as its items -/
theorem RD.dpList {H : Hp} {β : List Addr} {s : Sto} {d : D} {xs : List D} {v : V} (R : RS M H β s) (h : RD M H β s d v) (e : Dn.listOf s d = some xs) (c : SeqAt.shaped (D.rol xs).py = true) : Dp M.K H v (.list (D.pys xs)) := by
  obtain ⟨a, vs, rfl, q, r⟩ := h.listOf R e
  exact .lst q (RDs.dp xs (SeqAt.canLay_of_shaped c) r)
theorem ifSome {α : Type} {c : Bool} {a b : α} (h : (if c = true then some a else none) = some b) : c = true ∧ a = b := by
  cases c with
  | true => exact ⟨rfl, by simpa using h⟩
  | false => simp at h
theorem mapNot {o : Option Bool} {b : Bool} (h : o.map (!·) = some b) : ∃ c, o = some c ∧ b = !c := by
  cases o with
  | none => cases h
  | some c => exact ⟨c, rfl, (Option.some.inj h).symm⟩
theorem eqD_some {x y : D} {b : Bool} (h : eqD x y = some b) : SeqAt.shaped x.py = true ∧ SeqAt.shaped y.py = true ∧ PyData.eqv x.py y.py = b := by
  unfold eqD at h
  obtain ⟨h1, h2⟩ := ifSome h
  rw [Bool.and_eq_true] at h1
  exact ⟨h1.1, h1.2, h2⟩
theorem inD_some {s : Sto} {x y : D} {b : Bool} (h : inD s x y = some b) : SeqAt.shaped x.py = true ∧
    ((∃ ys, y = .tup ys ∧ SeqAt.shaped (D.tup ys).py = true ∧ ((D.pys ys).any fun z => PyData.eqv z x.py) = b) ∨ ∃ ys, listOf s y = some ys ∧ SeqAt.shaped (D.rol ys).py = true ∧ ((D.pys ys).any fun z => PyData.eqv z x.py) = b) := by
  have gen : (match listOf s y with | some ys => if (SeqAt.shaped x.py && SeqAt.shaped (D.rol ys).py) = true then some ((D.pys ys).any fun z => PyData.eqv z x.py) else none | none => none) = some b → SeqAt.shaped x.py = true ∧
    ((∃ ys, y = .tup ys ∧ SeqAt.shaped (D.tup ys).py = true ∧ ((D.pys ys).any fun z => PyData.eqv z x.py) = b) ∨ ∃ ys, listOf s y = some ys ∧ SeqAt.shaped (D.rol ys).py = true ∧ ((D.pys ys).any fun z => PyData.eqv z x.py) = b) := fun h => by
    cases e : listOf s y with
    | none => rw [e] at h; cases h
    | some ys =>
      rw [e] at h
      obtain ⟨h1, h2⟩ := ifSome h
      rw [Bool.and_eq_true] at h1
      exact ⟨h1.1, .inr ⟨ys, rfl, h1.2, h2⟩⟩
  cases y with
  | tup ys =>
    obtain ⟨h1, h2⟩ := ifSome h
    rw [Bool.and_eq_true] at h1
    exact ⟨h1.1, .inl ⟨ys, rfl, h1.2, h2⟩⟩
  | _ => exact gen h
theorem op_isB : OpR X (compareOp .Is) (fun x y H Q => ∃ a b, x = .bl a ∧ y = .bl b ∧ Q (.bl (a == b)) H) := by
  intro pins s σ H x y v u Q I rx ry h
  obtain ⟨a, b, rfl, rfl, q⟩ := h
  cases rx; cases ry
  refine wpAny_is_plain rfl (fin_bl I q ?_)
  cases a <;> cases b <;> rfl
theorem op_notB : OpR X (compareOp .IsNot) (fun x y H Q => ∃ a b, x = .bl a ∧ y = .bl b ∧ Q (.bl (!(a == b))) H) := by
  intro pins s σ H x y v u Q I rx ry h
  obtain ⟨a, b, rfl, rfl, q⟩ := h
  cases rx; cases ry
  refine wpAny_isNot_plain rfl (fin_bl I q ?_)
  cases a <;> cases b <;> rfl
theorem op_cmp (hK : M.K = X.K) (hu : X.A.units + 65 < cLine) (o : Co) : OpR X (compareOp o.op) (rM2 M (cmpD o)) := by
  intro pins s σ H x y v u Q I rx ry h
  obtain ⟨d, e, st, β, R, hd, he, h⟩ := h
  cases o with
  | eq =>
    obtain ⟨b, h1, q⟩ := h.ofB R
    obtain ⟨s1, s2, hb⟩ := eqD_some h1
    exact op_eqD (by omega) pins s σ H x y v u Q I rx ry ⟨_, _, hK ▸ hd.dps s1, hK ▸ he.dps s2, s1, s2, by rw [hb]; exact q⟩
  | ne =>
    obtain ⟨b, h1, q⟩ := h.ofB R
    obtain ⟨c, h2, rfl⟩ := mapNot h1
    obtain ⟨s1, s2, hb⟩ := eqD_some h2
    exact op_neD (by omega) pins s σ H x y v u Q I rx ry ⟨_, _, hK ▸ hd.dps s1, hK ▸ he.dps s2, s1, s2, by rw [hb]; exact q⟩
  | inn =>
    obtain ⟨b, h1, q⟩ := h.ofB R
    obtain ⟨s1, ⟨ys, rfl, s2, hb⟩ | ⟨ys, e2, s2, hb⟩⟩ := inD_some h1
    · exact op_inT hu pins s σ H x y v u Q I rx ry ⟨_, _, hK ▸ hd.dps s1, hK ▸ he.dps s2, s1, s2, by rw [hb]; exact q⟩
    · exact op_inD hu pins s σ H x y v u Q I rx ry ⟨_, _, hK ▸ hd.dps s1, hK ▸ he.dpList R e2 s2, s1, s2, by rw [hb]; exact q⟩
  | nin =>
    obtain ⟨b, h1, q⟩ := h.ofB R
    obtain ⟨c, h2, rfl⟩ := mapNot h1
    obtain ⟨s1, ⟨ys, rfl, s2, hb⟩ | ⟨ys, e2, s2, hb⟩⟩ := inD_some h2
    · exact op_ninT hu pins s σ H x y v u Q I rx ry ⟨_, _, hK ▸ hd.dps s1, hK ▸ he.dps s2, s1, s2, by rw [hb]; exact q⟩
    · exact op_notInD hu pins s σ H x y v u Q I rx ry ⟨_, _, hK ▸ hd.dps s1, hK ▸ he.dpList R e2 s2, s1, s2, by rw [hb]; exact q⟩
  | lt =>
    cases d <;> cases e <;> first | exact h.elim | skip
    cases hd; cases he
    exact op_lt pins s σ H _ _ v u Q I rx ry ⟨_, _, rfl, rfl, h.ok R (.refl _ _ _) rfl⟩
  | le =>
    cases d <;> cases e <;> first | exact h.elim | skip
    cases hd; cases he
    exact op_le pins s σ H _ _ v u Q I rx ry ⟨_, _, rfl, rfl, h.ok R (.refl _ _ _) rfl⟩
  | gt =>
    cases d <;> cases e <;> first | exact h.elim | skip
    cases hd; cases he
    exact op_gt pins s σ H _ _ v u Q I rx ry ⟨_, _, rfl, rfl, h.ok R (.refl _ _ _) rfl⟩
  | ge =>
    cases d <;> cases e <;> first | exact h.elim | skip
    cases hd; cases he
    exact op_ge pins s σ H _ _ v u Q I rx ry ⟨_, _, rfl, rfl, h.ok R (.refl _ _ _) rfl⟩
  | is =>
    cases e <;> first | exact h.elim | skip
    · cases he
      exact op_isN pins s σ H _ _ v u Q I rx ry ⟨rfl, by rw [rd_non hd]; exact h.ok R (.refl _ _ _) rfl⟩
    · cases d <;> first | exact h.elim | skip
      cases hd; cases he
      exact op_isB pins s σ H _ _ v u Q I rx ry ⟨_, _, rfl, rfl, h.ok R (.refl _ _ _) rfl⟩
  | isn =>
    cases e <;> first | exact h.elim | skip
    · cases he
      exact op_notN pins s σ H _ _ v u Q I rx ry ⟨rfl, by rw [rd_non hd]; exact h.ok R (.refl _ _ _) rfl⟩
    · cases d <;> first | exact h.elim | skip
      cases hd; cases he
      exact op_notB pins s σ H _ _ v u Q I rx ry ⟨_, _, rfl, rfl, h.ok R (.refl _ _ _) rfl⟩

/-! ### places, slices -/
theorem ixOf_eq (n : Nat) (i : Int) : ixOf n i = ixN n i := rfl
theorem ix_den (hK : M.K = X.K) : IxR X (rM2 M fun x i s => ixD s x i) := by
  intro value slice pins s σ H x y v u Q I rx ry h hsub
  obtain ⟨d, e, st, β, R, hd, he, h⟩ := h
  simp only [ixD] at h
  cases e <;> first | exact h.elim | skip
  rename_i k
  dsimp only at h
  cases e1 : seqOf st d with
  | none => rw [e1] at h; exact h.elim
  | some xs =>
    rw [e1] at h
    dsimp only at h
    cases e2 : (ixOf xs.length k).bind (xs[·]?) with
    | none => rw [e2] at h; exact h.elim
    | some z =>
      rw [e2] at h
      cases he
      obtain ⟨a, vs, rfl, q, r⟩ := hd.seqOf R e1
      obtain ⟨j, h1, h2⟩ := Option.bind_eq_some_iff.mp e2
      obtain ⟨w', h3, h4⟩ := r.get h2
      have at1 : atI vs k = some w' := by
        unfold atI
        rw [← r.length, ← ixOf_eq, h1]
        exact h3
      have fin := h.ok R (.refl _ _ _) h4
      rcases q with ⟨q, _⟩ | ⟨q, _⟩
      · exact ix_list value slice pins s σ H _ _ v u Q I rx ry ⟨a, vs, k, w', rfl, rfl, hK ▸ q, at1, fin⟩ hsub
      · exact ix_tup value slice pins s σ H _ _ v u Q I rx ry ⟨a, vs, k, w', rfl, rfl, hK ▸ q, at1, fin⟩ hsub
theorem RDs.cut {H : Hp} {β : List Addr} {s : Sto} {ds : List D} {vs : List V} (h : RDs M H β s ds vs) (lo hi : Option Int) : RDs M H β s (Dn.cut ds lo hi) (cutV vs lo hi) := by
  unfold Dn.cut cutV
  rw [h.length]
  exact (h.drop _).take _
def rM3 (M : Kit) : V → Option Int → Option Int → Hp → VK → Prop := fun v lo hi H Q => ∃ x s β, RS M H β s ∧ RD M H β s x v ∧ Po M (RD M) H β s (slD s x lo hi) Q W0
theorem sl_den (hK : M.K = X.K) : SlR X (rM3 M) := by
  intro pins s σ H x v vl vu lo hi sl Q I rx hs pl pu h
  obtain ⟨d, st, β, R, hd, h⟩ := h
  have lists : ∀ {xs : List D}, listOf st d = some xs → Po M (RD M) H β st (.ok (.rol (cut xs lo hi)) st) Q W0 →
      ∃ T id, typeLookup (.type T) "__getitem__" = pure (some (.builtin id)) ∧ s.TypeIs v T ∧ wpAny (model X.prog X.w) X.A (getItem v (.ref sl)) (EP X pins σ Q) X.xe s := fun {xs} e h => by
    obtain ⟨a, vs, ev, q, r⟩ := hd.listOf R e
    exact sl_list pins s σ H x v vl vu lo hi sl Q I rx hs pl pu ⟨a, vs, ev, hK ▸ q, h.newLst R (r.cut lo hi)⟩
  cases d with
  | tup xs =>
    obtain ⟨a, vs, rfl, q, r⟩ := hd
    refine sl_tupA pins s σ H _ v vl vu lo hi sl Q I rx hs pl pu ⟨a, vs, rfl, hK ▸ q, fun hw => ?_, fun _ => Po.newTup R (r.cut lo hi) h⟩
    refine h.ok R (.refl _ _ _) ⟨a, vs, rfl, q, ?_⟩
    have c := r.cut lo hi
    have e : cutV vs lo hi = vs := by
      unfold cutV
      rw [hw.1, hw.2]
      simp
    rw [e] at c
    exact c
  | rol xs => exact lists rfl h
  | lst i =>
    cases e : listOf st (.lst i) with
    | none => simp only [slD, e] at h; exact h.elim
    | some xs => simp only [slD, e] at h; exact lists e h
  | _ => exact h.elim

/-! ### built-in calls by values -/
def rM1 (M : Kit) (o : List D → Sto → Res D) : List V → Hp → VK → Prop := fun vs H Q => ∃ xs s β, RS M H β s ∧ RDs M H β s xs vs ∧ Po M (RD M) H β s (o xs s) Q W0
theorem rds1 {H : Hp} {β : List Addr} {s : Sto} {d : D} {vs : List V} (h : RDs M H β s [d] vs) : ∃ v, vs = [v] ∧ RD M H β s d v := by
  cases vs with
  | nil => exact h.elim
  | cons v r => cases r with
    | nil => exact ⟨v, rfl, h.1⟩
    | cons _ _ => exact h.2.elim
theorem prim1 {p : Pr} {xs : List D} {s : Sto} (n : ∀ x, xs ≠ [x]) : primD p xs s = .bad := by
  cases xs with
  | nil => cases p <;> rfl
  | cons x r => cases r with
    | nil => exact absurd rfl (n x)
    | cons y r => cases p <;> (try rfl) <;> (cases x <;> rfl)
theorem one_or {α : Type} (xs : List α) : (∃ x, xs = [x]) ∨ ∀ x, xs ≠ [x] := by
  cases xs with
  | nil => exact .inr fun _ z => nomatch z
  | cons x r => cases r with
    | nil => exact .inl ⟨x, rfl⟩
    | cons _ _ => exact .inr fun _ z => nomatch z
theorem call_lenD (hK : M.K = X.K) : CallR X (.builtin "len") (rM1 M (primD .len)) := by
  intro pins s σ H vs us Q I r h
  obtain ⟨xs, st, β, R, hd, h⟩ := h
  rcases one_or xs with ⟨x, rfl⟩ | n
  · obtain ⟨v, rfl, hv⟩ := rds1 hd
    simp only [primD] at h
    cases e : seqOf st x with
    | none => rw [e] at h; exact h.elim
    | some ys =>
      rw [e] at h
      obtain ⟨a, ws, rfl, q, rr⟩ := hv.seqOf R e
      refine call_len_seq pins s σ H _ us Q I r ⟨a, ws, rfl, q.elim (fun z => .inl (hK ▸ z.1)) (fun z => .inr (hK ▸ z.1)), ?_⟩
      rw [← rr.length]
      exact h.ok R (.refl _ _ _) rfl
  · rw [prim1 n] at h; exact h.elim
theorem call_absD : CallR X (.builtin "abs") (rM1 M (primD .abs)) := by
  intro pins s σ H vs us Q I r h
  obtain ⟨xs, st, β, R, hd, h⟩ := h
  rcases one_or xs with ⟨x, rfl⟩ | n
  · obtain ⟨v, rfl, hv⟩ := rds1 hd
    cases x <;> first | exact h.elim | skip
    cases hv
    exact call_abs pins s σ H _ us Q I r ⟨_, rfl, h.ok R (.refl _ _ _) rfl⟩
  · rw [prim1 n] at h; exact h.elim
theorem call_intD : CallR X (.type "int") (rM1 M (primD .int)) := by
  intro pins s σ H vs us Q I r h
  obtain ⟨xs, st, β, R, hd, h⟩ := h
  rcases one_or xs with ⟨x, rfl⟩ | n
  · obtain ⟨v, rfl, hv⟩ := rds1 hd
    cases x <;> first | exact h.elim | skip
    · cases hv
      exact call_int1 pins s σ H _ us Q I r (.inr ⟨_, rfl, h.ok R (.refl _ _ _) rfl⟩)
    · cases hv
      exact call_int1 pins s σ H _ us Q I r (.inl ⟨_, rfl, h.ok R (.refl _ _ _) rfl⟩)
  · rw [prim1 n] at h; exact h.elim
theorem call_listD (hK : M.K = X.K) (m : Bool) : CallR X (.type "list") (rM1 M (primD (if m then .listm else .list))) := by
  intro pins s σ H vs us Q I r h
  obtain ⟨xs, st, β, R, hd, h⟩ := h
  rcases one_or xs with ⟨x, rfl⟩ | n
  · obtain ⟨v, rfl, hv⟩ := rds1 hd
    cases e : seqOf st x with
    | none => cases m <;> (simp [primD, e] at h; exact h.elim)
    | some ys =>
      obtain ⟨a, ws, rfl, q, rr⟩ := hv.seqOf R e
      refine call_list_of pins s σ H _ us Q I r ⟨a, ws, rfl, q.elim (fun z => .inl (hK ▸ z.1)) (fun z => .inr (hK ▸ z.1)), ?_⟩
      cases m with
      | true => simp only [primD, e, if_true] at h; exact Po.newCell R rr h
      | false => simp only [primD, e, Bool.false_eq_true, if_false] at h; exact Po.newLst R rr h
  · rw [prim1 n] at h; exact h.elim
theorem call_tupleD (hK : M.K = X.K) : CallR X (.type "tuple") (rM1 M (primD .tuple)) := by
  intro pins s σ H vs us Q I r h
  obtain ⟨xs, st, β, R, hd, h⟩ := h
  rcases one_or xs with ⟨x, rfl⟩ | n
  · obtain ⟨v, rfl, hv⟩ := rds1 hd
    simp only [primD] at h
    cases e : seqOf st x with
    | none => rw [e] at h; exact h.elim
    | some ys =>
      rw [e] at h
      obtain ⟨a, ws, rfl, q, rr⟩ := hv.seqOf R e
      rcases q with ⟨q, _⟩ | ⟨q, _⟩
      · exact call_tuple_of pins s σ H _ us Q I r ⟨a, ws, rfl, .inl ⟨hK ▸ q, Po.newTup R rr h⟩⟩
      · exact call_tuple_of pins s σ H _ us Q I r ⟨a, ws, rfl, .inr ⟨hK ▸ q, h.ok R (.refl _ _ _) ⟨a, ws, rfl, q, rr⟩⟩⟩
  · rw [prim1 n] at h; exact h.elim
theorem RDs.bools {H : Hp} {β : List Addr} {s : Sto} : ∀ {ds : List D} {vs : List V} {bs : List Bool}, RDs M H β s ds vs → boolsOf ds = some bs → vs = bs.map V.bl
  | [], [], _, _, e => by cases e; rfl
  | d :: ds, v :: vs, bs, h, e => by
    cases d with
    | bl b =>
      simp only [boolsOf] at e
      obtain ⟨cs, e1, e2⟩ := Option.map_eq_some_iff.mp e
      subst e2
      obtain ⟨h1, h2⟩ := h
      cases h1
      rw [RDs.bools h2 e1]
      rfl
    | _ => simp [boolsOf] at e
  | [], _ :: _, _, h, _ => h.elim
  | _ :: _, [], _, h, _ => h.elim
theorem RDs.strs {H : Hp} {β : List Addr} {s : Sto} : ∀ {ds : List D} {vs : List V} {bs : List Str}, RDs M H β s ds vs → strsOf ds = some bs → vs = bs.map V.str
  | [], [], _, _, e => by cases e; rfl
  | d :: ds, v :: vs, bs, h, e => by
    cases d with
    | str b =>
      simp only [strsOf] at e
      obtain ⟨cs, e1, e2⟩ := Option.map_eq_some_iff.mp e
      subst e2
      obtain ⟨h1, h2⟩ := h
      cases h1
      rw [RDs.strs h2 e1]
      rfl
    | _ => simp [strsOf] at e
  | [], _ :: _, _, h, _ => h.elim
  | _ :: _, [], _, h, _ => h.elim
theorem call_anyD (hK : M.K = X.K) (hc : X.calm = true) : CallR X (.builtin "any") (rM1 M (primD .any)) := by
  intro pins s σ H vs us Q I r h
  obtain ⟨xs, st, β, R, hd, h⟩ := h
  rcases one_or xs with ⟨x, rfl⟩ | n
  · obtain ⟨v, rfl, hv⟩ := rds1 hd
    simp only [primD] at h
    cases e : (listOf st x).bind boolsOf with
    | none => rw [e] at h; exact h.elim
    | some bs =>
      rw [e] at h
      obtain ⟨ys, e1, e2⟩ := Option.bind_eq_some_iff.mp e
      obtain ⟨a, ws, rfl, q, rr⟩ := hv.listOf R e1
      rw [rr.bools e2] at q
      exact cr_any hc pins s σ H _ us Q I r ⟨a, bs, rfl, hK ▸ q, h.ok R (.refl _ _ _) rfl⟩
  · rw [prim1 n] at h; exact h.elim
theorem call_allD (hK : M.K = X.K) (hc : X.calm = true) : CallR X (.builtin "all") (rM1 M (primD .all)) := by
  intro pins s σ H vs us Q I r h
  obtain ⟨xs, st, β, R, hd, h⟩ := h
  rcases one_or xs with ⟨x, rfl⟩ | n
  · obtain ⟨v, rfl, hv⟩ := rds1 hd
    simp only [primD] at h
    cases e : (listOf st x).bind boolsOf with
    | none => rw [e] at h; exact h.elim
    | some bs =>
      rw [e] at h
      obtain ⟨ys, e1, e2⟩ := Option.bind_eq_some_iff.mp e
      obtain ⟨a, ws, rfl, q, rr⟩ := hv.listOf R e1
      rw [rr.bools e2] at q
      exact cr_all hc pins s σ H _ us Q I r ⟨a, bs, rfl, hK ▸ q, h.ok R (.refl _ _ _) rfl⟩
  · rw [prim1 n] at h; exact h.elim
/-! isinstance -/
def Ty.nm : Ty → String
  | .int => "int" | .bool => "bool" | .tuple => "tuple" | .list => "list" | .str => "str"
def tyName : D → String
  | .non => "NoneType" | .bl _ => "bool" | .int _ => "int" | .str _ => "str" | .tup _ => "tuple" | _ => "list"
theorem ty_kit {K : PySem.W.Frag} (t : Ty) : PySem.W.kitOne K (.type "NoneType") (.type t.nm) = some false ∧ PySem.W.kitOne K (.type "bool") (.type t.nm) = some (match t with | .int => true | .bool => true | _ => false) ∧
    PySem.W.kitOne K (.type "int") (.type t.nm) = some (match t with | .int => true | _ => false) ∧ PySem.W.kitOne K (.type "str") (.type t.nm) = some (match t with | .str => true | _ => false) ∧
    PySem.W.kitOne K (.type "tuple") (.type t.nm) = some (match t with | .tuple => true | _ => false) ∧ PySem.W.kitOne K (.type "list") (.type t.nm) = some (match t with | .list => true | _ => false) := by
  cases t <;> exact ⟨kit_ty (by decide +kernel), kit_ty (by decide +kernel), kit_ty (by decide +kernel), kit_ty (by decide +kernel), kit_ty (by decide +kernel), kit_ty (by decide +kernel)⟩
theorem RD.ty {H : Hp} {β : List Addr} {s : Sto} {d : D} {v : V} (R : RS M H β s) (h : RD M H β s d v) {t : Ty} {b : Bool} (e : tyD s t d = some b) : ∃ n : String, TyX M.K H v (.type n) ∧ ∀ (u : Ty) (c : Bool), tyD s u d = some c → PySem.W.kitOne M.K (.type n) (.type u.nm) = some c := by
  have seqL : ∀ {a : Addr} {vs : List V}, (Rd H a (.lst vs) ∨ KLst M.K a vs) → TyX M.K H (.ref a) (.type "list") := fun {a vs} q => by
    rcases q with (q | ⟨o, q⟩) | ⟨o, its, n, q, c, _⟩
    · exact .base (.lst q)
    · exact .base (.frz q)
    · exact .kList q c
  cases d with
  | non => cases h; exact ⟨_, .base .non, fun u c e => by cases e; exact (ty_kit u).1⟩
  | bl x => cases h; exact ⟨_, .base (.bl x), fun u c e => by cases e; exact (ty_kit u).2.1⟩
  | int x => cases h; exact ⟨_, .base (.int x), fun u c e => by cases e; exact (ty_kit u).2.2.1⟩
  | str x => cases h; exact ⟨_, .base (.str x), fun u c e => by cases e; exact (ty_kit u).2.2.2.1⟩
  | tup ds =>
    obtain ⟨a, vs, rfl, q, _⟩ := h
    refine ⟨"tuple", ?_, fun u c e => by cases e; exact (ty_kit u).2.2.2.2.1⟩
    rcases q with (q | ⟨o, q⟩) | ⟨o, its, n, q, c, _⟩
    · exact .base (.tup q)
    · exact .fTuple q
    · exact .kTuple q c
  | rol ds =>
    obtain ⟨a, vs, rfl, q, _⟩ := h
    exact ⟨"list", seqL (q.elim (fun z => .inl z.1) .inr), fun u c e => by cases e; exact (ty_kit u).2.2.2.2.2⟩
  | lst i =>
    obtain ⟨a, hb, rfl⟩ := h
    simp only [tyD] at e
    cases hs : s[i]? with
    | none => rw [hs] at e; cases e
    | some c =>
      cases c with
      | lst ds =>
        obtain ⟨vs, hH, _⟩ := R.cells i a _ hb hs
        refine ⟨"list", seqL (.inl (.inl hH)), fun u c e => ?_⟩
        simp only [tyD, hs] at e
        cases e
        exact (ty_kit u).2.2.2.2.2
      | _ => rw [hs] at e; cases e
  | obj i => cases e
theorem tys_kit {K : PySem.W.Frag} {s : Sto} {d : D} {n : String} (h : ∀ (u : Ty) (c : Bool), tyD s u d = some c → PySem.W.kitOne K (.type n) (.type u.nm) = some c) :
    ∀ (ts : List Ty) (b : Bool), tysD s d ts = some b → PySem.W.kitAny K (.type n) (ts.map fun t => Value.type t.nm) = some b
  | [], b, e => by cases e; rfl
  | t :: ts, b, e => by
    simp only [tysD] at e
    cases e1 : tyD s t d with
    | none => rw [e1] at e; cases e
    | some c =>
      rw [e1] at e
      refine kitAny_cons (h t c e1) (fun hc => ?_) fun hc => ?_
      · subst hc
        exact tys_kit h ts b e
      · subst hc
        exact (Option.some.inj e).symm
theorem tys_ty {s : Sto} {d : D} {t : Ty} {ts : List Ty} {b : Bool} (e : tysD s d (t :: ts) = some b) : ∃ c, tyD s t d = some c := by
  simp only [tysD] at e
  cases e1 : tyD s t d with
  | none => rw [e1] at e; cases e
  | some c => exact ⟨c, rfl⟩
/-- isinstance(x, T): the class's value stands behind -/
theorem call_isiD (hK : M.K = X.K) (t : Ty) : CallR X (.builtin "isinstance") (fun vs H Q => ∃ v, vs = [v, .ty t.nm] ∧ rM1 M (primD (.isi [t])) [v] H Q) := by
  intro pins s σ H vs us Q I r h
  obtain ⟨v, rfl, xs, st, β, R, hd, h⟩ := h
  rcases one_or xs with ⟨x, rfl⟩ | n
  · obtain ⟨v', e, hv⟩ := rds1 hd
    cases e
    obtain ⟨b, e1, q⟩ := Po.ofB R h
    obtain ⟨c, e2⟩ := tys_ty e1
    obtain ⟨n, ty, k⟩ := hv.ty R e2
    have eb : c = b := by
      simp only [tysD, e2] at e1
      cases c <;> simpa using e1
    subst eb
    exact call_isi pins s σ H _ us Q I r ⟨v, .ty t.nm, _, _, c, rfl, .ty _, hK ▸ ty, hK ▸ k t c e2, q⟩
  · rw [prim1 n] at h; exact h.elim
theorem cls_tys : ∀ ts : List Ty, Paired ClsV (ts.map fun t => V.ty t.nm) (ts.map fun t => Value.type t.nm)
  | [] => .nil
  | t :: ts => .cons (.ty _) (cls_tys ts)
theorem call_isiDT (hK : M.K = X.K) (t : Ty) (ts : List Ty) : CallR X (.builtin "isinstance") (fun vs H Q => ∃ v tp, vs = [v, .ref tp] ∧ H tp = some (.tup ((t :: ts).map fun t => V.ty t.nm)) ∧ rM1 M (primD (.isi (t :: ts))) [v] H Q) := by
  intro pins s σ H vs us Q I r h
  obtain ⟨v, tp, rfl, hT, xs, st, β, R, hd, h⟩ := h
  rcases one_or xs with ⟨x, rfl⟩ | n
  · obtain ⟨v', e, hv⟩ := rds1 hd
    cases e
    obtain ⟨b, e1, q⟩ := Po.ofB R h
    obtain ⟨c, e2⟩ := tys_ty e1
    obtain ⟨n, ty, k⟩ := hv.ty R e2
    exact call_isiT pins s σ H _ us Q I r ⟨v, tp, _, _, _, b, rfl, hT, cls_tys (t :: ts), hK ▸ ty, hK ▸ tys_kit k (t :: ts) b e1, q⟩
  · rw [prim1 n] at h; exact h.elim

/-! ### lists that are changed -/
theorem setL_some {s s' : Sto} {x : D} {f : List D → Option (List D)} (h : setL s x f = some s') : ∃ i xs ys, x = .lst i ∧ s[i]? = some (.lst xs) ∧ f xs = some ys ∧ s' = s.set i (.lst ys) := by
  cases x with
  | lst i =>
    simp only [setL] at h
    cases e : s[i]? with
    | none => rw [e] at h; cases h
    | some c =>
      cases c with
      | lst xs =>
        rw [e] at h
        obtain ⟨ys, h1, h2⟩ := Option.map_eq_some_iff.mp h
        exact ⟨i, xs, ys, rfl, e, h1, h2.symm⟩
      | _ => rw [e] at h; cases h
  | _ => simp [setL] at h
/-- the list of the cell, and how the state goes on -/
theorem RS.cellAt {H : Hp} {β : List Addr} {s : Sto} {i : Nat} {xs : List D} {v : V} (R : RS M H β s) (h : RD M H β s (.lst i) v) (hs : s[i]? = some (.lst xs)) :
    ∃ a vs, v = .ref a ∧ H a = some (.lst vs) ∧ RDs M H β s xs vs ∧ ∀ ds us, RDs M H β s ds us → RS M (upd H a (.lst us)) β (s.set i (.lst ds)) ∧ Kp H β s (upd H a (.lst us)) β (s.set i (.lst ds)) := by
  obtain ⟨a, hb, rfl⟩ := h
  obtain ⟨vs, hH, r⟩ := R.cells i a _ hb hs
  exact ⟨a, vs, rfl, hH, r, fun ds us q => ⟨R.write hb hs q, .write hb hs rfl⟩⟩
theorem mt_appD : MtM X "list.append" (fun v us H Q => ∃ u, us = [u] ∧ ∃ x y s β, RS M H β s ∧ RD M H β s x v ∧ RD M H β s y u ∧ Po M (RD M) H β s (appD x y s) Q W0) := by
  intro pins s σ H v us vv uu Q I rv ru h
  obtain ⟨u, rfl, x, y, st, β, R, hx, hy, h⟩ := h
  simp only [appD] at h
  split at h
  · rename_i s' e
    obtain ⟨i, xs, ys, rfl, e1, e2, rfl⟩ := setL_some e
    obtain ⟨hl, rfl⟩ := ifSome e2
    obtain ⟨a, vs, rfl, hH, r, wr⟩ := R.cellAt hx e1
    obtain ⟨R', k'⟩ := wr (xs ++ [y]) (vs ++ [u]) (r.append (RDs.one hy))
    exact mt_append pins s σ H _ _ vv uu Q I rv ru ⟨a, vs, u, rfl, rfl, hH, by rw [← r.length]; exact of_decide_eq_true hl, h.ok R' k' rfl⟩
  · exact h.elim
theorem ins_eq {α : Type} (xs : List α) (i : Nat) (y : α) : xs.take i ++ [y] ++ xs.drop i = xs.take i ++ y :: xs.drop i := by simp
theorem sizeLine63 : (sizeLine : Int) < 2 ^ 63 := by rw [sizeLine_eq]; decide
theorem mt_insD : MtR X "list.insert" (fun v us H Q => ∃ u1 u2, us = [u1, u2] ∧ ∃ x i y s β, RS M H β s ∧ RD M H β s x v ∧ RD M H β s i u1 ∧ RD M H β s y u2 ∧ Po M (RD M) H β s (insD x i y s) Q W0) := by
  intro pins s σ H v us vv uu Q I rv ru h
  obtain ⟨u1, u2, rfl, x, k, y, st, β, R, hx, hk, hy, h⟩ := h
  cases k <;> first | exact h.elim | skip
  rename_i k
  cases hk
  simp only [insD] at h
  split at h
  · rename_i s' e
    obtain ⟨i, xs, ys, rfl, e1, e2, rfl⟩ := setL_some e
    obtain ⟨hl, rfl⟩ := ifSome e2
    simp only [Bool.and_eq_true, decide_eq_true_eq] at hl
    obtain ⟨⟨l1, l2⟩, l3⟩ := hl
    have l1 : xs.length < sizeLine := of_decide_eq_true l1
    have := sizeLine63
    obtain ⟨a, vs, rfl, hH, r, wr⟩ := R.cellAt hx e1
    obtain ⟨R', k'⟩ := wr (insI xs k.toNat y) (vs.take k.toNat ++ [u2] ++ vs.drop k.toNat) (by
      rw [ins_eq]
      exact (r.take _).append ⟨hy, r.drop _⟩)
    exact mt_insert pins s σ H _ _ vv uu Q I rv ru ⟨a, vs, k, u2, rfl, rfl, hH, by rw [← r.length]; exact l1, l2, by omega, h.ok R' k' rfl⟩
  · exact h.elim
theorem set_den : PSet X (fun o i v H Q => ∃ x k y s β s', RS M H β s ∧ RD M H β s x o ∧ RD M H β s k i ∧ RD M H β s y v ∧ setIx x k y s = some s' ∧ ∀ H' β', RS M H' β' s' → Kp H β s H' β' s' → Q H') := by
  intro pins s σ H o i v ov iv u Q I ro ri rv h
  obtain ⟨x, k, y, st, β, s', R, hx, hk, hy, e, h⟩ := h
  cases k with
  | int k =>
    cases hk
    simp only [setIx] at e
    obtain ⟨j, xs, ys, rfl, e1, e2, rfl⟩ := setL_some e
    obtain ⟨n, e3, rfl⟩ := Option.map_eq_some_iff.mp e2
    obtain ⟨a, vs, rfl, hH, r, wr⟩ := R.cellAt hx e1
    obtain ⟨R', k'⟩ := wr (xs.set n y) (vs.set n v) (r.set n hy)
    exact set_list pins s σ H _ _ v ov iv u Q I ro ri rv ⟨a, vs, k, n, rfl, rfl, hH, by rw [← r.length]; exact e3, h _ _ R' k'⟩
  | _ => simp [setIx] at e
end
end Dn

end
section
set_option Elab.async false
set_option maxRecDepth 100000
set_option maxHeartbeats 4000000
set_option linter.unusedVariables false
/-! Dn2r: a tuple taken backwards. -/
namespace Dn
open PySem PySem.Spec PyProof.Rows L2 LamX HT
section
variable {prog : Program} {w : World} {A : Around} {E : Value → Shared → Prop} {s : Shared}
theorem adjust_rev (n : Nat) : Builtin.Slice.sliceAdjust none none (-1) (n : Int) = ((n : Int) - 1, -1) := by
  unfold Builtin.Slice.sliceAdjust
  simp
theorem places_rev (n : Nat) : Builtin.Slice.slicePlaces ((n : Int) - 1) (-1) (-1) = n := by
  unfold Builtin.Slice.slicePlaces
  have h1 : ¬ ((-1 : Int) > 0) := by omega
  simp only [h1, if_false]
  have h2 : (-(-1) : Int) = 1 := by decide
  rw [h2, Int.ediv_one]
  split <;> omega
theorem rev_map (n : Nat) : (List.range n).map (fun k => n - 1 - k) = (List.range n).reverse := by
  apply List.ext_getElem
  · simp
  · intro i h1 h2
    rw [List.getElem_map, List.getElem_reverse]; simp
theorem pick_rev (xs : Array Value) : ((List.range xs.size).filterMap fun (m : Nat) => xs[(((xs.size : Int) - 1) + (m : Int) * (-1)).toNat]?).toArray = xs.toList.reverse.toArray := by
  have e : (List.range xs.size).filterMap (fun (m : Nat) => xs[(((xs.size : Int) - 1) + (m : Int) * (-1)).toNat]?) = ((List.range xs.size).map fun k => xs.size - 1 - k).filterMap (xs[·]?) := by
    rw [List.filterMap_map]
    have go : ∀ l : List Nat, (∀ m ∈ l, m < xs.size) → l.filterMap (fun (m : Nat) => xs[(((xs.size : Int) - 1) + (m : Int) * (-1)).toNat]?) = l.filterMap ((xs[·]?) ∘ fun k => xs.size - 1 - k) := by
      intro l
      induction l with
      | nil => exact fun _ => rfl
      | cons m l ih =>
        intro h
        have h1 := h m (by simp)
        have e : (((xs.size : Int) - 1) + (m : Int) * (-1)).toNat = xs.size - 1 - m := by omega
        rw [List.filterMap_cons, List.filterMap_cons, e, ih fun z hz => h z (by simp [hz])]
        rfl
    exact go _ fun m hm => List.mem_range.mp hm
  have all : (List.range xs.size).filterMap (xs[·]?) = xs.toList := by
    have h := pick_run xs 0 xs.size
    have e : (List.range xs.size).map (0 + ·) = List.range xs.size := by
      rw [show ((0 + ·) : Nat → Nat) = id from funext fun k => Nat.zero_add k, List.map_id]
    rw [e, List.drop_zero, List.take_of_length_le (by rw [Array.length_toList]; exact Nat.le_refl _)] at h
    exact h
  rw [e, rev_map, List.filterMap_reverse, all]
theorem sliceApplied_rev {sl : Addr} {vk : Value} {n : Nat} {Q : Int × Int × Nat → Shared → Prop} (hs : s.heap.IsSliceOf sl .none .none vk) (pk : IsPart vk (some (-1)))
    (h : Q ((n : Int) - 1, -1, n) s) : wpAny (model prog w) A (Builtin.Slice.sliceApplied (.ref sl) (pure (n : Int))) Q E s := by
  obtain ⟨os, hos, hcs, hds⟩ := id hs
  unfold Builtin.Slice.sliceApplied Builtin.Slice.sliceFields
  refine wpAny_bind (wpAny_bind (wpAny_field hos hds (x := .none) rfl (wpAny_bind (wpAny_field hos hds (x := .none) rfl (wpAny_bind (wpAny_field hos hds (x := vk) rfl (wpAny_pure ?_)))))))
  refine wpAny_bind (slicePart_ pk ?_)
  show wpAny _ _ (if ((-1 : Int) == 0) = true then _ else _) _ _ s
  rw [if_neg (by decide)]
  refine wpAny_bind (slicePart_ .none (wpAny_bind (slicePart_ .none (wpAny_bind (wpAny_pure ?_)))))
  show wpAny _ _ (match Builtin.Slice.sliceAdjust none none (-1) (n : Int) with | (lo, hi) => pure (lo, (-1 : Int), Builtin.Slice.slicePlaces lo hi (-1))) _ _ s
  rw [adjust_rev n]
  show wpAny _ _ (pure ((n : Int) - 1, (-1 : Int), Builtin.Slice.slicePlaces ((n : Int) - 1) (-1) (-1))) _ _ s
  rw [places_rev]
  exact wpAny_pure h
theorem getItem_tuple_rev {t sl : Addr} {items : Array Value} {vk : Value} {Q : Value → Shared → Prop} (ht : IsTup s.heap t items) (hs : s.heap.IsSliceOf sl .none .none vk) (pk : IsPart vk (some (-1)))
    (h : Q (.ref s.heap.objs.size) { s with heap := s.heap.push { cls := .type "tuple", data := .seq items.toList.reverse.toArray } })
    (hsz : items.size ≤ sizeLine) : wpAny (model prog w) A (getItem (.ref t) (.ref sl)) Q E s := by
  have htake : sizeOk (.seq items.toList.reverse.toArray) := by
    show items.toList.reverse.toArray.size ≤ sizeLine
    rw [List.size_toArray, List.length_reverse, Array.length_toList]
    exact hsz
  obtain ⟨os, hos, hcs, hds⟩ := id hs
  have hTs : s.TypeIs (.ref sl) "slice" := ⟨os, hos, hcs⟩
  unfold getItem
  try with_reducible refine wpAny_holding ?_
  first | refine wpAny_bind (wpAny_pure ?_) | skip
  refine wpAny_bind (wpAny_sequenceKey ht.typeIs (by decide) ?_)
  refine wpAny_bind (wpAny_callSpecial?_slot (name := Str.ofString "__getitem__") ht.typeIs PyProof.Rows.slot_tuple_getitem
    (wpAny_call_entry PyProof.Rows.slot_tuple_getitem ht.typeIs entry_tuple_getitem ?_ (args_tuple_getitem _ _)))
  show wpAny _ _ (Builtin.Tuple.tupleItemsOf (.ref t) >>= _) _ _ s
  refine wpAny_bind (tupleItemsOf_ ht ?_)
  refine wpAny_bind (wpAny_typeOf hTs ?_)
  rw [if_pos (by decide)]
  refine wpAny_bind (sliceApplied_rev hs pk ?_)
  have hno : ¬ (((((items.size : Nat) : Int) - 1) == 0 && (-1 : Int) == 1 && items.size == items.size) = true) := by
    intro q
    rw [Bool.and_eq_true, Bool.and_eq_true] at q
    exact absurd q.1.2 (by decide)
  show wpAny _ _ (if ((((items.size : Nat) : Int) - 1) == 0 && (-1 : Int) == 1 && items.size == items.size) = true then _ else _) _ _ s
  rw [if_neg hno, pick_rev]
  first
    | exact wpAny_bind (m := Builtin.Tuple.tupleExact _) (wpAny_newObj_type (wpAny_pure ⟨_, rfl, wpAny_pure h⟩) htake)
    | exact wpAny_bind (m := Builtin.Tuple.tupleExact _) (wpAny_newObj_type (wpAny_bind (wpAny_pure (wpAny_pure ⟨_, rfl, wpAny_pure h⟩))) htake)
    | exact wpAny_bind (wpAny_bind (m := Builtin.Tuple.tupleExact _) (wpAny_newObj_type (wpAny_pure (wpAny_pure ⟨_, rfl, wpAny_pure h⟩)) htake))
    | exact wpAny_bind (wpAny_bind (m := Builtin.Tuple.tupleExact _) (wpAny_newObj_type (wpAny_pure ⟨_, rfl, wpAny_pure h⟩) htake))
end
end Dn

end
section
set_option Elab.async false
set_option maxRecDepth 100000
set_option maxHeartbeats 4000000
set_option linter.unusedVariables false
/-! Dn3: expressions, one form after another: what the model makes of them is what the meaning says. -/
namespace Dn
open PySem PySem.Spec PyProof.Rows L2 LamX

abbrev Sem1 (α : Type) := Env → Sto → Res α
def tE (M : Kit) (W : WX) (r : Sem1 D) : TE := fun σ H Q => ∃ env s β, RE M H β s env σ ∧ RS M H β s ∧ Po M (RD M) H β s (r env s) Q fun c H' => W c none σ H'
def RB (_ : Hp) (_ : List Addr) (_ : Sto) (d : D) (b : Bool) : Prop := d = .bl b
def tT (M : Kit) (W : WX) (r : Sem1 D) : TT := fun σ H Q => ∃ env s β, RE M H β s env σ ∧ RS M H β s ∧ (∀ d s1, r env s = .ok d s1 → ∃ b, d = .bl b) ∧ Po M RB H β s (r env s) Q fun c H' => W c none σ H'
def tL (M : Kit) (W : WX) (r : Sem1 (List D)) : TA := fun σ H Q => ∃ env s β, RE M H β s env σ ∧ RS M H β s ∧ Po M (RDs M) H β s (r env s) Q fun c H' => W c none σ H'
def RO (_ : Hp) (_ : List Addr) (_ : Sto) (d : Option Int) (b : Option Int) : Prop := d = b
def tOp' (M : Kit) (W : WX) (r : Sem1 (Option Int)) : TO := fun σ H Q => ∃ env s β, RE M H β s env σ ∧ RS M H β s ∧ Po M RO H β s (r env s) Q fun c H' => W c none σ H'

theorem peImp {X : Cx} {e : Expr} {t t' : TE} (h : PE X e t) (i : ∀ σ H Q, t' σ H Q → t σ H Q) : PE X e t' := ⟨fun pins s σ H Q I q => h.run pins s σ H Q I (i σ H Q q)⟩
theorem ptImp {X : Cx} {e : Expr} {t t' : TT} (h : PT X e t) (i : ∀ σ H Q, t' σ H Q → t σ H Q) : PT X e t' := ⟨fun pins s σ H Q I q => h.run pins s σ H Q I (i σ H Q q)⟩
theorem pwImp {X : Cx} {e : Expr} {t t' : TT} (h : PW X e t) (i : ∀ σ H Q, t' σ H Q → t σ H Q) : PW X e t' := ⟨fun wh pins s σ H Q I q => h.run wh pins s σ H Q I (i σ H Q q)⟩
theorem paImp {X : Cx} {e : List Expr} {t t' : TA} (h : PA X e t) (i : ∀ σ H Q, t' σ H Q → t σ H Q) : PA X e t' := ⟨fun pos pins s σ H Q I q => h.run pos pins s σ H Q I (i σ H Q q)⟩
theorem poImp {X : Cx} {e : Option Expr} {t t' : TO} (h : PO X e t) (i : ∀ σ H Q, t' σ H Q → t σ H Q) : PO X e t' := ⟨fun pins s σ H Q I q => h.run pins s σ H Q I (i σ H Q q)⟩

/-! ### what never raises -/
def NoX {α : Type} : Res α → Prop
  | .exc _ _ _ => False
  | _ => True
theorem Po.nox {M : Kit} {α ω : Type} {R : Hp → List Addr → Sto → α → ω → Prop} {H : Hp} {β : List Addr} {s : Sto} {r : Res α} {Q : ω → Hp → Prop} {Wx : Value → Hp → Prop} (n : NoX r) (h : Po M R H β s r Q Wx) : Po M R H β s r Q W0 := by
  cases r with
  | exc c fs s' => exact n.elim
  | _ => exact h
theorem guard_nx {b : Bool} {d : D} {s : Sto} : NoX (guardD b d s) := by unfold guardD; split <;> trivial
theorem bin_nx {o : Bo} {x y : D} {s : Sto} : NoX (binD o x y s) := by
  have l : NoX (match listOf s x, listOf s y with | some xs, some ys => guardD (lineOk (xs.length + ys.length)) (.rol (xs ++ ys)) s | _, _ => .bad) := by
    split <;> first | exact guard_nx | trivial
  have l2 : NoX (match listOf s x, listOf s y with | some xs, some ys => guardD (lineOk (xs.length + ys.length)) (.lst s.length) (s ++ [.lst (xs ++ ys)]) | _, _ => .bad) := by
    split <;> first | exact guard_nx | trivial
  cases o <;> first | exact l2 | (cases x <;> cases y <;> first | exact guard_nx | trivial | exact l)
theorem ofB_nx {o : Option Bool} {s : Sto} : NoX (ofB o s) := by cases o <;> trivial
theorem cmp_nx {o : Co} {x y : D} {s : Sto} : NoX (cmpD o x y s) := by
  cases o <;> first | exact ofB_nx | (cases x <;> cases y <;> trivial) | (cases y <;> first | trivial | (cases x <;> trivial))
theorem ix_nx {x y : D} {s : Sto} : NoX (ixD s x y) := by
  cases y <;> first | trivial | skip
  simp only [ixD]
  split <;> first | trivial | skip
  split <;> trivial
theorem sl_nx {x : D} {l u : Option Int} {s : Sto} : NoX (slD s x l u) := by
  cases x <;> first | trivial | (simp only [slD]; split <;> trivial)
theorem prim_nx {p : Pr} {xs : List D} {s : Sto} : NoX (primD p xs s) := by
  rcases one_or xs with ⟨x, rfl⟩ | n
  · cases p <;> first | exact ofB_nx | (simp only [primD]; split <;> trivial) | (cases x <;> trivial)
  · rw [prim1 n]; trivial
theorem app_nx {x y : D} {s : Sto} : NoX (appD x y s) := by unfold appD; split <;> trivial
theorem ins_nx {x i y : D} {s : Sto} : NoX (insD x i y s) := by
  cases i <;> first | trivial | (simp only [insD]; split <;> trivial)

section
variable {X : Cx} {M : Kit} {W : WX} {pos p1 : Pos}
/-- both readings of an expression -/
structure SX (X : Cx) (M : Kit) (W : WX) (e : Expr) (r : Sem1 D) : Prop where
  pe : PE X e (tE M W r)
  pt : PT X e (tT M W r)
  pw : ∀ o vs p, e = .BoolOp o vs p → PW X e (tT M W r)
/-- an expression whose truth is its value's -/
theorem SX.plain {e : Expr} {r : Sem1 D} (h : PE X e (tE M W r)) (nb : ∀ o vs p, e ≠ .BoolOp o vs p) (he : ∀ whole, isTrue e X.env whole = (do let v ← whole; standAt e.pos; holding [v] (truthy v))) : SX X M W e r :=
  ⟨h, ptImp (pt_val h he) fun σ H Q ⟨env, s, β, re, rs, hb, q⟩ => ⟨env, s, β, re, rs, by
    revert hb q
    cases r env s with
    | ok d s1 =>
      intro hb q
      obtain ⟨b, rfl⟩ := hb d s1 rfl
      intro H' β' v R k rv
      cases rv
      exact ⟨b, rfl, q H' β' b R k rfl⟩
    | exc c fs s1 => exact fun _ q => q
    | bad => exact fun _ q => q⟩, fun o vs p z => absurd z (nb o vs p)⟩

/-! ### names, constants -/
theorem sx_var {i : Nat} {x : Str} (hN : X.N[i]? = some x) (hv : Vis X.env.scope x) (h1 : (x == ("__debug__" : Str)) = false) (h2 : (x == ("__classdict__" : Str)) = false) :
    SX X M W (.Name x pos) (fun env s => match env[i]? with | some (some d) => .ok d s | _ => .bad) := by
  refine SX.plain (peImp (pe_var hN hv h1 h2) fun σ H Q ⟨env, s, β, re, rs, q⟩ => ?_) (fun _ _ _ z => nomatch z) (fun _ => rfl)
  cases e : env[i]? with
  | none => simp only [e] at q; exact q.elim
  | some o =>
    cases o with
    | none => simp only [e] at q; exact q.elim
    | some d =>
      simp only [e] at q
      obtain ⟨v, h1, h2⟩ := re.at_ i d e
      exact ⟨v, h1, q.ok rs (.refl _ _ _) h2⟩
theorem sx_int {i : Int} {j : Nat} : SX X M W (.Constant (.int i) j pos) (fun _ s => .ok (.int i) s) :=
  SX.plain (peImp pe_int fun σ H Q ⟨env, s, β, re, rs, q⟩ => q.ok rs (.refl _ _ _) rfl) (fun _ _ _ z => nomatch z) (fun _ => rfl)
theorem sx_bl {b : Bool} {j : Nat} : SX X M W (.Constant (.bool b) j pos) (fun _ s => .ok (.bl b) s) :=
  SX.plain (peImp pe_bl fun σ H Q ⟨env, s, β, re, rs, q⟩ => q.ok rs (.refl _ _ _) rfl) (fun _ _ _ z => nomatch z) (fun _ => rfl)
theorem sx_non {j : Nat} : SX X M W (.Constant .none j pos) (fun _ s => .ok .non s) :=
  SX.plain (peImp pe_non fun σ H Q ⟨env, s, β, re, rs, q⟩ => q.ok rs (.refl _ _ _) rfl) (fun _ _ _ z => nomatch z) (fun _ => rfl)
theorem sx_str {x : Str} {j : Nat} : SX X M W (.Constant (.str x) j pos) (fun _ s => .ok (.str x) s) :=
  SX.plain (peImp pe_str fun σ H Q ⟨env, s, β, re, rs, q⟩ => q.ok rs (.refl _ _ _) rfl) (fun _ _ _ z => nomatch z) (fun _ => rfl)
/-- a constant of the module -/
def KD (M : Kit) (d : D) (v : V) : Prop := ∀ H β s, RD M H β s d v
theorem sx_top {x : Str} {v : V} {u : Value} {d : D} (hg : Gl X x) (hm : X.mg x = some u) (r : RelV v u) (hd : KD M d v) (hdb : (x == ("__debug__" : Str)) = false) : SX X M W (.Name x pos) (fun _ s => .ok d s) :=
  SX.plain (peImp (pe_glob hg hm r hdb) fun σ H Q ⟨env, s, β, re, rs, q⟩ => q.ok rs (.refl _ _ _) (hd H β s)) (fun _ _ _ z => nomatch z) (fun _ => rfl)

/-! ### operators -/
variable {a b c : Expr} {ra rb rc : Sem1 D}
theorem tE_then {σ : L2.St} {H : Hp} {Q Q' : VK} {f : D → Env → Sto → Res D} (h : tE M W (fun env s => (ra env s).bind fun x s1 => f x env s1) σ H Q)
    (n : ∀ env x s1 H1 β1 v, RE M H1 β1 s1 env σ → RS M H1 β1 s1 → RD M H1 β1 s1 x v → Po M (RD M) H1 β1 s1 (f x env s1) Q (fun c H' => W c none σ H') → Q' v H1) : tE M W ra σ H Q' := by
  obtain ⟨env, s, β, re, rs, q⟩ := h
  exact ⟨env, s, β, re, rs, q.step fun d s1 H1 β1 v _ rs1 k rd q1 => n env d s1 H1 β1 v (re.mono rs k) rs1 rd q1⟩
theorem tE_two {σ : L2.St} {H : Hp} {Q : VK} {r2 : R2} {f : D → D → Sto → Res D} (h : tE M W (fun env s => (ra env s).bind fun x s1 => (rb env s1).bind fun y s2 => f x y s2) σ H Q)
    (n : ∀ v u H2, rM2 M f v u H2 Q → r2 v u H2 Q) (nx : ∀ x y s, NoX (f x y s)) : tE M W ra σ H fun v H1 => tE M W rb σ H1 fun u H2 => r2 v u H2 Q := by
  refine tE_then (f := fun x env s1 => (rb env s1).bind fun y s2 => f x y s2) h fun env x s1 H1 β1 v re1 rs1 rd q1 => ?_
  exact ⟨env, s1, β1, re1, rs1, q1.step fun y s2 H2 β2 u _ rs2 k2 rd2 q2 => n v u H2 ⟨x, y, s2, β2, rs2, RD.mono rs1 k2 x rd, rd2, q2.nox (nx x y s2)⟩⟩
theorem sx_bin (hK : M.K = X.K) (o : Bo) (ha : SX X M W a ra) (hb : SX X M W b rb) : SX X M W (.BinOp a o.op b pos) (fun env s => (ra env s).bind fun x s1 => (rb env s1).bind fun y s2 => binD o x y s2) :=
  SX.plain (peImp (pe_op (op_bin hK o) ha.pe hb.pe) fun σ H Q h => tE_two h (fun _ _ _ q => q) fun _ _ _ => bin_nx) (fun _ _ _ z => nomatch z) (fun _ => rfl)
theorem sx_neg (ha : SX X M W a ra) : SX X M W (.UnaryOp .USub a pos) (fun env s => (ra env s).bind negD) := by
  refine SX.plain (peImp (pe_un un_neg ha.pe) fun σ H Q h => ?_) (fun _ _ _ z => nomatch z) (fun _ => rfl)
  refine tE_then (f := fun x _ s1 => negD x s1) h fun env x s1 H1 β1 v re1 rs1 rd q1 => ?_
  cases x <;> first | exact q1.elim | skip
  cases rd
  exact ⟨_, rfl, q1.ok rs1 (.refl _ _ _) rfl⟩
theorem cmp_bl {o : Co} {x y : D} {s s1 : Sto} {d : D} (h : cmpD o x y s = .ok d s1) : (∃ b, d = .bl b) ∧ s1 = s := by
  have l : ∀ {p : Option Bool}, ofB p s = .ok d s1 → (∃ b, d = .bl b) ∧ s1 = s := fun {p} h => by
    cases p with
    | none => cases h
    | some b => cases h; exact ⟨⟨b, rfl⟩, rfl⟩
  cases o <;> first | exact l h | (cases x <;> cases y <;> first | (cases h; exact ⟨⟨_, rfl⟩, rfl⟩) | cases h) | (cases y <;> first | (cases h; exact ⟨⟨_, rfl⟩, rfl⟩) | cases h)
/-- a test by its value's reading -/
theorem tT_of {r : Sem1 D} {σ : L2.St} {H : Hp} {Q : Bool → Hp → Prop} (h : tT M W r σ H Q) : tE M W r σ H fun v H' => ∃ k, v = .bl k ∧ Q k H' := by
  obtain ⟨env, s, β, re, rs, hb, q⟩ := h
  refine ⟨env, s, β, re, rs, ?_⟩
  revert hb q
  cases r env s with
  | ok d s1 =>
    intro hb q
    obtain ⟨b, rfl⟩ := hb d s1 rfl
    intro H' β' v R k rv
    cases rv
    exact ⟨b, rfl, q H' β' b R k rfl⟩
  | exc c fs s1 => exact fun _ q => q
  | bad => exact fun _ q => q
theorem sx_cmp (hK : M.K = X.K) (hu : X.A.units + 65 < cLine) (o : Co) (hm : behindInMarks o.op b = false) (ha : SX X M W a ra) (hb : SX X M W b rb) :
    SX X M W (.Compare a [o.op] [b] pos) (fun env s => (ra env s).bind fun x s1 => (rb env s1).bind fun y s2 => cmpD o x y s2) :=
  ⟨peImp (pe_cmpR (op_cmp hK hu o) ha.pe hb.pe hm) fun σ H Q h => tE_two h (fun _ _ _ q => q) fun _ _ _ => cmp_nx,
    ptImp (pt_cmpR (op_cmp hK hu o) ha.pe hb.pe hm) fun σ H Q h => tE_two (tT_of h) (fun _ _ _ q => q) fun _ _ _ => cmp_nx, fun _ _ _ z => nomatch z⟩
theorem chain_read {o1 o2 : Co} {σ : L2.St} {H : Hp} {Q : VK} (h : tE M W (fun env s => (ra env s).bind fun x s1 => (rb env s1).bind fun y s2 => (cmpD o1 x y s2).bind fun r s3 => match r with
      | .bl true => (rc env s3).bind fun z s4 => cmpD o2 y z s4
      | .bl false => .ok (.bl false) s3
      | _ => .bad) σ H Q) : tChain (rM2 M (cmpD o1)) (rM2 M (cmpD o2)) (tE M W ra) (tE M W rb) (tE M W rc) σ H Q := by
  refine tE_then (f := fun x env s1 => (rb env s1).bind fun y s2 => (cmpD o1 x y s2).bind fun r s3 => match r with
      | .bl true => (rc env s3).bind fun z s4 => cmpD o2 y z s4
      | .bl false => .ok (.bl false) s3
      | _ => .bad) h fun env x s1 H1 β1 v re1 rs1 rd q1 => ?_
  refine ⟨env, s1, β1, re1, rs1, q1.step fun y s2 H2 β2 u _ rs2 k2 rd2 q2 => ⟨x, y, s2, β2, rs2, RD.mono rs1 k2 x rd, rd2, ?_⟩⟩
  have re2 := re1.mono rs1 k2
  refine Po.nox cmp_nx (q2.step fun r s3 H3 β3 w e3 rs3 k3 rd3 q3 => ?_)
  obtain ⟨⟨k, rfl⟩, _⟩ := cmp_bl e3
  cases rd3
  refine ⟨k, rfl, ?_⟩
  cases k with
  | false => exact iteF (q3.ok rs3 (.refl _ _ _) rfl)
  | true => exact iteT ⟨env, s3, β3, re2.mono rs2 k3, rs3, q3.step fun z s4 H4 β4 w _ rs4 k4 rd4 q4 => ⟨y, z, s4, β4, rs4, RD.mono rs3 k4 y (RD.mono rs2 k3 y rd2), rd4, q4.nox cmp_nx⟩⟩
theorem sx_cmp2 (hK : M.K = X.K) (hu : X.A.units + 65 < cLine) (o1 o2 : Co) (hm : lastMarks [o1.op, o2.op] [b, c] = false) (ha : SX X M W a ra) (hb : SX X M W b rb) (hc : SX X M W c rc) :
    SX X M W (.Compare a [o1.op, o2.op] [b, c] pos) (fun env s => (ra env s).bind fun x s1 => (rb env s1).bind fun y s2 => (cmpD o1 x y s2).bind fun r s3 => match r with
      | .bl true => (rc env s3).bind fun z s4 => cmpD o2 y z s4
      | .bl false => .ok (.bl false) s3
      | _ => .bad) :=
  ⟨peImp (pe_chain (op_cmp hK hu o1) (op_cmp hK hu o2) ha.pe hb.pe hc.pe hm) fun σ H Q h => chain_read h,
    ptImp (pt_chain (op_cmp hK hu o1) (op_cmp hK hu o2) ha.pe hb.pe hc.pe hm) fun σ H Q h => chain_read (tT_of h), fun _ _ _ z => nomatch z⟩

/-! ### not, and, or, if -/
theorem tT_then {σ : L2.St} {H : Hp} {Q : Bool → Hp → Prop} {Q' : Bool → Hp → Prop} {f : D → Env → Sto → Res D} (hf : ∀ x env s, (∀ b, x ≠ .bl b) → f x env s = .bad)
    (h : tT M W (fun env s => (ra env s).bind fun x s1 => f x env s1) σ H Q)
    (n : ∀ env b s1 H1 β1, RE M H1 β1 s1 env σ → RS M H1 β1 s1 → (∀ d s2, f (.bl b) env s1 = .ok d s2 → ∃ b, d = .bl b) → Po M RB H1 β1 s1 (f (.bl b) env s1) Q (fun c H' => W c none σ H') → Q' b H1) : tT M W ra σ H Q' := by
  obtain ⟨env, s, β, re, rs, hb, q⟩ := h
  refine ⟨env, s, β, re, rs, ?_⟩
  revert hb q
  dsimp only
  cases ra env s with
  | ok d s1 =>
    intro hb q
    by_cases z : ∃ b, d = .bl b
    · obtain ⟨b, rfl⟩ := z
      refine ⟨fun d' s' e => by cases e; exact ⟨b, rfl⟩, fun H' β' b' R k e => ?_⟩
      cases e
      exact n env b s1 H' β' (re.mono rs k) R hb (Po.later k q)
    · have e : f d env s1 = .bad := hf d env s1 fun b e => z ⟨b, e⟩
      have q : Po M RB H β s (f d env s1) Q fun c H' => W c none σ H' := q
      rw [e] at q
      exact q.elim
  | exc c fs s1 => exact fun _ q => ⟨fun _ _ z => (nomatch z), q⟩
  | bad => exact fun _ q => q.elim
theorem tE_of_bl {r : Sem1 D} {σ : L2.St} {H : Hp} {Q : VK} {f : D → Env → Sto → Res D} (hf : ∀ x env s, (∀ b, x ≠ .bl b) → f x env s = .bad)
    (h : tE M W (fun env s => (ra env s).bind fun x s1 => f x env s1) σ H Q) {Q' : Bool → Hp → Prop}
    (n : ∀ env b s1 H1 β1, RE M H1 β1 s1 env σ → RS M H1 β1 s1 → Po M (RD M) H1 β1 s1 (f (.bl b) env s1) Q (fun c H' => W c none σ H') → Q' b H1) : tE M W ra σ H fun v H1 => ∃ b, v = .bl b ∧ Q' b H1 := by
  refine tE_then (f := f) h fun env x s1 H1 β1 v re1 rs1 rd q1 => ?_
  by_cases z : ∃ b, x = .bl b
  · obtain ⟨b, rfl⟩ := z
    cases rd
    exact ⟨b, rfl, n env b s1 H1 β1 re1 rs1 q1⟩
  · rw [hf x env s1 fun b e => z ⟨b, e⟩] at q1
    exact q1.elim
/-- a test told by its value's reading -/
theorem tT_of_bl {σ : L2.St} {H : Hp} {Q : VK} {f : D → Env → Sto → Res D} (hf : ∀ x env s, (∀ b, x ≠ .bl b) → f x env s = .bad)
    (h : tE M W (fun env s => (ra env s).bind fun x s1 => f x env s1) σ H Q) {Q' : Bool → Hp → Prop}
    (n : ∀ env b s1 H1 β1, RE M H1 β1 s1 env σ → RS M H1 β1 s1 → Po M (RD M) H1 β1 s1 (f (.bl b) env s1) Q (fun c H' => W c none σ H') → Q' b H1) : tT M W ra σ H Q' := by
  obtain ⟨env, s, β, re, rs, q⟩ := h
  refine ⟨env, s, β, re, rs, ?_⟩
  revert q
  dsimp only
  cases ra env s with
  | ok d s1 =>
    intro q
    by_cases z : ∃ b, d = .bl b
    · obtain ⟨b, rfl⟩ := z
      refine ⟨fun d' s' e => by cases e; exact ⟨b, rfl⟩, fun H' β' b' R k e => ?_⟩
      cases e
      exact n env b s1 H' β' (re.mono rs k) R (Po.later k q)
    · have q : Po M (RD M) H β s (f d env s1) Q fun c H' => W c none σ H' := q
      rw [hf d env s1 fun b e => z ⟨b, e⟩] at q
      exact q.elim
  | exc c fs s1 => exact fun q => ⟨fun _ _ z => (nomatch z), q⟩
  | bad => exact fun q => q.elim
abbrev fNot : D → Env → Sto → Res D := fun x _ s1 => match x with
  | .bl b => .ok (.bl (!b)) s1
  | _ => .bad
theorem fNot_bad : ∀ x env s, (∀ b, x ≠ .bl b) → fNot x env s = .bad := fun x env s h => by
  cases x <;> first | rfl | exact absurd rfl (h _)
abbrev fAnd (rb : Sem1 D) : D → Env → Sto → Res D := fun x env s1 => match x with
  | .bl true => rb env s1
  | .bl false => .ok (.bl false) s1
  | _ => .bad
theorem fAnd_bad : ∀ x env s, (∀ b, x ≠ .bl b) → fAnd rb x env s = .bad := fun x env s h => by
  cases x <;> first | rfl | exact absurd rfl (h _)
abbrev fOr (rb : Sem1 D) : D → Env → Sto → Res D := fun x env s1 => match x with
  | .bl true => .ok (.bl true) s1
  | .bl false => rb env s1
  | _ => .bad
theorem fOr_bad : ∀ x env s, (∀ b, x ≠ .bl b) → fOr rb x env s = .bad := fun x env s h => by
  cases x <;> first | rfl | exact absurd rfl (h _)
abbrev fIf (rb rc : Sem1 D) : D → Env → Sto → Res D := fun x env s1 => match x with
  | .bl true => rb env s1
  | .bl false => rc env s1
  | _ => .bad
theorem fIf_bad : ∀ x env s, (∀ b, x ≠ .bl b) → fIf rb rc x env s = .bad := fun x env s h => by
  cases x <;> first | rfl | exact absurd rfl (h _)
theorem sx_not (ha : SX X M W a ra) : SX X M W (.UnaryOp .Not a pos) (fun env s => (ra env s).bind fun x s1 => fNot x env s1) :=
  ⟨peImp (pe_not ha.pe) fun σ H Q h => tE_of_bl (r := ra) fNot_bad h fun env b s1 H1 β1 re1 rs1 q => q.ok rs1 (.refl _ _ _) rfl,
    ptImp (pt_not ha.pt) fun σ H Q h => tT_then fNot_bad h fun env b s1 H1 β1 re1 rs1 _ q => q H1 β1 _ rs1 (.refl _ _ _) rfl, fun _ _ _ z => nomatch z⟩
theorem and_pe {rest : List Expr} (ha : SX X M W a ra) (hb : PE X (.BoolOp .And (b :: rest) pos) (tE M W rb)) : PE X (.BoolOp .And (a :: b :: rest) pos) (tE M W fun env s => (ra env s).bind fun x s1 => fAnd rb x env s1) :=
  peImp (pe_and ha.pe hb) fun σ H Q h => tE_of_bl (r := ra) fAnd_bad h fun env k s1 H1 β1 re1 rs1 q => by
    cases k with
    | true => exact iteT ⟨env, s1, β1, re1, rs1, q⟩
    | false => exact iteF (q.ok rs1 (.refl _ _ _) rfl)
theorem and_pw {rest : List Expr} (ha : SX X M W a ra) (hb : PW X (.BoolOp .And (b :: rest) pos) (tT M W rb)) : PW X (.BoolOp .And (a :: b :: rest) pos) (tT M W fun env s => (ra env s).bind fun x s1 => fAnd rb x env s1) :=
  pwImp (pw_and ha.pt hb) fun σ H Q h => tT_then fAnd_bad h fun env k s1 H1 β1 re1 rs1 hb q => by
    cases k with
    | true => exact iteT ⟨env, s1, β1, re1, rs1, hb, q⟩
    | false => exact iteF (q H1 β1 _ rs1 (.refl _ _ _) rfl)
theorem or_pe {rest : List Expr} (ha : SX X M W a ra) (hb : PE X (.BoolOp .Or (b :: rest) pos) (tE M W rb)) : PE X (.BoolOp .Or (a :: b :: rest) pos) (tE M W fun env s => (ra env s).bind fun x s1 => fOr rb x env s1) :=
  peImp (pe_or ha.pe hb) fun σ H Q h => tE_of_bl (r := ra) fOr_bad h fun env k s1 H1 β1 re1 rs1 q => by
    cases k with
    | true => exact iteT (q.ok rs1 (.refl _ _ _) rfl)
    | false => exact iteF ⟨env, s1, β1, re1, rs1, q⟩
theorem or_pw {rest : List Expr} (ha : SX X M W a ra) (hb : PW X (.BoolOp .Or (b :: rest) pos) (tT M W rb)) : PW X (.BoolOp .Or (a :: b :: rest) pos) (tT M W fun env s => (ra env s).bind fun x s1 => fOr rb x env s1) :=
  pwImp (pw_or ha.pt hb) fun σ H Q h => tT_then fOr_bad h fun env k s1 H1 β1 re1 rs1 hb q => by
    cases k with
    | true => exact iteT (q H1 β1 _ rs1 (.refl _ _ _) rfl)
    | false => exact iteF ⟨env, s1, β1, re1, rs1, hb, q⟩
theorem SX.bool {o : BoolOp} {vs : List Expr} {r : Sem1 D} (h1 : PE X (.BoolOp o vs pos) (tE M W r)) (h2 : PW X (.BoolOp o vs pos) (tT M W r)) : SX X M W (.BoolOp o vs pos) r := ⟨h1, h2.pt, fun _ _ _ _ => h2⟩
theorem sx_and2 (ha : SX X M W a ra) (hb : SX X M W b rb) : SX X M W (.BoolOp .And [a, b] pos) (fun env s => (ra env s).bind fun x s1 => fAnd rb x env s1) := .bool (and_pe ha (pe_one hb.pe)) (and_pw ha (pw_and1 hb.pt))
theorem sx_and3 {rest : List Expr} (ha : SX X M W a ra) (hb : SX X M W (.BoolOp .And (b :: c :: rest) pos) rb) : SX X M W (.BoolOp .And (a :: b :: c :: rest) pos) (fun env s => (ra env s).bind fun x s1 => fAnd rb x env s1) :=
  .bool (and_pe ha hb.pe) (and_pw ha (hb.pw _ _ _ rfl))
theorem sx_or2 (ha : SX X M W a ra) (hb : SX X M W b rb) : SX X M W (.BoolOp .Or [a, b] pos) (fun env s => (ra env s).bind fun x s1 => fOr rb x env s1) := .bool (or_pe ha (pe_one hb.pe)) (or_pw ha (pw_or1 hb.pt))
theorem sx_or3 {rest : List Expr} (ha : SX X M W a ra) (hb : SX X M W (.BoolOp .Or (b :: c :: rest) pos) rb) : SX X M W (.BoolOp .Or (a :: b :: c :: rest) pos) (fun env s => (ra env s).bind fun x s1 => fOr rb x env s1) :=
  .bool (or_pe ha hb.pe) (or_pw ha (hb.pw _ _ _ rfl))
theorem pt_ife {t : Expr} {tt ta tb : TT} (ht : PT X t tt) (ha : PT X a ta) (hb : PT X b tb) : PT X (.IfExp t a b pos) (fun σ H Q => tt σ H fun k H1 => if k = true then ta σ H1 Q else tb σ H1 Q) := by
  refine ⟨fun pins s σ H Q I h => isTrue_IfExp (thn (ht.run pins s σ H _ I h) fun k s1 ⟨H1, I1, q1⟩ => ?_)⟩
  cases k with
  | true => exact ha.run pins s1 σ H1 Q I1 q1
  | false => exact hb.run pins s1 σ H1 Q I1 q1
theorem sx_ife {t : Expr} {rt : Sem1 D} (ht : SX X M W t rt) (ha : SX X M W a ra) (hb : SX X M W b rb) : SX X M W (.IfExp t a b pos) (fun env s => (rt env s).bind fun x s1 => fIf ra rb x env s1) :=
  ⟨peImp (pe_ifExp ht.pt ha.pe hb.pe) fun σ H Q h => tT_of_bl fIf_bad h fun env k s1 H1 β1 re1 rs1 q => by
    cases k with
    | true => exact iteT ⟨env, s1, β1, re1, rs1, q⟩
    | false => exact iteF ⟨env, s1, β1, re1, rs1, q⟩,
  ptImp (pt_ife ht.pt ha.pt hb.pt) fun σ H Q h => tT_then fIf_bad h fun env k s1 H1 β1 re1 rs1 hb q => by
    cases k with
    | true => exact iteT ⟨env, s1, β1, re1, rs1, hb, q⟩
    | false => exact iteF ⟨env, s1, β1, re1, rs1, hb, q⟩, fun _ _ _ z => nomatch z⟩

/-! ### lists of expressions, displays -/
variable {es : List Expr} {rs : Sem1 (List D)}
def isStar : Expr → Bool
  | .Starred _ _ => true
  | _ => false
theorem star_cons {env : PySem.Env} {e : Expr} (h : isStar e = false) : starEach (e :: es) env = (false, eval e env) :: starEach es env := by
  cases e <;> first | rfl | cases h
theorem star_any {env : PySem.Env} : ∀ {es : List Expr}, (es.all fun e => !isStar e) = true → (backTo pos (starEach es env)).any (·.1) = false
  | [], _ => rfl
  | e :: es, h => by
    rw [List.all_cons, Bool.and_eq_true] at h
    rw [star_cons (by simpa using h.1)]
    show (false || (backTo pos (starEach es env)).any (·.1)) = false
    rw [star_any h.2]
    rfl
theorem sl_nil : PA X [] (tL M W fun _ s => .ok [] s) := paImp pa_nil fun σ H Q ⟨env, s, β, re, rs, q⟩ => q H β [] rs (.refl _ _ _) trivial
theorem sl_cons (hs : isStar a = false) (ha : SX X M W a ra) (hr : PA X es (tL M W rs)) : PA X (a :: es) (tL M W fun env s => (ra env s).bind fun x s1 => (rs env s1).bind fun xs s2 => .ok (x :: xs) s2) := by
  refine paImp (pa_cons ha.pe hr (star_cons hs)) fun σ H Q ⟨env, s, β, re, rS, q⟩ => ?_
  refine ⟨env, s, β, re, rS, q.step fun x s1 H1 β1 v _ rs1 k1 rd1 q1 => ?_⟩
  refine ⟨env, s1, β1, re.mono rS k1, rs1, q1.step fun xs s2 H2 β2 vs _ rs2 k2 rd2 q2 => ?_⟩
  exact q2 H2 β2 _ rs2 (.refl _ _ _) ⟨RD.mono rs1 k2 x rd1, rd2⟩
theorem tL_then {σ : L2.St} {H : Hp} {Q : VK} {Q' : List V → Hp → Prop} {f : List D → Sto → Res D} (h : tE M W (fun env s => (rs env s).bind fun xs s1 => f xs s1) σ H Q)
    (n : ∀ env xs s1 H1 β1 vs, RE M H1 β1 s1 env σ → RS M H1 β1 s1 → RDs M H1 β1 s1 xs vs → Po M (RD M) H1 β1 s1 (f xs s1) Q (fun c H' => W c none σ H') → Q' vs H1) : tL M W rs σ H Q' := by
  obtain ⟨env, s, β, re, rS, q⟩ := h
  exact ⟨env, s, β, re, rS, q.step fun d s1 H1 β1 v _ rs1 k rd q1 => n env d s1 H1 β1 v (re.mono rS k) rs1 rd q1⟩
theorem sx_tup {k : Nat} (h : PA X es (tL M W rs)) : SX X M W (.Tuple es k pos) (fun env s => (rs env s).bind fun xs s1 => guardD (lineOk xs.length) (.tup xs) s1) := by
  refine SX.plain (peImp (pe_tup h) fun σ H Q h => tL_then h fun env xs s1 H1 β1 vs re1 rs1 rd q => ?_) (fun _ _ _ z => nomatch z) (fun _ => rfl)
  obtain ⟨h1, h2⟩ := q.guard
  exact ⟨by rw [← rd.length]; exact of_decide_eq_true h1, h2.newTup rs1 rd⟩
theorem sx_lst (m : Bool) (h : PA X es (tL M W rs)) : SX X M W (.List es pos) (fun env s => (rs env s).bind fun xs s1 => if lineOk xs.length then (if m then .ok (.lst s1.length) (s1 ++ [.lst xs]) else .ok (.rol xs) s1) else .bad) := by
  refine SX.plain (peImp (pe_lst h) fun σ H Q h => tL_then h fun env xs s1 H1 β1 vs re1 rs1 rd q => ?_) (fun _ _ _ z => nomatch z) (fun _ => rfl)
  by_cases hl : lineOk xs.length = true
  · rw [if_pos hl] at q
    refine ⟨by rw [← rd.length]; exact of_decide_eq_true hl, ?_⟩
    cases m with
    | true => exact q.newCell rs1 rd
    | false => exact q.newLst rs1 rd
  · rw [if_neg hl] at q
    exact q.elim

/-! ### subscripts -/
def isSlice : Expr → Bool
  | .Slice _ _ _ _ => true
  | _ => false
theorem plainIx_of (h : isSlice b = false) : PlainIx b := fun o i => by cases b <;> first | rfl | cases h
theorem sx_ix (hK : M.K = X.K) (hs : isSlice b = false) (ha : SX X M W a ra) (hb : SX X M W b rb) : SX X M W (.Subscript a b pos) (fun env s => (ra env s).bind fun x s1 => (rb env s1).bind fun y s2 => ixD s2 x y) :=
  SX.plain (peImp (pe_ix (ix_den hK) ha.pe hb.pe (plainIx_of hs)) fun σ H Q h => tE_two h (fun _ _ _ q => q) fun _ _ _ => ix_nx) (fun _ _ _ z => nomatch z) (fun _ => rfl)
theorem so_none : PO X none (tOp' M W fun _ s => .ok none s) := poImp po_none fun σ H Q ⟨env, s, β, re, rs, q⟩ => q H β _ rs (.refl _ _ _) rfl
theorem so_some (ha : SX X M W a ra) : PO X (some a) (tOp' M W fun env s => match ra env s with
    | .ok (.int i) s1 => .ok (some i) s1
    | .exc c fs s1 => .exc c fs s1
    | _ => .bad) := by
  refine poImp (po_some ha.pe) fun σ H Q ⟨env, s, β, re, rs, q⟩ => ⟨env, s, β, re, rs, ?_⟩
  revert q
  dsimp only
  cases ra env s with
  | ok d s1 =>
    cases d with
    | int i => exact fun q H' β' v R k rv => ⟨i, rv, q H' β' _ R k rfl⟩
    | _ => exact fun q => q.elim
  | exc c fs s1 => exact fun q => q
  | bad => exact fun q => q.elim
theorem sx_sl {lo hi : Option Expr} {rl rh : Sem1 (Option Int)} (hK : M.K = X.K) (ha : SX X M W a ra) (hl : PO X lo (tOp' M W rl)) (hh : PO X hi (tOp' M W rh)) :
    SX X M W (.Subscript a (.Slice lo hi none p1) pos) (fun env s => (ra env s).bind fun x s1 => (rl env s1).bind fun l s2 => (rh env s2).bind fun u s3 => slD s3 x l u) := by
  refine SX.plain (peImp (pe_slice (sl_den hK) ha.pe hl hh) fun σ H Q h => ?_) (fun _ _ _ z => nomatch z) (fun _ => rfl)
  refine tE_then (f := fun x env s1 => (rl env s1).bind fun l s2 => (rh env s2).bind fun u s3 => slD s3 x l u) h fun env x s1 H1 β1 v re1 rs1 rd q1 => ?_
  refine ⟨env, s1, β1, re1, rs1, q1.step fun l s2 H2 β2 l' _ rs2 k2 e2 q2 => ?_⟩
  cases e2
  refine ⟨env, s2, β2, re1.mono rs1 k2, rs2, q2.step fun u s3 H3 β3 u' _ rs3 k3 e3 q3 => ?_⟩
  cases e3
  exact ⟨x, s3, β3, rs3, RD.mono rs2 k3 x (RD.mono rs1 k2 x rd), q3.nox sl_nx⟩
/-- a list given up by the store -/
theorem sx_frz (ha : SX X M W a ra) (h : ∀ o vs p, a ≠ .BoolOp o vs p) (he : ∀ whole, isTrue a X.env whole = (do let v ← whole; standAt a.pos; holding [v] (truthy v))) : SX X M W a (fun env s => (ra env s).bind frzD) := by
  refine SX.plain (peImp ha.pe fun σ H Q hq => ?_) h he
  refine tE_then (f := fun x _ s1 => frzD x s1) hq fun env x s1 H1 β1 v re1 rs1 rd q1 => ?_
  cases x <;> first | exact q1.elim | skip
  · exact q1.ok rs1 (.refl _ _ _) rd
  · rename_i i
    simp only [frzD] at q1
    split at q1
    · rename_i xs e
      exact q1.ok (rs1.drop i) .drop (rd.frz rs1 e)
    · exact q1.elim
end
end Dn

end
section
set_option Elab.async false
set_option maxRecDepth 100000
set_option maxHeartbeats 4000000
set_option linter.unusedVariables false
/-! Dn3r: a tuple taken backwards, as an expression. -/
namespace Dn
open PySem PySem.Spec PyProof.Rows L2 LamX HT
section
variable {X : Cx} {e : Expr} {te : TE} {st : Expr} {tk : TO} {pos p2 : Pos}
theorem Vals.reverse' {xs : List V} : ∀ {us : List Value}, Vals xs us → Vals xs.reverse us.reverse := by
  induction xs with
  | nil => intro us r; cases r; exact .nil
  | cons x xs ih =>
    intro us r
    cases r with
    | cons r1 r2 =>
      rw [List.reverse_cons, List.reverse_cons]
      exact (ih r2).append (.cons r1 .nil)
theorem pe_rev (he : PE X e te) (hk : PO X (some st) tk) : PE X (.Subscript e (.Slice none none (some st) p2) pos) (fun σ H Q => te σ H fun x H1 => tk σ H1 fun k H2 => ∃ a xs, x = .ref a ∧ k = some (-1) ∧ SqT X.K H2 a xs ∧ ∀ p, H2 p = none → Q (.ref p) (upd H2 p (.tup xs.reverse))) := by
  refine ⟨fun pins s σ H Q I h => ?_⟩
  refine Subscript_ (thn (he.run pins s σ H _ I h) fun v s1 ⟨x, H1, I1, r1, q1⟩ => ?_)
  refine wpAny_Slice ?_
  rw [evalPart_none]
  refine wpAny_pure ?_
  refine wpAny_pure ?_
  refine thn (hk.run pins s1 σ H1 _ I1 q1) fun vk s3 ⟨k, H3, I3, pk, a, xs, ex, ek, hx, q3⟩ => ?_
  subst ex ek
  cases r1
  have I4 : Inv X pins σ H3 { s3 with heap := s3.heap.push { cls := .type "slice", data := .fields #[.none, .none, vk] } } := I3.kept (t' := s3.toks) fun b ob q => Heap.get?_push_of_some _ q
  obtain ⟨its, r, ht, hz⟩ := I4.tuple hx
  have hlen : its.toArray.size = xs.length := by rw [List.size_toArray]; exact r.length.symm
  have hT : typeLookup (.type "tuple") "__getitem__" = _ := PyProof.Rows.slot_tuple_getitem.lookup
  show wpAny (model X.prog X.w) X.A (subscriptTail e (.Slice none none (some st) p2) (.ref a) (.ref s3.heap.objs.size)) (EP X pins σ Q) X.xe { s3 with heap := s3.heap.push { cls := .type "slice", data := .fields #[.none, .none, vk] } }
  refine tail_any (ops := [.ref a, .ref s3.heap.objs.size]) ht.typeIs hT ?_ (by with_unfolding_all rfl)
  refine getItem_tuple_rev ht (Heap.IsSliceOf.new ..) pk ?_ (by rw [hlen]; exact hz)
  refine ⟨.ref _, _, I4.laid (t' := s3.toks) (o := .tup xs.reverse) (fun b ob q => Heap.get?_push_of_some _ q) (Nat.le_refl _) ?_, rfl, q3 _ (I4.hok.fresh (Nat.le_refl _))⟩
  exact ⟨by rw [List.length_reverse]; exact hz, _, by simpa using Vals.reverse' r, IsTup.new _ _⟩
end
theorem RDs.reverse {M : Kit} {H : Hp} {β : List Addr} {s : Sto} : ∀ {ds : List D} {vs : List V}, RDs M H β s ds vs → RDs M H β s ds.reverse vs.reverse
  | [], [], _ => trivial
  | [], _ :: _, h => h.elim
  | _ :: _, [], h => h.elim
  | d :: ds, v :: vs, h => by
    rw [List.reverse_cons, List.reverse_cons]
    exact (RDs.reverse h.2).append (RDs.one h.1)
theorem rev_nx {x y : D} {s : Sto} : NoX (revD x y s) := by
  unfold revD
  split <;> trivial
theorem rev_inv {x y : D} {s : Sto} {M : Kit} {H : Hp} {β : List Addr} {Q : VK} {Wx : Value → Hp → Prop} (h : Po M (RD M) H β s (revD x y s) Q Wx) : ∃ xs, x = .tup xs ∧ y = .int (-1) ∧ Po M (RD M) H β s (.ok (.tup xs.reverse) s) Q Wx := by
  unfold revD at h
  split at h
  · exact ⟨_, rfl, rfl, h⟩
  · exact h.elim
section
variable {X : Cx} {M : Kit} {W : WX} {pos p1 : Pos} {a k : Expr} {ra rk : Sem1 D}
theorem sx_rev (hK : M.K = X.K) (ha : SX X M W a ra) (hk : SX X M W k rk) :
    SX X M W (.Subscript a (.Slice none none (some k) p1) pos) (fun env s => (ra env s).bind fun x s1 => (rk env s1).bind fun y s2 => revD x y s2) := by
  refine SX.plain (peImp (pe_rev ha.pe (po_some hk.pe)) fun σ H Q h => ?_) (fun _ _ _ z => nomatch z) (fun _ => rfl)
  refine tE_two (r2 := fun v u H2 Q => ∃ i, u = .int i ∧ ∃ a xs, v = .ref a ∧ some i = some (-1) ∧ SqT X.K H2 a xs ∧ ∀ p, H2 p = none → Q (.ref p) (upd H2 p (.tup xs.reverse))) h (fun v u H2 q => ?_) fun _ _ _ => rev_nx
  obtain ⟨x, y, s, β, R, hx, hy, q⟩ := q
  obtain ⟨xs, rfl, rfl, q⟩ := rev_inv q
  obtain ⟨a, vs, rfl, sq, r⟩ := hx
  cases hy
  exact ⟨-1, rfl, a, vs, rfl, rfl, hK ▸ sq, Po.newTup R r.reverse q⟩
end
end Dn

end
section
set_option Elab.async false
set_option maxRecDepth 100000
set_option maxHeartbeats 4000000
set_option linter.unusedVariables false
/-! Dn4: calls of defs, of built-in functions, of methods. -/
namespace Dn
open PySem PySem.Spec PyProof.Rows L2 LamX

/-- what a def promises: the meaning's answer -/
def spD (M : Kit) (F : Nat) (G : List Fn) (n i : Nat) : Sp := fun vs H Q E => ∃ Z args s β, RS (M.at Z) H β s ∧ RDs (M.at Z) H β s args vs ∧ Po (M.at Z) (RD (M.at Z)) H β s (callD F G n i args s) Q fun cv H' => E cv none H'
def bltNames : List Str := ["len", "abs", "int", "list", "tuple", "any", "all", "isinstance", "range", "enumerate", "zip", "bool", "str"]
/-- what the module's names hold, at so many calls -/
structure Tp (X : Cx) (M : Kit) (F : Nat) (G : List Fn) (U : List Nat) (n : Nat) : Prop where
  kit : M.K = X.K
  blt : ∀ x ∈ bltNames, X.mg x = none
  fns : ∀ (i : Nat) (fn : Fn), i ∈ U → G[i]? = some fn → ∃ f fd ps, X.mg fn.name = some (.ref f) ∧ PySem.W.keepIn X.K (.ref f) = true ∧ Binds X.K fd ps [] ∧
    ∀ m, m ≤ n → FnOk X.prog X.w X.K X.mg X.base (L2N.CX X.prog X.w) m f fd ps (spD (M.at []) F G m i)

section
variable {X : Cx} {M : Kit} {W : WX} {F n : Nat} {G : List Fn} {U : List Nat} {pos p1 p2 p3 : Pos} {a b : Expr} {es : List Expr} {ra rb : Sem1 D} {rs : Sem1 (List D)}
theorem sx_call (T : Tp X M F G U n) (hr : Room n X.A) (tk : L2N.Takes X W) {i : Nat} {fn : Fn} (hU : i ∈ U) (hG : G[i]? = some fn) (hg : Gl X fn.name) (hdb : (fn.name == ("__debug__" : Str)) = false)
    (hs : ((a :: es).all fun e => !isStar e) = true) (h : PA X (a :: es) (tL M W rs)) : SX X M W (.Call (.Name fn.name p1) (a :: es) [] pos) (fun env s => (rs env s).bind fun xs s1 => callD F G n i xs s1) := by
  obtain ⟨f, fd, ps, hm, hk, hb, hF⟩ := T.fns i fn hU hG
  have h1 : isStar a = false := by
    rw [List.all_cons, Bool.and_eq_true] at hs
    simpa using hs.1
  have h2 : (es.all fun e => !isStar e) = true := by
    rw [List.all_cons, Bool.and_eq_true] at hs
    exact hs.2
  refine SX.plain (peImp (pe_callS (hF n (Nat.le_refl _)) hr hg hm hk hb (fun σ => L2N.passAt tk σ) h hdb (star_cons h1) (star_any h2)) fun σ H Q hq => ?_) (fun _ _ _ z => nomatch z) (fun _ => rfl)
  exact tL_then hq fun env xs s1 H1 β1 vs re1 rs1 rd q => ⟨M.Z, xs, s1, β1, rs1, rd, q⟩

/-! ### built-in functions -/
def Pr.nm : Pr → Str
  | .len => "len" | .abs => "abs" | .int => "int" | .list => "list" | .listm => "list" | .tuple => "tuple" | .any => "any" | .all => "all" | .isi _ => "isinstance"
theorem sx_prim (T : Tp X M F G U n) (hc : X.calm = true) (p : Pr) (hp : ∀ ts, p ≠ .isi ts) (hg : Gl X p.nm) (hs : isStar a = false) (h : PA X [a] (tL M W rs)) :
    SX X M W (.Call (.Name p.nm p1) [a] [] pos) (fun env s => (rs env s).bind fun xs s1 => primD p xs s1) := by
  have st : ∀ env : PySem.Env, starEach [a] env = (false, eval a env) :: starEach [] env := fun env => star_cons hs
  have fin : ∀ {σ : L2.St} {H : Hp} {Q : VK}, tE M W (fun env s => (rs env s).bind fun xs s1 => primD p xs s1) σ H Q → tL M W rs σ H fun vs H1 => rM1 M (primD p) vs H1 Q := fun {σ H Q} hq =>
    tL_then hq fun env xs s1 H1 β1 vs re1 rs1 rd q => ⟨xs, s1, β1, rs1, rd, q.nox prim_nx⟩
  have hm : X.mg p.nm = none := T.blt _ (by cases p <;> first | decide +kernel | exact absurd rfl (hp _))
  refine SX.plain ?_ (fun _ _ _ z => nomatch z) (fun _ => rfl)
  cases p with
  | len => exact peImp (pe_callB (call_lenD T.kit) hg hm PySem.boot_len h (he := st _)) fun σ H Q hq => fin hq
  | abs => exact peImp (pe_callB call_absD hg hm (by decide +kernel) h (he := st _)) fun σ H Q hq => fin hq
  | int => exact peImp (pe_callTy call_intD hg hm (by decide +kernel) h (he := st _)) fun σ H Q hq => fin hq
  | list => exact peImp (pe_callTy (call_listD T.kit false) hg hm (by decide +kernel) h (he := st _)) fun σ H Q hq => fin hq
  | listm => exact peImp (pe_callTy (call_listD T.kit true) hg hm (by decide +kernel) h (he := st _)) fun σ H Q hq => fin hq
  | tuple => exact peImp (pe_callTy (call_tupleD T.kit) hg hm (by decide +kernel) h (he := st _)) fun σ H Q hq => fin hq
  | any => exact peImp (pe_callB (call_anyD T.kit hc) hg hm (by decide +kernel) h (he := st _)) fun σ H Q hq => fin hq
  | all => exact peImp (pe_callB (call_allD T.kit hc) hg hm (by decide +kernel) h (he := st _)) fun σ H Q hq => fin hq
  | isi ts => exact absurd rfl (hp ts)
def Ty.sn : Ty → Str
  | .int => "int" | .bool => "bool" | .tuple => "tuple" | .list => "list" | .str => "str"
theorem ty_boot (t : Ty) : bootBuiltins t.sn = some (.type t.nm) := by cases t <;> decide +kernel
theorem pe_ty (T : Tp X M F G U n) (t : Ty) (hg : Gl X t.sn) : PE X (.Name t.sn p2) (tC (.ty t.nm)) :=
  pe_bltn hg (T.blt _ (by cases t <;> decide +kernel)) (ty_boot t) rfl (by cases t <;> decide +kernel) (by cases t <;> decide +kernel)
theorem one_read {σ : L2.St} {H : Hp} {Q : VK} {f : List D → Sto → Res D} (h : tE M W (fun env s => (ra env s).bind fun x s1 => f [x] s1) σ H Q) (nx : ∀ xs s, NoX (f xs s)) {Q' : VK}
    (n : ∀ v H1, rM1 M f [v] H1 Q → Q' v H1) : tE M W ra σ H Q' :=
  tE_then (f := fun x _ s1 => f [x] s1) h fun env x s1 H1 β1 v re1 rs1 rd q => n v H1 ⟨[x], s1, β1, rs1, RDs.one rd, q.nox (nx _ _)⟩
theorem sx_isi (T : Tp X M F G U n) (t : Ty) (hgi : Gl X ("isinstance" : Str)) (hg : Gl X t.sn) (hs : isStar a = false) (ha : SX X M W a ra) :
    SX X M W (.Call (.Name "isinstance" p1) [a, .Name t.sn p2] [] pos) (fun env s => (ra env s).bind fun x s1 => primD (.isi [t]) [x] s1) := by
  have st : starEach [a, .Name t.sn p2] X.env = (false, eval a X.env) :: starEach [.Name t.sn p2] X.env := star_cons hs
  refine SX.plain (peImp (pe_callB (call_isiD T.kit t) hgi (T.blt _ (by decide +kernel)) (by decide +kernel) (pa_cons ha.pe (pa_cons (pe_ty T t hg) pa_nil) st) (he := st)) fun σ H Q hq => ?_) (fun _ _ _ z => nomatch z) (fun _ => rfl)
  exact one_read hq (fun _ _ => prim_nx) fun v H1 q => ⟨v, rfl, q⟩
/-- the names of classes in a tuple -/
def tyExprs : List Ty → List Pos → List Expr
  | t :: ts, p :: ps => .Name t.sn p :: tyExprs ts ps
  | _, _ => []
theorem pa_tys (T : Tp X M F G U n) : ∀ (ts : List Ty) (ps : List Pos), ts.length = ps.length → (∀ t ∈ ts, Gl X t.sn) → PA X (tyExprs ts ps) (fun _ H Q => Q (ts.map fun t => V.ty t.nm) H)
  | [], [], _, _ => pa_nil
  | t :: ts, p :: ps, hl, hg => pa_cons (pe_ty T t (hg t (List.mem_cons_self))) (pa_tys T ts ps (by simpa using hl) fun u hu => hg u (List.mem_cons_of_mem _ hu))
  | [], _ :: _, hl, _ => by simp at hl
  | _ :: _, [], hl, _ => by simp at hl
theorem sx_isiT (T : Tp X M F G U n) (t : Ty) (ts : List Ty) (ps : List Pos) {k : Nat} (hl : (t :: ts).length = ps.length) (hlen : lineOk (t :: ts).length = true) (hgi : Gl X ("isinstance" : Str)) (hg : ∀ u ∈ t :: ts, Gl X u.sn) (hs : isStar a = false) (ha : SX X M W a ra) :
    SX X M W (.Call (.Name "isinstance" p1) [a, .Tuple (tyExprs (t :: ts) ps) k p2] [] pos) (fun env s => (ra env s).bind fun x s1 => primD (.isi (t :: ts)) [x] s1) := by
  have st : starEach [a, .Tuple (tyExprs (t :: ts) ps) k p2] X.env = (false, eval a X.env) :: starEach [.Tuple (tyExprs (t :: ts) ps) k p2] X.env := star_cons hs
  refine SX.plain (peImp (pe_callB (call_isiDT T.kit t ts) hgi (T.blt _ (by decide +kernel)) (by decide +kernel) (pa_cons ha.pe (pa_cons (pe_tup (pa_tys T _ ps hl hg)) pa_nil) st) (he := st)) fun σ H Q hq => ?_) (fun _ _ _ z => nomatch z) (fun _ => rfl)
  refine one_read hq (fun _ _ => prim_nx) fun v H1 q => ⟨by rw [List.length_map]; exact of_decide_eq_true hlen, fun p hp => ?_⟩
  refine ⟨v, p, rfl, upd_same, ?_⟩
  obtain ⟨xs, s1, β1, rs1, rd, q⟩ := q
  exact ⟨xs, s1, β1, rs1.alloc hp, RDs.mono rs1 (.alloc hp) xs rd, Po.later (.alloc hp) q⟩

/-! ### methods -/
def isNm : Expr → Bool
  | .Name _ _ => true
  | .Constant _ _ _ => true
  | _ => false
theorem base_of (h : isNm a = true) (m : Str) (w : Sem Value) (env : PySem.Env) : attributeBase a m env w = w := by
  cases a <;> first | rfl | cases h
theorem ifRes {α : Type} {c : Bool} {x : Res α} {M : Kit} {ω : Type} {R : Hp → List Addr → Sto → α → ω → Prop} {H : Hp} {β : List Addr} {s : Sto} {Q : ω → Hp → Prop} {Wx : Value → Hp → Prop} (h : Po M R H β s (if c = true then x else .bad) Q Wx) : c = true ∧ Po M R H β s x Q Wx := by
  cases c with
  | true => exact ⟨rfl, h⟩
  | false => exact (show False from h).elim
theorem sx_app (T : Tp X M F G U n) (hn : isNm a = true) (hline : (p2.endLine == pos.line) = true) (hs : isStar b = false) (ha : SX X M W a ra) (hb : SX X M W b rb) :
    SX X M W (.Call (.Attribute a "append" p2) [b] [] pos) (fun env s => (ra env s).bind fun x s1 => if (listOf s1 x).isSome then (rb env s1).bind fun y s2 => appD x y s2 else .bad) := by
  have st : starEach [b] X.env = (false, eval b X.env) :: starEach [] X.env := star_cons hs
  refine SX.plain (peImp (pe_bm PySem.F.plainAttrs_list PySem.F.slot_list_append PySem.F.type_list_append (mt_appD (M := M)) ha.pe (pa_cons hb.pe pa_nil st) (hbase := base_of hn _ _ _) (hfew := by rw [st]; rfl) (hline := hline) (hs := st)) fun σ H Q hq => ?_) (fun _ _ _ z => nomatch z) (fun _ => rfl)
  refine tE_then (f := fun x env s1 => if (listOf s1 x).isSome then (rb env s1).bind fun y s2 => appD x y s2 else .bad) hq fun env x s1 H1 β1 v re1 rs1 rd q => ?_
  obtain ⟨hl, q⟩ := ifRes q
  obtain ⟨xs, e⟩ := Option.isSome_iff_exists.mp hl
  obtain ⟨p, vs, rfl, hq', _⟩ := rd.listOf rs1 e
  refine ⟨.inl ⟨rfl, vs, T.kit ▸ hq'⟩, env, s1, β1, re1, rs1, q.step fun y s2 H2 β2 u _ rs2 k2 rd2 q2 => ?_⟩
  exact ⟨u, rfl, x, y, s2, β2, rs2, RD.mono rs1 k2 x rd, rd2, q2.nox app_nx⟩
theorem sx_ins {c : Expr} {rc : Sem1 D} (T : Tp X M F G U n) (hn : isNm a = true) (hline : (p2.endLine == pos.line) = true) (hs : isStar b = false) (hs2 : isStar c = false) (ha : SX X M W a ra) (hb : SX X M W b rb) (hc : SX X M W c rc) :
    SX X M W (.Call (.Attribute a "insert" p2) [b, c] [] pos) (fun env s => (ra env s).bind fun x s1 => if (listOf s1 x).isSome then (rb env s1).bind fun k s2 => (rc env s2).bind fun y s3 => insD x k y s3 else .bad) := by
  have st2 : starEach [c] X.env = (false, eval c X.env) :: starEach [] X.env := star_cons hs2
  have st : starEach [b, c] X.env = (false, eval b X.env) :: starEach [c] X.env := star_cons hs
  refine SX.plain (peImp (pe_bm PySem.F.plainAttrs_list PySem.F.slot_list_insert PySem.F.type_list_insert (mt_insD (M := M)) ha.pe (pa_cons hb.pe (pa_cons hc.pe pa_nil st2) st) (hbase := base_of hn _ _ _) (hfew := by rw [st, st2]; rfl) (hline := hline) (hs := st) (hplain := by rw [st2]; rfl)) fun σ H Q hq => ?_) (fun _ _ _ z => nomatch z) (fun _ => rfl)
  refine tE_then (f := fun x env s1 => if (listOf s1 x).isSome then (rb env s1).bind fun k s2 => (rc env s2).bind fun y s3 => insD x k y s3 else .bad) hq fun env x s1 H1 β1 v re1 rs1 rd q => ?_
  obtain ⟨hl, q⟩ := ifRes q
  obtain ⟨xs, e⟩ := Option.isSome_iff_exists.mp hl
  obtain ⟨p, vs, rfl, hq', _⟩ := rd.listOf rs1 e
  refine ⟨.inl ⟨rfl, vs, T.kit ▸ hq'⟩, env, s1, β1, re1, rs1, q.step fun k s2 H2 β2 u _ rs2 k2 rd2 q2 => ?_⟩
  refine ⟨env, s2, β2, re1.mono rs1 k2, rs2, q2.step fun y s3 H3 β3 u' _ rs3 k3 rd3 q3 => ?_⟩
  exact ⟨u, u', rfl, x, k, y, s3, β3, rs3, RD.mono rs2 k3 x (RD.mono rs1 k2 x rd), RD.mono rs2 k3 k rd2, rd3, q3.nox ins_nx⟩
theorem sx_bits (hn : isNm a = true) (hline : (p2.endLine == pos.line) = true) (ha : SX X M W a ra) : SX X M W (.Call (.Attribute a "bit_length" p2) [] [] pos) (fun env s => (ra env s).bind bitsD) := by
  refine SX.plain (peImp (pe_bits ha.pe (base_of hn _ _ _) hline) fun σ H Q hq => ?_) (fun _ _ _ z => nomatch z) (fun _ => rfl)
  refine tE_then (f := fun x _ s1 => bitsD x s1) hq fun env x s1 H1 β1 v re1 rs1 rd q => ?_
  cases x <;> first | exact q.elim | skip
  cases rd
  exact ⟨_, rfl, q.ok rs1 (.refl _ _ _) rfl⟩
theorem sx_join (T : Tp X M F G U n) (hn : isNm a = true) (hline : (p2.endLine == pos.line) = true) (hs : isStar b = false) (ha : SX X M W a ra) (hb : SX X M W b rb) :
    SX X M W (.Call (.Attribute a "join" p2) [b] [] pos) (fun env s => (ra env s).bind fun x s1 => if isStrD x then (rb env s1).bind fun y s2 => joinD x y s2 else .bad) := by
  have st : starEach [b] X.env = [(false, eval b X.env)] := star_cons hs
  refine SX.plain (peImp (pe_join ha.pe hb.pe st (base_of hn _ _ _) hline) fun σ H Q hq => ?_) (fun _ _ _ z => nomatch z) (fun _ => rfl)
  refine tE_then (f := fun x env s1 => if isStrD x then (rb env s1).bind fun y s2 => joinD x y s2 else .bad) hq fun env x s1 H1 β1 v re1 rs1 rd q => ?_
  obtain ⟨hl, q⟩ := ifRes q
  cases x with
  | str t =>
    cases rd
    refine ⟨⟨t, rfl⟩, env, s1, β1, re1, rs1, q.step fun y s2 H2 β2 u _ rs2 k2 rd2 q2 => ?_⟩
    simp only [joinD] at q2
    cases e : (listOf s2 y).bind strsOf with
    | none => rw [e] at q2; exact q2.elim
    | some ys =>
      rw [e] at q2
      obtain ⟨xs, e1, e2⟩ := Option.bind_eq_some_iff.mp e
      obtain ⟨p, vs, rfl, hq', r⟩ := rd2.listOf rs2 e1
      obtain ⟨h1, h2⟩ := q2.guard
      rw [r.strs e2] at hq'
      exact ⟨t, p, ys, rfl, rfl, .inl (T.kit ▸ hq'), of_decide_eq_true h1, h2.ok rs2 (.refl _ _ _) rfl⟩
  | _ => cases hl
end
end Dn

end
section
set_option Elab.async false
set_option maxRecDepth 100000
set_option maxHeartbeats 4000000
set_option linter.unusedVariables false
/-! Dn5: targets, what is walked, statements, one form after another. -/
namespace Dn
open PySem PySem.Spec PyProof.Rows L2 LamX

/-- what is wanted behind a statement, by its meaning -/
def PoS (M : Kit) (W : WX) (D : L2.Ends) (H : Hp) (β : List Addr) (s : Sto) : SR → Prop
  | .nx e s' => ∀ H' β' σ', RE M H' β' s' e σ' → RS M H' β' s' → Kp H β s H' β' s' → D.nx σ' H'
  | .bk e s' => ∀ H' β' σ', RE M H' β' s' e σ' → RS M H' β' s' → Kp H β s H' β' s' → D.bk σ' H'
  | .ct e s' => ∀ H' β' σ', RE M H' β' s' e σ' → RS M H' β' s' → Kp H β s H' β' s' → D.ct σ' H'
  | .rt d s' => ∀ H' β' v, RS M H' β' s' → Kp H β s H' β' s' → RD M H' β' s' d v → D.rt v H'
  | .exc c fs e s' => fs = [] ∧ ∀ H' β' σ', RE M H' β' s' e σ' → RS M H' β' s' → Kp H β s H' β' s' → W (M.cv c) none σ' H'
  | .bad => False
abbrev Sem1S := Env → Sto → SR
def tS (M : Kit) (W : WX) (r : Sem1S) : TS := fun D σ H => ∃ env s β, RE M H β s env σ ∧ RS M H β s ∧ PoS M W D H β s (r env s)
theorem psImp {X : Cx} {e : Stmt} {t t' : TS} (h : PS X e t) (i : ∀ D σ H, t' D σ H → t D σ H) : PS X e t' := ⟨fun pins s σ H D I q => h.run pins s σ H D I (i D σ H q)⟩
theorem pssImp {X : Cx} {e : List Stmt} {t t' : TS} (h : PSs X e t) (i : ∀ D σ H, t' D σ H → t D σ H) : PSs X e t' := ⟨fun pins s σ H D I q => h.run pins s σ H D I (i D σ H q)⟩
theorem pgImp {X : Cx} {e : Expr} {t t' : TG} (h : PG X e t) (i : ∀ v σ H Q, t' v σ H Q → t v σ H Q) : PG X e t' := ⟨fun pins s σ H v u Q I r q => h.run pins s σ H v u Q I r (i v σ H Q q)⟩
theorem pgsImp {X : Cx} {e : List Expr} {t t' : TGs} (h : PGs X e t) (i : ∀ v σ H Q, t' v σ H Q → t v σ H Q) : PGs X e t' := ⟨fun pins s σ H v u Q I r q => h.run pins s σ H v u Q I r (i v σ H Q q)⟩
theorem piImp {X : Cx} {tg e : Expr} {t t' : TI} (h : PI X tg e t) (i : ∀ σ H R, t' σ H R → t σ H R) : PI X tg e t' := ⟨fun pins s σ H R I q => h.run pins s σ H R I (i σ H R q)⟩

section
variable {M : Kit} {W : WX} {D : L2.Ends} {H H1 : Hp} {β β1 : List Addr} {s s1 : Sto} {σ : L2.St} {env : Env}
theorem PoS.later {r : SR} (k : Kp H β s H1 β1 s1) (h : PoS M W D H β s r) : PoS M W D H1 β1 s1 r := by
  cases r with
  | nx e s' => exact fun H' β' σ' re rs k' => h H' β' σ' re rs (k.trans k')
  | bk e s' => exact fun H' β' σ' re rs k' => h H' β' σ' re rs (k.trans k')
  | ct e s' => exact fun H' β' σ' re rs k' => h H' β' σ' re rs (k.trans k')
  | rt d s' => exact fun H' β' v rs k' rd => h H' β' v rs (k.trans k') rd
  | exc c fs e s' => exact ⟨h.1, fun H' β' σ' re rs k' => h.2 H' β' σ' re rs (k.trans k')⟩
  | bad => exact h
theorem PoS.then {r : SR} {f : Env → Sto → SR} {Q : L2.St → Hp → Prop} (h : PoS M W D H β s (r.andThen f))
    (n : ∀ e s1 H1 β1 σ1, r = .nx e s1 → RE M H1 β1 s1 e σ1 → RS M H1 β1 s1 → Kp H β s H1 β1 s1 → PoS M W D H1 β1 s1 (f e s1) → Q σ1 H1) : PoS M W { D with nx := Q } H β s r := by
  cases r with
  | nx e s' => exact fun H' β' σ' re rs k' => n e s' H' β' σ' rfl re rs k' (PoS.later k' h)
  | _ => exact h
theorem PoS.toS {r : Res Dn.D} {f : Dn.D → Sto → SR} {Q : VK} (re : RE M H β s env σ) (rs : RS M H β s) (h : PoS M W D H β s (r.toS env f))
    (n : ∀ d s1 H1 β1 v, r = .ok d s1 → RE M H1 β1 s1 env σ → RS M H1 β1 s1 → Kp H β s H1 β1 s1 → RD M H1 β1 s1 d v → PoS M W D H1 β1 s1 (f d s1) → Q v H1) : Po M (RD M) H β s r Q fun c H' => W c none σ H' := by
  cases r with
  | ok d s1 => exact fun H1 β1 v rs1 k rd => n d s1 H1 β1 v rfl (re.mono rs k) rs1 k rd (PoS.later k h)
  | exc c fs s' => exact ⟨h.1, fun H' β' rs' k => h.2 H' β' σ (re.mono rs k) rs' k⟩
  | bad => exact h
theorem tS_E {ra : Sem1 Dn.D} {f : Env → Dn.D → Sto → SR} {Q : VK} (h : tS M W (fun env s => (ra env s).toS env (f env)) D σ H)
    (n : ∀ env d s1 H1 β1 v, RE M H1 β1 s1 env σ → RS M H1 β1 s1 → RD M H1 β1 s1 d v → PoS M W D H1 β1 s1 (f env d s1) → Q v H1) : tE M W ra σ H Q := by
  obtain ⟨env, s, β, re, rs, q⟩ := h
  exact ⟨env, s, β, re, rs, q.toS re rs fun d s1 H1 β1 v _ re1 rs1 _ rd q1 => n env d s1 H1 β1 v re1 rs1 rd q1⟩
/-- one expression, then another -/
theorem PoS.E {ra : Sem1 Dn.D} {f : Dn.D → Sto → SR} {Q : VK} (re : RE M H β s env σ) (rs : RS M H β s) (h : PoS M W D H β s ((ra env s).toS env f))
    (n : ∀ d s1 H1 β1 v, RE M H1 β1 s1 env σ → RS M H1 β1 s1 → Kp H β s H1 β1 s1 → RD M H1 β1 s1 d v → PoS M W D H1 β1 s1 (f d s1) → Q v H1) : tE M W ra σ H Q :=
  ⟨env, s, β, re, rs, h.toS re rs fun d s1 H1 β1 v _ re1 rs1 k rd q1 => n d s1 H1 β1 v re1 rs1 k rd q1⟩
end

/-! ### targets -/
theorem wipe_get {σ : L2.St} {j : Nat} : ∀ {vs : List Nat}, (L2.wipe σ vs)[j]? = if j < σ.length ∧ j ∈ vs then some none else σ[j]?
  | [] => by simp [L2.wipe]
  | v :: vs => by
    simp only [L2.wipe]
    by_cases hj : v = j
    · subst hj
      by_cases hl : v < σ.length
      · rw [List.getElem?_set_self (by rw [wipe_length]; exact hl), if_pos ⟨hl, List.mem_cons_self⟩]
      · rw [List.getElem?_eq_none (by rw [List.length_set, wipe_length]; omega), if_neg (fun z => hl z.1), List.getElem?_eq_none (by omega)]
    · rw [List.getElem?_set_ne hj, wipe_get]
      simp [Ne.symm hj]
theorem wipe_set {σ : L2.St} {i : Nat} {v : Option V} {own : List Nat} (h : i ∈ own) : L2.wipe (σ.set i v) own = L2.wipe σ own := by
  apply List.ext_getElem?
  intro j
  rw [wipe_get, wipe_get, List.length_set]
  by_cases hj : j = i
  · subst hj
    by_cases hl : j < σ.length
    · rw [if_pos ⟨hl, h⟩, if_pos ⟨hl, h⟩]
    · rw [if_neg (fun z => hl z.1), if_neg (fun z => hl z.1), List.getElem?_eq_none (by rw [List.length_set]; omega), List.getElem?_eq_none (by omega)]
  · rw [List.getElem?_set_ne (Ne.symm hj)]
mutual
def tgVs : Tg → List Nat
  | .nm i => [i]
  | .tup ts => tgsVs ts
  | .sub _ _ => []
def tgsVs : Tgs → List Nat
  | .nil => []
  | .cons t ts => tgVs t ++ tgsVs ts
end
/-- a target's meaning; own: slots that it may change -/
def tG (M : Kit) (W : WX) (own : List Nat) (g : D → Env → Sto → SR) : TG := fun v σ H Q => ∃ (d : D) (env : Env) (s : Sto) (β : List Addr) (E : L2.Ends), RE M H β s env σ ∧ RS M H β s ∧ RD M H β s d v ∧
  PoS M W { E with nx := fun σ2 H2 => L2.wipe σ2 own = L2.wipe σ own → Q σ2 H2 } H β s (g d env s)
def tGs (M : Kit) (W : WX) (own : List Nat) (g : List D → Env → Sto → SR) : TGs := fun vs σ H Q => ∃ (ds : List D) (env : Env) (s : Sto) (β : List Addr) (E : L2.Ends), RE M H β s env σ ∧ RS M H β s ∧ RDs M H β s ds vs ∧
  PoS M W { E with nx := fun σ2 H2 => L2.wipe σ2 own = L2.wipe σ own → Q σ2 H2 } H β s (g ds env s)
def isStarT : Expr → Bool
  | .Starred _ _ => true
  | _ => false
section
variable {X : Cx} {M : Kit} {W : WX} {pos : Pos} {own : List Nat}
theorem sg_nm {i : Nat} {x : Str} (hN : X.N.Nodup) (hi : X.N[i]? = some x) (hx : Loc X.env.scope x) (hf : X.fn x = true ∨ X.env.scope.names.lookup x = some .local) (ho : i ∈ own) :
    PG X (.Name x pos) (tG M W own fun d env s => if i < env.length then .nx (env.set i (some d)) s else .bad) := by
  refine pgImp (pg_name hN hi hx hf) fun v σ H Q ⟨d, env, s, β, E, re, rs, rd, q⟩ => ?_
  dsimp only at q
  by_cases hl : i < env.length
  · rw [if_pos hl] at q
    exact q H β _ (re.set rd) rs (.refl _ _ _) (wipe_set ho)
  · rw [if_neg hl] at q
    exact q.elim
theorem sg_sub {o i : Expr} {ro ri : Sem1 D} (ho : SX X M W o ro) (hi : SX X M W i ri) (hs : isSlice i = false) :
    PG X (.Subscript o i pos) (tG M W own fun d env s => (ro env s).toS env fun x s1 => (ri env s1).toS env fun y s2 => match setIx x y d s2 with
      | some s3 => .nx env s3
      | none => .bad) := by
  refine pgImp (pg_sub ho.pe hi.pe (set_den (M := M)) (fun v => by cases i <;> first | rfl | cases hs)) fun v σ H Q ⟨d, env, s, β, E, re, rs, rd, q⟩ => ?_
  refine q.E re rs fun x s1 H1 β1 u re1 rs1 k1 rd1 q1 => ?_
  refine q1.E re1 rs1 fun y s2 H2 β2 w re2 rs2 k2 rd2 q2 => ?_
  cases e : setIx x y d s2 with
  | none => rw [e] at q2; exact q2.elim
  | some s3 =>
    rw [e] at q2
    exact ⟨x, y, d, s2, β2, s3, rs2, RD.mono rs1 k2 x rd1, rd2, RD.mono rs1 k2 d (RD.mono rs k1 d rd), e, fun H' β' R k => q2 H' β' σ (re2.mono rs2 k) R k rfl⟩
theorem sgs_nil : PGs X [] (tGs M W own fun xs env s => match xs with
    | [] => .nx env s
    | _ => .bad) := by
  refine pgsImp pgs_nil fun vs σ H Q ⟨ds, env, s, β, E, re, rs, rd, q⟩ => ?_
  cases ds with
  | nil =>
    cases vs with
    | nil => exact ⟨rfl, q H β σ re rs (.refl _ _ _) rfl⟩
    | cons _ _ => exact rd.elim
  | cons _ _ => exact q.elim
theorem sgs_cons {e : Expr} {es : List Expr} {g : D → Env → Sto → SR} {gs : List D → Env → Sto → SR} (hs : isStarT e = false) (h1 : PG X e (tG M W own g)) (h2 : PGs X es (tGs M W own gs)) :
    PGs X (e :: es) (tGs M W own fun xs env s => match xs with
      | d :: r => (g d env s).andThen fun e1 s1 => gs r e1 s1
      | [] => .bad) := by
  refine pgsImp (pgs_cons h1 h2 (by cases e <;> first | rfl | cases hs)) fun vs σ H Q ⟨ds, env, s, β, E, re, rs, rd, q⟩ => ?_
  cases ds with
  | nil => exact q.elim
  | cons d r =>
    cases vs with
    | nil => exact rd.elim
    | cons v vr =>
      refine ⟨v, vr, rfl, d, env, s, β, E, re, rs, rd.1, ?_⟩
      have q' : PoS M W { E with nx := fun σ2 H2 => L2.wipe σ2 own = L2.wipe σ own → Q σ2 H2 } H β s ((g d env s).andThen fun e1 s1 => gs r e1 s1) := q
      have z := q'.then (Q := fun σ2 H2 => L2.wipe σ2 own = L2.wipe σ own → tGs M W own gs vr σ2 H2 Q) fun e s1 H1 β1 σ1 _ re1 rs1 k1 q1 hw => ⟨r, e, s1, β1, E, re1, rs1, RDs.mono rs k1 r rd.2, by rw [hw]; exact q1⟩
      exact z
theorem each_len : ∀ (es : List Expr) (env : PySem.Env), (assignEach es env).length = es.length
  | [], _ => rfl
  | e :: es, env => by
    cases e <;> (show (assignEach es env).length + 1 = es.length + 1; rw [each_len es env])
theorem each_star : ∀ {es : List Expr} {env : PySem.Env}, (es.all fun e => !isStarT e) = true → (assignEach es env).findIdx? (·.1) = none
  | [], _, _ => rfl
  | e :: es, env, h => by
    rw [List.all_cons, Bool.and_eq_true] at h
    have ih := each_star (env := env) h.2
    have e1 : assignEach (e :: es) env = (false, assign e env) :: assignEach es env := by
      cases e <;> first | rfl | (have := h.1; cases this)
    rw [e1, List.findIdx?_cons]
    simp [ih]
theorem sg_tup {es : List Expr} {k n : Nat} {gs : List D → Env → Sto → SR} (hK : M.K = X.K) (hc : X.calm = true) (hs : (es.all fun e => !isStarT e) = true) (hn : es.length = n) (h : PGs X es (tGs M W own gs)) :
    PG X (.Tuple es k pos) (tG M W own fun d env s => match d with
      | .tup xs => if xs.length = n then gs xs env s else .bad
      | _ => .bad) := by
  refine pgImp (pg_tup hc h (n := n) ((each_len _ _).trans hn) (each_star hs)) fun v σ H Q ⟨d, env, s, β, E, re, rs, rd, q⟩ => ?_
  cases d <;> first | exact q.elim | skip
  rename_i xs
  obtain ⟨a, vs, rfl, hq, r⟩ := rd
  dsimp only at q
  by_cases hl : xs.length = n
  · rw [if_pos hl] at q
    exact ⟨a, vs, rfl, hK ▸ hq, by rw [← r.length]; exact hl, xs, env, s, β, E, re, rs, r, q⟩
  · rw [if_neg hl] at q
    exact q.elim
end
end Dn

end
section
set_option Elab.async false
set_option maxRecDepth 100000
set_option maxHeartbeats 4000000
set_option linter.unusedVariables false
/-! Dn5e: enumerate over a tuple. -/
namespace Dn
open PySem PySem.Spec PyProof.Rows L2 LamX
/-- the tuple at a, each thing in a new pair behind its place -/
def IteT (K : PySem.W.Frag) (a : Addr) : L2.It where
  go := fun i H => ∃ (xs : List V) (x : V), SqT K H a xs ∧ xs[i]? = some x
  yld := fun i H v H' => ∃ T x, v = .ref T ∧ H T = none ∧ H' = upd H T (.tup [.int (i : Nat), x]) ∧ ∀ xs, SqT K H a xs → xs[i]? = some x
  stop := fun i H => ∃ xs : List V, SqT K H a xs ∧ xs.length ≤ i
/-- the enumerator at e over the iterator at j -/
def EnT (a e j : Addr) (i : Nat) (h : Heap) : Prop := (∃ old, IsEnum h e j ((i : Nat) : Int) old) ∧ h.IsTupleIter j a i ∧ e ≠ j ∧ a ≠ j ∧ e ≠ a
theorem two_of {e j b : Addr} (h : b ∈ [e, j]) : b = e ∨ b = j := by simpa using h
theorem turn_enumT {P : Program} {w : World} {K : PySem.W.Frag} {elts : List Expr} {kk : Nat} {tpos : Pos} (a e j : Addr) : Turn P w K (.Tuple elts kk tpos) (IteT K a) [e, j] e (EnT a e j) := by
  refine ⟨List.mem_cons_self, ?_, ?_, ?_, ?_, ?_⟩
  · rintro i h ⟨⟨old, he⟩, ⟨oj, ej, _, dj⟩, _⟩ b hb
    rcases two_of hb with rfl | rfl
    · exact ⟨_, he, fun v z => nomatch z⟩
    · exact ⟨oj, ej, fun v z => by rw [dj] at z; cases z⟩
  · rintro i h h' ⟨⟨old, he⟩, ⟨oj, ej, rj⟩, ne⟩ kp
    exact ⟨⟨old, kp e (by simp) _ he⟩, ⟨oj, kp j (by simp) _ ej, rj⟩, ne⟩
  · rintro X rfl rfl rfl hc i pins s σ H E I hf ⟨⟨old, he⟩, hj, n1, n2, n3⟩ ⟨xs, x, hq, hx⟩
    obtain ⟨its, rv, pt, _⟩ := I.tuple hq
    obtain ⟨u, hu, ru⟩ := rv.get hx
    have Dr := Draws.tuple (prog := X.prog) (w := X.w) (A := X.A.in1) (I.ok.hd hc) j a n2 its.toArray
    have elt : e < s.heap.objs.size := Heap.lt_size he
    have jlt : j < s.heap.objs.size := by obtain ⟨_, z, _⟩ := hj; exact Heap.lt_size z
    have il : i < its.toArray.size := by
      have := (List.getElem?_eq_some_iff.mp hu).1
      simpa using this
    refine wpAny_pyNext_enum_itemD Dr he ⟨hj, pt⟩ il n1 (by simp [n1, n3]) fun y h1 tk hy hout hst hT hsz hk => ⟨_, rfl, ?_⟩
    have ey : y = u := by
      have z : its[i]? = some y := by simpa using hy
      rw [hu] at z
      exact (Option.some.inj z).symm
    subst ey
    refine wpAny_letOwnedTupleGo_enum (s := { s with heap := h1, toks := tk + 1 }) hout fun h2 he2 sb => ?_
    have hT2 := (sb.2 _ (Nat.ne_of_gt elt)).trans hT
    have new : ObjOk X.prog X.w (upd H s.heap.objs.size (.tup [.int (i : Nat), x])) h2 s.heap.objs.size (.tup [.int (i : Nat), x]) :=
      ⟨(by decide : 2 ≤ sizeLine), [.int i tk, y], .cons ⟨tk, rfl⟩ (.cons ru .nil), _, hT2, rfl, _, rfl⟩
    have J := I.turnedNew (h' := h2) (t' := tk + 1) (ch := [e, j]) (fun b o hb z => by
      have b1 : b ≠ e := fun z => hb (by rw [z]; simp)
      have b2 : b ≠ j := fun z => hb (by rw [z]; simp)
      exact (sb.2 b b1).trans (hk b o b1 b2 z)) hf (Nat.le_refl _) new
    refine ⟨.ref s.heap.objs.size, _, J, rfl, ⟨_, x, rfl, I.hok.fresh (Nat.le_refl _), rfl, fun ys hy => by rw [I.tuple_inj hy hq]; exact hx⟩, ⟨⟨y, ?_⟩, ?_, n1, n2, n3⟩, fun b hb => ?_⟩
    · have z : ((i + 1 : Nat) : Int) = (i : Int) + 1 := by omega
      rw [z]; exact he2
    · obtain ⟨oj, ej, rj⟩ := hst.1
      exact ⟨oj, (sb.2 j (Ne.symm n1)).trans ej, rj⟩
    · have lt : b < s.heap.objs.size := by rcases two_of hb with rfl | rfl <;> assumption
      rw [upd_ne (Nat.ne_of_lt lt)]
      exact (hf b hb).1
  · rintro X rfl rfl rfl hc i pins s σ H E I hf ⟨⟨old, he⟩, hj, n1, n2, n3⟩ ⟨xs, hq, hx⟩
    obtain ⟨its, rv, pt, _⟩ := I.tuple hq
    have le := rv.length
    obtain ⟨g0, g1, g2, g3, g4, g5⟩ := hf j (by simp)
    have Dr : Draws X.prog X.w X.A.in1 j [j, a] i (fun _ _ => True) (fun k h => k = i ∧ h.IsTupleIter j a k ∧ h.IsTuple a its.toArray) :=
      ⟨fun k h st => let ⟨o, z, _⟩ := st.2.1; ⟨o, z⟩, fun k h h' st kp => ⟨st.1, let ⟨o, z, r⟩ := st.2.1; ⟨o, kp j (by simp) _ z, r⟩, let ⟨o, z, r⟩ := st.2.2; ⟨o, kp a (by simp) _ z, r⟩⟩,
        fun k s Q E lt st _ => absurd st.1 (Nat.ne_of_lt lt), fun s Q E st hE => wpAny_nextOf_tuple_end (I.ok.hd hc) st.2.1 st.2.2 (by simp; omega) hE⟩
    exact wpAny_pyNext_enum_endD Dr he ⟨rfl, hj, pt⟩ fun h1 eb => ⟨rfl, I.turned (t' := s.toks) (fun b o hb z => eb b o hb z) g0 g1 g3 g4 g5⟩
  · rintro A i s Q E ⟨⟨old, he⟩, _⟩ h
    exact wpAny_pyIter_enum he h
theorem make_enumT (a : Addr) (items : Array Value) (o : Obj) (hc : o.cls = .type "tuple") (hd : ∃ n, o.data = .seq items n) :
    Meets (Builtin.«enumerate.__new__» ⟨[.type "enumerate", .ref a], []⟩) (fun _ R s => s.heap.get? a = some o ∧
      R (.ok (.ret (.ref (s.heap.push { cls := .type "tuple_iterator", data := .fields #[.ref a, .int 0 0] }).objs.size)))
        { s with heap := (s.heap.push { cls := .type "tuple_iterator", data := .fields #[.ref a, .int 0 0] }).push { cls := .type "enumerate", data := .fields #[.none, .bool false, .ref s.heap.objs.size, rawInt 0, .none, .none] } }) :=
  .of_wp fun P v B Rs st q => by
    obtain ⟨h0, g0, d0, t0, o0⟩ := st
    obtain ⟨ho, q⟩ := q
    have sE := sub_enumerate
    have isT : Heap.IsTuple (Shared.heap ⟨h0, g0, d0, t0, o0⟩) a items := ⟨o, ho, hc, hd⟩
    have lt : (Shared.mk h0 g0 d0 t0 o0).TypeIs (.ref a) "tuple" := ⟨o, ho, hc⟩
    wp_walk using wpAny_pyIter_tuple isT
    refine wpAny_stack_any fun fs => wpAny_pure ?_
    split
    · rename_i cl _ _ _ _ _
      cases hcl : (cl == Value.type "enumerate") <;>
        (wp_walk using wpAny_pyIter_tuple isT
         exact ⟨_, rfl, q⟩)
    · wp_walk using wpAny_pyIter_tuple isT
      exact ⟨_, rfl, q⟩
section
variable {prog : Program} {w : World} {A : Around} {E : Value → Shared → Prop} {s : Shared}
theorem call_enumT {a : Addr} {items : Array Value} {Q : Value → Shared → Prop} (hT : s.heap.IsTuple a items)
    (h : ∀ h', IsEnum h' (s.heap.objs.size + 1) s.heap.objs.size 0 .none → h'.IsTupleIter s.heap.objs.size a 0 → (∀ b o, s.heap.get? b = some o → h'.get? b = some o) → Q (.ref (s.heap.objs.size + 1)) { s with heap := h' }) :
    wpAny (model prog w) A (call (.type "enumerate") [.ref a]) Q E s := by
  obtain ⟨o, ho, hc, hd⟩ := hT
  refine callType_new F.called_enumerate (by decide) (F.typeCall_enumerate_1 _) (F.newCall_enumerate_1 _)
    (fun ob => F.args_object_init_2 ob _) F.entry_enumerate_new (make_enumT a items o hc hd) ⟨ho, ?_⟩
  generalize hI : ({ cls := .type "tuple_iterator", data := .fields #[.ref a, .int 0 0] } : Obj) = oI
  have z1 : (s.heap.push oI).objs.size = s.heap.objs.size + 1 := Heap.size_push ..
  have fr : oI.isFreed = false := by rw [← hI]; rfl
  have e0 : IsEnum ((s.heap.push oI).push { cls := .type "enumerate", data := .fields #[.none, .bool false, .ref s.heap.objs.size, rawInt 0, .none, .none] }) (s.heap.push oI).objs.size s.heap.objs.size 0 .none :=
    Heap.get?_push_size (s.heap.push oI) rfl
  show _ ∧ _
  rw [z1] at e0 ⊢
  refine ⟨⟨_, e0, rfl⟩, h _ e0 ⟨oI, Heap.get?_push_of_some _ (Heap.get?_push_size _ fr), by rw [← hI], by rw [← hI]; rfl⟩ fun b ob z => Heap.get?_push_of_some _ (Heap.get?_push_of_some _ z)⟩
end
/-- enumerate over a list or a tuple -/
def iEnumA (K : PySem.W.Frag) (ta : TA) : TI := fun σ H R => ta σ H fun vs H1 => ∃ a, vs = [.ref a] ∧ ((∃ xs, SqL K H1 a xs) ∧ R (Ite K a) H1 ∨ (∃ xs, SqT K H1 a xs) ∧ R (IteT K a) H1)
theorem pi_enumA {X : Cx} {e : Expr} {ta : TA} {p pos tpos : Pos} {elts : List Expr} {kk : Nat} (hg : Gl X "enumerate") (hm : X.mg "enumerate" = none) (ha : PA X [e] ta) (hs : starEach [e] X.env = [(false, eval e X.env)]) :
    PI X (.Tuple elts kk tpos) (.Call (.Name "enumerate" p) [e] [] pos) (iEnumA X.K ta) := by
  constructor
  intro pins s σ H R I h
  refine Call_ (ld_blt I hg hm boot_enumerate (PyProof.Rows.callWith_type1 (thn (ha.run pos pins s σ H _ I h) ?_) hs rfl))
  rintro us s1 ⟨vs, H1, I1, r1, a, rfl, q1⟩
  cases r1 with
  | cons r rr =>
    cases rr
    cases r
    generalize hN : s1.heap.objs.size = N
    have new2 : ∀ b ∈ [N + 1, N], FpOk X pins H1 b := fun b hb => by
      have le : s1.heap.objs.size ≤ b := by rcases two_of hb with rfl | rfl <;> omega
      exact I1.fpOk le (I1.hok.fresh le)
    rcases q1 with ⟨⟨xs, hq⟩, q⟩ | ⟨⟨xs, hq⟩, q⟩
    · obtain ⟨its, _, pl, _⟩ := I1.list hq
      refine call_enumerate_list pl.isList fun h1 he hj _ kp => wpAny_pyIter_enum he ?_
      rw [hN] at he hj ⊢
      exact ⟨N + 1, [N + 1, N], _, _, H1, rfl, I1.kept (t' := s1.toks) kp, turn_enum a (N + 1) N, ⟨⟨.none, he⟩, hj, Nat.succ_ne_self N⟩, new2, q⟩
    · obtain ⟨its, _, pt, _⟩ := I1.tuple hq
      have la : a < s1.heap.objs.size := by obtain ⟨_, z, _⟩ := pt; exact Heap.lt_size z
      refine call_enumT (items := its.toArray) pt fun h1 he hj kp => wpAny_pyIter_enum he ?_
      rw [hN] at he hj la ⊢
      exact ⟨N + 1, [N + 1, N], _, _, H1, rfl, I1.kept (t' := s1.toks) kp, turn_enumT a (N + 1) N, ⟨⟨.none, he⟩, hj, Nat.succ_ne_self N, Nat.ne_of_lt la, Nat.ne_of_gt (Nat.lt_succ_of_lt la)⟩, new2, q⟩
end Dn

end
section
set_option Elab.async false
set_option maxRecDepth 100000
set_option maxHeartbeats 4000000
set_option linter.unusedVariables false
/-! Dn6: what is walked; loops; comprehensions. -/
namespace Dn
open PySem PySem.Spec PyProof.Rows L2 LamX

/-- an iterator does what is told ahead -/
inductive RW (M : Kit) (H : Hp) (β : List Addr) (s : Sto) : Wk → L2.It → Prop
  | lst {xs : List D} {a : Addr} (h : RD M H β s (.rol xs) (.ref a)) : RW M H β s (.items xs) (Itl M.K a)
  | tup {xs : List D} {a : Addr} (h : RD M H β s (.tup xs) (.ref a)) : RW M H β s (.items xs) (Itt M.K a)
  | live {i : Nat} {a : Addr} (h : RD M H β s (.lst i) (.ref a)) : RW M H β s (.live (.lst i)) (Itl M.K a)
  | rng {lo : Int} {n : Nat} : RW M H β s (.items ((List.range n).map fun k => .int (lo + (k : Nat)))) (Itr lo n)
  | enl {xs : List D} {a : Addr} (h : RD M H β s (.rol xs) (.ref a)) : RW M H β s (.items (enumFrom 0 xs)) (Ite M.K a)
  | ent {xs : List D} {a : Addr} (h : RD M H β s (.tup xs) (.ref a)) : RW M H β s (.items (enumFrom 0 xs)) (IteT M.K a)
  | sgn {z : Str} : RW M H β s (.items (signs z)) (Its z)
  | zipl {xs ys : List D} {a b : Addr} (h : RD M H β s (.rol xs) (.ref a)) (h2 : RD M H β s (.rol ys) (.ref b)) : RW M H β s (.items (pairs2 xs ys)) (Itz M.K a b)
  | zipt {xs ys : List D} {a b : Addr} (h : RD M H β s (.tup xs) (.ref a)) (h2 : RD M H β s (.tup ys) (.ref b)) : RW M H β s (.items (pairs2 xs ys)) (RZ.ItzT M.K a b)
section
variable {M : Kit} {H H1 : Hp} {β β1 : List Addr} {s s1 : Sto} {w : Wk} {J : L2.It}
theorem RW.mono (R : RS M H β s) (k : Kp H β s H1 β1 s1) (h : RW M H β s w J) : RW M H1 β1 s1 w J := by
  cases h with
  | lst h => exact .lst (RD.mono R k (.rol _) h)
  | tup h => exact .tup (RD.mono R k (.tup _) h)
  | live h => exact .live (RD.mono R k (.lst _) h)
  | rng => exact .rng
  | enl h => exact .enl (RD.mono R k (.rol _) h)
  | ent h => exact .ent (RD.mono R k (.tup _) h)
  | sgn => exact .sgn
  | zipl h h2 => exact .zipl (RD.mono R k (.rol _) h) (RD.mono R k (.rol _) h2)
  | zipt h h2 => exact .zipt (RD.mono R k (.tup _) h) (RD.mono R k (.tup _) h2)
theorem RW.openZ {L : Addr} (R : RS M H β s) (hL : H L = none) (xs : List V) (h : RW M H β s w J) : RW (M.at (L :: M.Z)) (upd H L (.lst xs)) β s w J := by
  cases h with
  | lst h => exact .lst (M := M.at (L :: M.Z)) (RD.openZ R hL xs (.rol _) h)
  | tup h => exact .tup (M := M.at (L :: M.Z)) (RD.openZ R hL xs (.tup _) h)
  | live h => exact .live (M := M.at (L :: M.Z)) (RD.openZ R hL xs (.lst _) h)
  | rng => exact .rng
  | enl h => exact .enl (M := M.at (L :: M.Z)) (RD.openZ R hL xs (.rol _) h)
  | ent h => exact .ent (M := M.at (L :: M.Z)) (RD.openZ R hL xs (.tup _) h)
  | sgn => exact .sgn
  | zipl h h2 => exact .zipl (M := M.at (L :: M.Z)) (RD.openZ R hL xs (.rol _) h) (RD.openZ R hL xs (.rol _) h2)
  | zipt h h2 => exact .zipt (M := M.at (L :: M.Z)) (RD.openZ R hL xs (.tup _) h) (RD.openZ R hL xs (.tup _) h2)
theorem RW.fillZ {L : Addr} {xs ys : List V} (R : RS M H β s) (hL : H L = some (.lst xs)) (hz : L ∈ M.Z) (h : RW M H β s w J) : RW M (upd H L (.lst ys)) β s w J := by
  cases h with
  | lst h => exact .lst (RD.fillZ R hL hz (.rol _) h)
  | tup h => exact .tup (RD.fillZ R hL hz (.tup _) h)
  | live h => exact .live (RD.fillZ R hL hz (.lst _) h)
  | rng => exact .rng
  | enl h => exact .enl (RD.fillZ R hL hz (.rol _) h)
  | ent h => exact .ent (RD.fillZ R hL hz (.tup _) h)
  | sgn => exact .sgn
  | zipl h h2 => exact .zipl (RD.fillZ R hL hz (.rol _) h) (RD.fillZ R hL hz (.rol _) h2)
  | zipt h h2 => exact .zipt (RD.fillZ R hL hz (.tup _) h) (RD.fillZ R hL hz (.tup _) h2)
theorem RD.rol_at {xs : List D} {a : Addr} (h : RD M H β s (.rol xs) (.ref a)) : ∃ vs, SqL M.K H a vs ∧ RDs M H β s xs vs := by
  obtain ⟨b, vs, e, q, r⟩ := h
  cases e
  exact ⟨vs, q.elim (fun z => .inl z.1) .inr, r⟩
theorem RD.tup_at {xs : List D} {a : Addr} (h : RD M H β s (.tup xs) (.ref a)) : ∃ vs, SqT M.K H a vs ∧ RDs M H β s xs vs := by
  obtain ⟨b, vs, e, q, r⟩ := h
  cases e
  exact ⟨vs, q, r⟩
theorem RDs.none_of {ds : List D} {vs : List V} {i : Nat} (h : RDs M H β s ds vs) (e : ds[i]? = none) : vs.length ≤ i := by
  rw [← h.length]
  exact List.getElem?_eq_none_iff.mp e
theorem enum_get : ∀ (xs : List D) (k i : Nat), (enumFrom k xs)[i]? = (xs[i]?).map fun x => .tup [.int ((k + i : Nat) : Int), x]
  | [], _, _ => by simp [enumFrom]
  | x :: xs, k, 0 => by simp [enumFrom]
  | x :: xs, k, i + 1 => by
    simp only [enumFrom, List.getElem?_cons_succ]
    rw [enum_get xs (k + 1) i]
    have e : k + 1 + i = k + (i + 1) := by omega
    rw [e]
theorem pairs_get : ∀ {xs ys : List D} {i : Nat}, (pairs2 xs ys)[i]? = match xs[i]?, ys[i]? with
    | some x, some y => some (.tup [x, y])
    | _, _ => none
  | [], _, _ => by simp [pairs2]
  | _ :: _, [], i => by
    simp only [pairs2, List.zip_nil_right, List.map_nil, List.getElem?_nil]
    split <;> first | rfl | (rename_i h; simp at h)
  | x :: xs, y :: ys, 0 => by simp [pairs2]
  | x :: xs, y :: ys, i + 1 => by
    have ih := pairs_get (xs := xs) (ys := ys) (i := i)
    simpa [pairs2] using ih
/-- a new pair -/
theorem new_pair {T : Addr} {d e : D} {x y : V} (R : RS M H β s) (hT : H T = none) (rd : RD M H β s d x) (re : RD M H β s e y) :
    RS M (upd H T (.tup [x, y])) β s ∧ Kp H β s (upd H T (.tup [x, y])) β s ∧ RD M (upd H T (.tup [x, y])) β s (.tup [d, e]) (.ref T) :=
  ⟨R.alloc hT, .alloc hT, T, [x, y], rfl, SqT.of upd_same, RDs.mono R (.alloc hT) [d, e] ⟨rd, re, trivial⟩⟩
theorem RW.turn (R : RS M H β s) (h : RW M H β s w J) (i : Nat) {o : Option D} (e : wkAt s i w = some o) :
    (o = none → J.stop i H) ∧ ∀ d, o = some d → J.go i H ∧ ∀ x H2, J.yld i H x H2 → RS M H2 β s ∧ Kp H β s H2 β s ∧ RD M H2 β s d x := by
  cases h with
  | lst h =>
    obtain ⟨vs, q, r⟩ := RD.rol_at h
    cases e
    refine ⟨fun z => ⟨vs, q, r.none_of z⟩, fun d z => ?_⟩
    obtain ⟨v, h1, h2⟩ := r.get z
    exact ⟨⟨vs, v, q, h1⟩, fun x H2 ⟨e, y⟩ => by
      subst e
      have y := y vs q
      rw [h1] at y; cases y
      exact ⟨R, .refl _ _ _, h2⟩⟩
  | tup h =>
    obtain ⟨vs, q, r⟩ := RD.tup_at h
    cases e
    refine ⟨fun z => ⟨vs, q, r.none_of z⟩, fun d z => ?_⟩
    obtain ⟨v, h1, h2⟩ := r.get z
    exact ⟨⟨vs, v, q, h1⟩, fun x H2 ⟨e, y⟩ => by
      subst e
      have y := y vs q
      rw [h1] at y; cases y
      exact ⟨R, .refl _ _ _, h2⟩⟩
  | live h =>
    simp only [wkAt] at e
    obtain ⟨xs, e1, rfl⟩ := Option.map_eq_some_iff.mp e
    obtain ⟨b, vs, ev, q, r⟩ := h.listOf R e1
    cases ev
    refine ⟨fun z => ⟨vs, q, r.none_of z⟩, fun d z => ?_⟩
    obtain ⟨v, h1, h2⟩ := r.get z
    exact ⟨⟨vs, v, q, h1⟩, fun x H2 ⟨e, y⟩ => by
      subst e
      have y := y vs q
      rw [h1] at y; cases y
      exact ⟨R, .refl _ _ _, h2⟩⟩
  | @rng lo n =>
    cases e
    by_cases hi : i < n
    · refine ⟨fun z => ?_, fun d z => ⟨hi, fun x H2 ⟨e, y⟩ => ?_⟩⟩
      · rw [List.getElem?_map, List.getElem?_range hi] at z; cases z
      · subst e y
        rw [List.getElem?_map, List.getElem?_range hi] at z
        cases z
        exact ⟨R, .refl _ _ _, rfl⟩
    · refine ⟨fun _ => Nat.le_of_not_lt hi, fun d z => ?_⟩
      rw [List.getElem?_eq_none (by simp; omega)] at z; cases z
  | enl h =>
    obtain ⟨vs, q, r⟩ := RD.rol_at h
    cases e
    rename_i xs a
    refine ⟨fun z => ?_, fun d z => ?_⟩
    · rw [enum_get, Option.map_eq_none_iff] at z
      exact ⟨vs, q, r.none_of z⟩
    · rw [enum_get] at z
      obtain ⟨x, z1, rfl⟩ := Option.map_eq_some_iff.mp z
      obtain ⟨v, h1, h2⟩ := r.get z1
      refine ⟨⟨vs, v, q, h1⟩, fun u H2 ⟨T, y, e1, hT, e2, f⟩ => ?_⟩
      subst e1 e2
      have f := f vs q
      rw [h1] at f; cases f
      rw [Nat.zero_add]
      exact new_pair R hT rfl h2
  | ent h =>
    obtain ⟨vs, q, r⟩ := RD.tup_at h
    cases e
    rename_i xs a
    refine ⟨fun z => ?_, fun d z => ?_⟩
    · rw [enum_get, Option.map_eq_none_iff] at z
      exact ⟨vs, q, r.none_of z⟩
    · rw [enum_get] at z
      obtain ⟨x, z1, rfl⟩ := Option.map_eq_some_iff.mp z
      obtain ⟨v, h1, h2⟩ := r.get z1
      refine ⟨⟨vs, v, q, h1⟩, fun u H2 ⟨T, y, e1, hT, e2, f⟩ => ?_⟩
      subst e1 e2
      have f := f vs q
      rw [h1] at f; cases f
      rw [Nat.zero_add]
      exact new_pair R hT rfl h2
  | @sgn z =>
    cases e
    have get : (signs z)[i]? = (z.cps[i]?).map fun c => D.str ⟨#[c]⟩ := by
      unfold signs
      rw [List.getElem?_map, Array.getElem?_toList]
    rw [get]
    refine ⟨fun q => ?_, fun d q => ?_⟩
    · rw [Option.map_eq_none_iff] at q
      exact Array.getElem?_eq_none_iff.mp q
    · obtain ⟨c, q1, rfl⟩ := Option.map_eq_some_iff.mp q
      obtain ⟨lt, _⟩ := Array.getElem?_eq_some_iff.mp q1
      refine ⟨lt, fun x H2 ⟨e, c', q2, ex⟩ => ?_⟩
      subst e ex
      rw [q1] at q2; cases q2
      exact ⟨R, .refl _ _ _, rfl⟩
  | zipl h h' =>
    obtain ⟨vs, q, r⟩ := RD.rol_at h
    obtain ⟨us, q', r'⟩ := RD.rol_at h'
    cases e
    rename_i xs ys a b
    refine ⟨fun z => ?_, fun d z => ?_⟩
    · rw [pairs_get] at z
      cases e1 : xs[i]? with
      | none => exact ⟨vs, us, q, q', .inl (r.none_of e1)⟩
      | some x =>
        cases e2 : ys[i]? with
        | none => exact ⟨vs, us, q, q', .inr (r'.none_of e2)⟩
        | some y => rw [e1, e2] at z; cases z
    · rw [pairs_get] at z
      cases e1 : xs[i]? with
      | none => rw [e1] at z; cases z
      | some x =>
        cases e2 : ys[i]? with
        | none => rw [e1, e2] at z; cases z
        | some y =>
          rw [e1, e2] at z; cases z
          obtain ⟨v, h1, h2⟩ := r.get e1
          obtain ⟨u, h3, h4⟩ := r'.get e2
          refine ⟨⟨vs, us, v, u, q, q', h1, h3⟩, fun p H2 ⟨T, v', u', e3, hT, e4, f, f'⟩ => ?_⟩
          subst e3 e4
          have f := f vs q
          have f' := f' us q'
          rw [h1] at f; cases f
          rw [h3] at f'; cases f'
          exact new_pair R hT h2 h4
  | zipt h h' =>
    obtain ⟨vs, q, r⟩ := RD.tup_at h
    obtain ⟨us, q', r'⟩ := RD.tup_at h'
    cases e
    rename_i xs ys a b
    refine ⟨fun z => ?_, fun d z => ?_⟩
    · rw [pairs_get] at z
      cases e1 : xs[i]? with
      | none => exact ⟨vs, us, q, q', .inl (r.none_of e1)⟩
      | some x =>
        cases e2 : ys[i]? with
        | none => exact ⟨vs, us, q, q', .inr (r'.none_of e2)⟩
        | some y => rw [e1, e2] at z; cases z
    · rw [pairs_get] at z
      cases e1 : xs[i]? with
      | none => rw [e1] at z; cases z
      | some x =>
        cases e2 : ys[i]? with
        | none => rw [e1, e2] at z; cases z
        | some y =>
          rw [e1, e2] at z; cases z
          obtain ⟨v, h1, h2⟩ := r.get e1
          obtain ⟨u, h3, h4⟩ := r'.get e2
          refine ⟨⟨vs, us, v, u, q, q', h1, h3⟩, fun p H2 ⟨T, v', u', e3, hT, e4, f, f'⟩ => ?_⟩
          subst e3 e4
          have f := f vs q
          have f' := f' us q'
          rw [h1] at f; cases f
          rw [h3] at f'; cases f'
          exact new_pair R hT h2 h4
end

/-! ### iterators -/
def tI (M : Kit) (W : WX) (r : Env → Sto → Res Wk) : TI := fun σ H R => ∃ env s β, RE M H β s env σ ∧ RS M H β s ∧ Po M (RW M) H β s (r env s) R fun c H' => W c none σ H'
section
variable {X : Cx} {M : Kit} {W : WX} {F n : Nat} {G : List Fn} {U : List Nat} {pos p1 p2 p3 : Pos} {a b tg : Expr} {es : List Expr} {ra rb : Sem1 D} {rs : Sem1 (List D)}
def iSeq (K : PySem.W.Frag) (tl : TE) : TI := fun σ H R => tl σ H fun x H1 => (∃ a, x = .ref a ∧ ((∃ xs, SqL K H1 a xs) ∧ R (Itl K a) H1 ∨ (∃ xs, SqT K H1 a xs) ∧ R (Itt K a) H1)) ∨ ∃ z, x = .str z ∧ R (Its z) H1
theorem pi_seq {l : Expr} {tl : TE} (hl : PE X l tl) : PI X tg l (iSeq X.K tl) := by
  constructor
  intro pins s σ H R I h
  refine thn (hl.run pins s σ H _ I h) ?_
  rintro v s1 ⟨x, H1, I1, r1, q0⟩
  rcases q0 with ⟨a, rfl, q1⟩ | ⟨z, rfl, q1⟩
  rotate_left
  · obtain ⟨t, rfl⟩ := r1
    have J := fun (o : Obj) (tn : Nat → Heap → Prop) (T : Turn X.prog X.w X.K tg (Its z) [s1.heap.objs.size] s1.heap.objs.size tn) (st : tn 0 (s1.heap.push o)) => pi_one (tk := s1.toks) I1 o T st q1
    cases ha : z.cps.all (· < 128)
    · refine wpAny_pyIter_wide ha (J _ _ (turn_str _ z t "str_iterator" (.inr rfl)) ?_)
      exact ⟨_, Heap.get?_push_size _ rfl, rfl, rfl⟩
    · refine wpAny_pyIter_ascii ha (J _ _ (turn_str _ z t "str_ascii_iterator" (.inl rfl)) ?_)
      exact ⟨_, Heap.get?_push_size _ rfl, rfl, rfl⟩
  cases r1
  generalize hN : s1.heap.objs.size = N
  have fresh : ∀ b ∈ [N], FpOk X pins H1 b := fun b hb => by
    obtain rfl : b = N := by simpa using hb
    exact I1.fpOk (Nat.le_of_eq hN) (I1.hok.fresh (Nat.le_of_eq hN))
  rcases q1 with ⟨⟨xs, hq⟩, q⟩ | ⟨⟨xs, hq⟩, q⟩
  · obtain ⟨its, _, p, _⟩ := I1.list hq
    refine wpAny_pyIter_list p.isList ?_
    rw [hN]
    refine ⟨N, [N], _, _, H1, rfl, I1.kept (t' := s1.toks) (fun b o => Heap.get?_push_of_some _), turn_list a N, Exists.intro { cls := .type "list_iterator", data := .fields #[.ref a, .int ((0 : Nat) : Int) 0] } ⟨?_, rfl, rfl⟩, fresh, q⟩
    rw [← hN]
    exact Heap.get?_push_size _ rfl
  · obtain ⟨its, _, p, _⟩ := I1.tuple hq
    refine wpAny_pyIter_tuple (items := its.toArray) p ?_
    rw [hN]
    refine ⟨N, [N], _, _, H1, rfl, I1.kept (t' := s1.toks) (fun b o => Heap.get?_push_of_some _), turn_tuple a N, Exists.intro { cls := .type "tuple_iterator", data := .fields #[.ref a, .int ((0 : Nat) : Int) 0] } ⟨?_, rfl, rfl⟩, fresh, q⟩
    rw [← hN]
    exact Heap.get?_push_size _ rfl
theorem si_seq (hK : M.K = X.K) (ha : SX X M W a ra) : PI X tg a (tI M W fun env s => (ra env s).bind fun x s1 => match x with
    | .tup xs => .ok (.items xs) s1
    | .rol xs => .ok (.items xs) s1
    | .str z => .ok (.items (signs z)) s1
    | .lst i => match listOf s1 (.lst i) with
      | some _ => .ok (.live (.lst i)) s1
      | none => .bad
    | _ => .bad) := by
  refine piImp (pi_seq ha.pe) fun σ H R ⟨env, s, β, re, rS, q⟩ => ⟨env, s, β, re, rS, q.step fun x s1 H1 β1 v _ rs1 k1 rd1 q1 => ?_⟩
  cases x <;> first | exact q1.elim | skip
  · cases rd1
    exact .inr ⟨_, rfl, q1 H1 β1 _ rs1 (.refl _ _ _) .sgn⟩
  · obtain ⟨a, vs, rfl, hq, r⟩ := id rd1
    exact .inl ⟨a, rfl, .inr ⟨⟨vs, hK ▸ hq⟩, hK ▸ q1 H1 β1 _ rs1 (.refl _ _ _) (.tup rd1)⟩⟩
  · obtain ⟨a, vs, rfl, hq, r⟩ := id rd1
    obtain ⟨us, hq', _⟩ := RD.rol_at rd1
    exact .inl ⟨a, rfl, .inl ⟨⟨us, hK ▸ hq'⟩, hK ▸ q1 H1 β1 _ rs1 (.refl _ _ _) (.lst rd1)⟩⟩
  · rename_i k _
    dsimp only at q1
    cases e : listOf s1 (.lst k) with
    | none => rw [e] at q1; exact q1.elim
    | some xs =>
      rw [e] at q1
      obtain ⟨a, vs, rfl, hq, r⟩ := rd1.listOf rs1 e
      exact .inl ⟨a, rfl, .inl ⟨⟨vs, hK ▸ hq⟩, hK ▸ q1 H1 β1 _ rs1 (.refl _ _ _) (.live rd1)⟩⟩
theorem si_rng (T : Tp X M F G U n) (hg : Gl X ("range" : Str)) (hs : isStar a = false) (ha : SX X M W a ra) : PI X tg (.Call (.Name "range" p1) [a] [] pos) (tI M W fun env s => (ra env s).bind fun x s1 => match x with
    | .int j => if decide (-(2 ^ 62) ≤ j) && decide (j < 2 ^ 62) then .ok (.items ((List.range j.toNat).map fun k => .int (k : Nat))) s1 else .bad
    | _ => .bad) := by
  have e1 : starEach [a] X.env = [(false, eval a X.env)] := star_cons hs
  refine piImp (pi_range1 hg (T.blt _ (by decide +kernel)) (pa_cons ha.pe pa_nil e1) e1) fun σ H R ⟨env, s, β, re, rS, q⟩ => ⟨env, s, β, re, rS, q.step fun x s1 H1 β1 v _ rs1 k1 rd1 q1 => ?_⟩
  cases x <;> first | exact q1.elim | skip
  rename_i j _
  cases rd1
  obtain ⟨h1, q2⟩ := ifRes q1
  rw [Bool.and_eq_true, decide_eq_true_eq, decide_eq_true_eq] at h1
  refine ⟨j, rfl, h1.1, h1.2, q2 H1 β1 _ rs1 (.refl _ _ _) ?_⟩
  have z := RW.rng (M := M) (H := H1) (β := β1) (s := s1) (lo := 0) (n := j.toNat)
  simpa using z
theorem si_rng2 (T : Tp X M F G U n) (hg : Gl X ("range" : Str)) (hs : isStar a = false) (hs2 : isStar b = false) (ha : SX X M W a ra) (hb : SX X M W b rb) : PI X tg (.Call (.Name "range" p1) [a, b] [] pos) (tI M W fun env s => (ra env s).bind fun x s1 => (rb env s1).bind fun y s2 => match x, y with
    | .int i, .int j => if decide (-(2 ^ 62) ≤ i) && decide (i < 2 ^ 62) && decide (-(2 ^ 62) ≤ j) && decide (j < 2 ^ 62) then .ok (.items ((List.range (j - i).toNat).map fun k => .int (i + (k : Nat)))) s2 else .bad
    | _, _ => .bad) := by
  have e2 : starEach [b] X.env = [(false, eval b X.env)] := star_cons hs2
  have e0 : starEach [a, b] X.env = (false, eval a X.env) :: starEach [b] X.env := star_cons hs
  have e1 : starEach [a, b] X.env = [(false, eval a X.env), (false, eval b X.env)] := by rw [e0, e2]
  refine piImp (pi_range2 hg (T.blt _ (by decide +kernel)) (pa_cons ha.pe (pa_cons hb.pe pa_nil e2) e0) e1 e2) fun σ H R ⟨env, s, β, re, rS, q⟩ => ⟨env, s, β, re, rS, q.step fun x s1 H1 β1 v _ rs1 k1 rd1 q1 => ?_⟩
  refine ⟨env, s1, β1, re.mono rS k1, rs1, q1.step fun y s2 H2 β2 u _ rs2 k2 rd2 q2 => ?_⟩
  cases x <;> first | exact q2.elim | skip
  cases y <;> first | exact q2.elim | skip
  rename_i i _ j _
  cases rd1
  cases rd2
  obtain ⟨h1, q3⟩ := ifRes q2
  simp only [Bool.and_eq_true, decide_eq_true_eq] at h1
  exact ⟨i, j, rfl, ⟨h1.1.1.1, h1.1.1.2, h1.1.2, h1.2⟩, q3 H2 β2 _ rs2 (.refl _ _ _) .rng⟩
theorem si_enum {kk : Nat} {elts : List Expr} {tpos : Pos} (T : Tp X M F G U n) (hg : Gl X ("enumerate" : Str)) (hs : isStar a = false) (ha : SX X M W a ra) : PI X (.Tuple elts kk tpos) (.Call (.Name "enumerate" p1) [a] [] pos) (tI M W fun env s => (ra env s).bind fun x s1 => match x with
    | .rol xs => .ok (.items (enumFrom 0 xs)) s1
    | .tup xs => .ok (.items (enumFrom 0 xs)) s1
    | _ => .bad) := by
  have e1 : starEach [a] X.env = [(false, eval a X.env)] := star_cons hs
  refine piImp (pi_enumA hg (T.blt _ (by decide +kernel)) (pa_cons ha.pe pa_nil e1) e1) fun σ H R ⟨env, s, β, re, rS, q⟩ => ⟨env, s, β, re, rS, q.step fun x s1 H1 β1 v _ rs1 k1 rd1 q1 => ?_⟩
  cases x <;> first | exact q1.elim | skip
  · obtain ⟨a, vs, rfl, hq, r⟩ := id rd1
    exact ⟨a, rfl, .inr ⟨⟨vs, T.kit ▸ hq⟩, T.kit ▸ q1 H1 β1 _ rs1 (.refl _ _ _) (.ent rd1)⟩⟩
  · obtain ⟨a, vs, rfl, hq, r⟩ := id rd1
    obtain ⟨us, hq', _⟩ := RD.rol_at rd1
    exact ⟨a, rfl, .inl ⟨⟨us, T.kit ▸ hq'⟩, T.kit ▸ q1 H1 β1 _ rs1 (.refl _ _ _) (.enl rd1)⟩⟩
theorem si_zip {kk : Nat} {elts : List Expr} {tpos : Pos} (T : Tp X M F G U n) (hg : Gl X ("zip" : Str)) (hs : isStar a = false) (hs2 : isStar b = false) (ha : SX X M W a ra) (hb : SX X M W b rb) : PI X (.Tuple elts kk tpos) (.Call (.Name "zip" p1) [a, b] [] pos) (tI M W fun env s => (ra env s).bind fun x s1 => (rb env s1).bind fun y s2 => match x, y with
    | .tup xs, .tup ys => .ok (.items (pairs2 xs ys)) s2
    | .rol xs, .rol ys => .ok (.items (pairs2 xs ys)) s2
    | _, _ => .bad) := by
  have e2 : starEach [b] X.env = [(false, eval b X.env)] := star_cons hs2
  have e0 : starEach [a, b] X.env = (false, eval a X.env) :: starEach [b] X.env := star_cons hs
  refine piImp (RZ.pi_zipA hg (T.blt _ (by decide +kernel)) (pa_cons ha.pe (pa_cons hb.pe pa_nil e2) e0) e0 (by rw [e2]; rfl)) fun σ H R ⟨env, s, β, re, rS, q⟩ => ⟨env, s, β, re, rS, q.step fun x s1 H1 β1 v _ rs1 k1 rd1 q1 => ?_⟩
  refine ⟨env, s1, β1, re.mono rS k1, rs1, q1.step fun y s2 H2 β2 u _ rs2 k2 rd2 q2 => ?_⟩
  have rd1' := RD.mono rs1 k2 x rd1
  cases x <;> first | exact q2.elim | skip
  · cases y <;> first | exact q2.elim | skip
    obtain ⟨a, vs, rfl, hq, r⟩ := id rd1'
    obtain ⟨b, us, rfl, hq2, r2⟩ := id rd2
    exact ⟨a, b, vs, us, rfl, .inr ⟨T.kit ▸ hq, T.kit ▸ hq2, T.kit ▸ q2 H2 β2 _ rs2 (.refl _ _ _) (.zipt rd1' rd2)⟩⟩
  · cases y <;> first | exact q2.elim | skip
    obtain ⟨a, vs, rfl, _, _⟩ := id rd1'
    obtain ⟨b, us, rfl, _, _⟩ := id rd2
    obtain ⟨vs', hq, _⟩ := RD.rol_at rd1'
    obtain ⟨us', hq2, _⟩ := RD.rol_at rd2
    exact ⟨a, b, vs', us', rfl, .inl ⟨T.kit ▸ hq, T.kit ▸ hq2, T.kit ▸ q2 H2 β2 _ rs2 (.refl _ _ _) (.zipl rd1' rd2)⟩⟩
end
end Dn

end
section
set_option Elab.async false
set_option maxRecDepth 100000
set_option maxHeartbeats 4000000
set_option linter.unusedVariables false
/-! Dn7: statements. -/
namespace Dn
open PySem PySem.Spec PyProof.Rows L2 LamX
section
variable {X : Cx} {M : Kit} {W : WX} {F n : Nat} {G : List Fn} {U : List Nat} {pos p1 p2 p3 : Pos} {a b c tg iter : Expr} {es : List Expr} {ra rb rc : Sem1 D} {rs : Sem1 (List D)} {body : List Stmt} {rB rC : Sem1S}
theorem ss_pass : PS X (.Pass pos) (tS M W fun env s => .nx env s) := psImp ps_pass fun D σ H ⟨env, s, β, re, rs, q⟩ => q H β σ re rs (.refl _ _ _)
theorem ss_brk : PS X (.Break pos) (tS M W fun env s => .bk env s) := psImp ps_break fun D σ H ⟨env, s, β, re, rs, q⟩ => q H β σ re rs (.refl _ _ _)
theorem ss_cnt : PS X (.Continue pos) (tS M W fun env s => .ct env s) := psImp ps_continue fun D σ H ⟨env, s, β, re, rs, q⟩ => q H β σ re rs (.refl _ _ _)
theorem ss_retn : PS X (.Return none pos) (tS M W fun _ s => .rt .non s) := psImp ps_retN fun D σ H ⟨env, s, β, re, rs, q⟩ => q H β _ rs (.refl _ _ _) rfl
theorem ss_doc {x : Str} {j : Nat} : PS X (.Expr (.Constant (.str x) j p1) pos) (tS M W fun env s => .nx env s) := psImp ps_doc fun D σ H ⟨env, s, β, re, rs, q⟩ => q H β σ re rs (.refl _ _ _)
theorem ss_nil : PSs X [] (tS M W fun env s => .nx env s) := pssImp pss_nil fun D σ H ⟨env, s, β, re, rs, q⟩ => q H β σ re rs (.refl _ _ _)
theorem ss_cons {st : Stmt} {rest : List Stmt} (h1 : PS X st (tS M W rB)) (h2 : PSs X rest (tS M W rC)) : PSs X (st :: rest) (tS M W fun env s => (rB env s).andThen rC) := by
  refine pssImp (pss_cons h1 h2) fun D σ H ⟨env, s, β, re, rs, q⟩ => ⟨env, s, β, re, rs, ?_⟩
  exact PoS.then (Q := fun σ2 H2 => tS M W rC D σ2 H2) q fun e s1 H1 β1 σ1 _ re1 rs1 k1 q1 => ⟨e, s1, β1, re1, rs1, q1⟩
def isLc : Expr → Bool
  | .ListComp _ _ _ _ => true
  | .SetComp _ _ _ _ => true
  | .DictComp _ _ _ _ _ => true
  | _ => false
theorem noSwap {o : Option Expr} {l : Nat} {env : PySem.Env} (h : isLc a = false) : swapsWith a o l env = pure false := by
  cases a <;> first | rfl | cases h
theorem ss_ex (h : isLc a = false) (ha : SX X M W a ra) : PS X (.Expr a pos) (tS M W fun env s => (ra env s).toS env fun _ s1 => .nx env s1) :=
  psImp (ps_expr ha.pe (noSwap h)) fun D σ H h => tS_E (f := fun env _ s1 => .nx env s1) h fun env d s1 H1 β1 v re rs rd q => q H1 β1 σ re rs (.refl _ _ _)
theorem ss_ret (ha : SX X M W a ra) : PS X (.Return (some a) pos) (tS M W fun env s => (ra env s).toS env fun d s1 => .rt d s1) :=
  psImp (ps_ret ha.pe) fun D σ H h => tS_E (f := fun _ d s1 => .rt d s1) h fun env d s1 H1 β1 v re rs rd q => q H1 β1 v rs (.refl _ _ _) rd
abbrev fIte (rB rC : Sem1S) : Env → D → Sto → SR := fun env x s1 => match x with
  | .bl true => rB env s1
  | .bl false => rC env s1
  | _ => .bad
theorem tS_T {f : Env → D → Sto → SR} {D' : L2.Ends} {σ : L2.St} {H : Hp} {Q : Bool → Hp → Prop} (hf : ∀ env x s, (∀ b, x ≠ .bl b) → f env x s = .bad) (h : tS M W (fun env s => (ra env s).toS env (f env)) D' σ H)
    (n : ∀ env b s1 H1 β1, RE M H1 β1 s1 env σ → RS M H1 β1 s1 → PoS M W D' H1 β1 s1 (f env (.bl b) s1) → Q b H1) : tT M W ra σ H Q := by
  obtain ⟨env, s, β, re, rs, q⟩ := h
  refine ⟨env, s, β, re, rs, ?_⟩
  revert q
  dsimp only
  cases ra env s with
  | ok d s1 =>
    intro q
    by_cases z : ∃ b, d = .bl b
    · obtain ⟨b, rfl⟩ := z
      refine ⟨fun d' s' e => by cases e; exact ⟨b, rfl⟩, fun H1 β1 b' rs1 k1 e => ?_⟩
      cases e
      exact n env b s1 H1 β1 (re.mono rs k1) rs1 (PoS.later k1 q)
    · have e : f env d s1 = .bad := hf env d s1 fun b e => z ⟨b, e⟩
      have q : PoS M W D' H β s (f env d s1) := q
      rw [e] at q
      exact q.elim
  | exc c fs s1 => exact fun q => ⟨fun _ _ z => (nomatch z), q.1, fun H' β' rs' k => q.2 H' β' σ (re.mono rs k) rs' k⟩
  | bad => exact fun q => q.elim
theorem fIte_bad : ∀ env x s, (∀ b, x ≠ .bl b) → fIte rB rC env x s = .bad := fun env x s h => by
  cases x <;> first | rfl | exact absurd rfl (h _)
theorem ss_ite {p q : List Stmt} (ha : SX X M W a ra) (hb : PSs X p (tS M W rB)) (hc : PSs X q (tS M W rC)) : PS X (.If a p q pos) (tS M W fun env s => (ra env s).toS env (fIte rB rC env)) :=
  psImp (ps_if ha.pt hb hc) fun D σ H h => tS_T fIte_bad h fun env b s1 H1 β1 re rs q => by
    cases b with
    | true => exact iteT ⟨env, s1, β1, re, rs, q⟩
    | false => exact iteF ⟨env, s1, β1, re, rs, q⟩

/-! ### loops -/
/-- the body's end within a loop -/
theorem PoS.turn {D : L2.Ends} {H : Hp} {β : List Addr} {s : Sto} {N : L2.St → Hp → Prop} {g : Env → Sto → SR} {r : SR}
    (h : PoS M W D H β s (match r with
      | .nx e' s' => g e' s'
      | .ct e' s' => g e' s'
      | .bk e' s' => .nx e' s'
      | r => r))
    (n : ∀ e s1 H1 β1 σ1, RE M H1 β1 s1 e σ1 → RS M H1 β1 s1 → Kp H β s H1 β1 s1 → PoS M W D H1 β1 s1 (g e s1) → N σ1 H1) : PoS M W { D with nx := N, ct := N, bk := D.nx } H β s r := by
  cases r with
  | nx e s' => exact fun H' β' σ' re rs k => n e s' H' β' σ' re rs k (PoS.later k h)
  | ct e s' => exact fun H' β' σ' re rs k => n e s' H' β' σ' re rs k (PoS.later k h)
  | bk e s' => exact h
  | rt d s' => exact h
  | exc c fs e s' => exact h
  | bad => exact h
theorem ss_whl (hp : PassesOwn (model X.prog X.w) X.A X.env X.xe) (ha : SX X M W a ra) (hb : PSs X body (tS M W rB)) : PS X (.While a body [] pos) (tS M W fun env s => whileW ra rB F env s) := by
  refine psImp (ps_while hp ha.pt hb) fun D σ H ⟨env, s, β, re, rs, q⟩ => ?_
  refine ⟨fun m σ H => ∃ env s β, RE M H β s env σ ∧ RS M H β s ∧ PoS M W D H β s (whileW ra rB m env s), ⟨F, env, s, β, re, rs, q⟩, ?_⟩
  rintro m σ H ⟨env, s, β, re, rs, q⟩
  cases m with
  | zero => exact q.elim
  | succ m =>
    simp only [whileW] at q
    refine tS_T (f := fun env x s' => match x with
      | .bl true => match rB env s' with
        | .nx e' s'' => whileW ra rB m e' s''
        | .ct e' s'' => whileW ra rB m e' s''
        | .bk e' s'' => .nx e' s''
        | r => r
      | .bl false => .nx env s'
      | _ => .bad) (D' := D) (fun env x s h => by cases x <;> first | rfl | exact absurd rfl (h _)) ⟨env, s, β, re, rs, ?_⟩ fun env b s1 H1 β1 re1 rs1 q1 => ?_
    · revert q
      show PoS M W D H β s _ → PoS M W D H β s ((ra env s).toS env _)
      cases ra env s with
      | ok d s1 =>
        intro q
        cases d <;> first | exact q.elim | skip
        rename_i b
        cases b <;> exact q
      | exc c fs s1 => exact fun q => q
      | bad => exact fun q => q
    · cases b with
      | false => exact iteF (q1 H1 β1 σ re1 rs1 (.refl _ _ _))
      | true =>
        refine iteT ⟨fun σ' H' => ∃ env s β, RE M H' β s env σ' ∧ RS M H' β s ∧ PoS M W D H' β s (whileW ra rB m env s), fun σ' H' q => ⟨m, Nat.lt_succ_self _, q⟩, env, s1, β1, re1, rs1, ?_⟩
        exact PoS.turn (g := fun e s => whileW ra rB m e s) q1 fun e s2 H2 β2 σ2 re2 rs2 k2 q2 => ⟨e, s2, β2, re2, rs2, q2⟩
theorem ss_for {own : List Nat} {g : D → Env → Sto → SR} {rI : Env → Sto → Res Wk} (hp : PassesOwn (model X.prog X.w) X.A X.env X.xe) (hc : X.calm = true) (hi : PI X tg iter (tI M W rI)) (hg : PG X tg (tG M W own g)) (hb : PSs X body (tS M W rB))
    (hs : ∀ x, foldedSetIterable iter X.env x = pure x) : PS X (.For tg iter body [] pos) (tS M W fun env s => match rI env s with
      | .ok w s1 => loopW (fun d e s2 => (g d e s2).andThen fun e1 s3 => rB e1 s3) w F 0 env s1
      | .exc c fs s1 => .exc c fs env s1
      | .bad => .bad) := by
  refine psImp (ps_for hp hc hi hg hb hs) fun D σ H ⟨env, s, β, re, rs, q⟩ => ⟨env, s, β, re, rs, ?_⟩
  revert q
  dsimp only
  cases rI env s with
  | exc c fs s1 => exact fun q => ⟨q.1, fun H' β' rs' k => q.2 H' β' σ (re.mono rs k) rs' k⟩
  | bad => exact fun q => q
  | ok w s1 =>
    intro q H1 β1 J rs1 k1 rw1
    refine ⟨fun i m σ H => ∃ env s β, RE M H β s env σ ∧ RS M H β s ∧ RW M H β s w J ∧ PoS M W D H β s (loopW (fun d e s2 => (g d e s2).andThen fun e1 s3 => rB e1 s3) w m i env s), ⟨F, env, s1, β1, re.mono rs k1, rs1, rw1, PoS.later k1 q⟩, ?_⟩
    rintro i m σ H ⟨env, s, β, re, rs, rw', q⟩
    cases m with
    | zero => exact q.elim
    | succ m =>
      simp only [loopW] at q
      cases e : wkAt s i w with
      | none => rw [e] at q; exact q.elim
      | some o =>
        rw [e] at q
        obtain ⟨t1, t2⟩ := rw'.turn rs i e
        cases o with
        | none => exact .inl ⟨t1 rfl, q H β σ re rs (.refl _ _ _)⟩
        | some d =>
          obtain ⟨go, yld⟩ := t2 d rfl
          obtain ⟨N, hN⟩ : ∃ N : L2.St → Hp → Prop, ∀ σ' H', N σ' H' = ∃ env s β, RE M H' β s env σ' ∧ RS M H' β s ∧ RW M H' β s w J ∧ PoS M W D H' β s (loopW (fun d e s2 => (g d e s2).andThen fun e1 s3 => rB e1 s3) w m (i + 1) env s) := ⟨_, fun _ _ => rfl⟩
          refine .inr ⟨go, N, fun σ' H' q => ⟨m, Nat.lt_succ_self _, by rw [hN] at q; exact q⟩, fun x H2 y => ?_⟩
          obtain ⟨rs2, k2, rd2⟩ := yld x H2 y
          have q2 := PoS.later k2 q
          have q3 := PoS.turn (N := N) (g := fun e' s' => loopW (fun d e s2 => (g d e s2).andThen fun e1 s3 => rB e1 s3) w m (i + 1) e' s') q2
            fun e s3 H3 β3 σ3 re3 rs3 k3 q3 => by rw [hN]; exact ⟨e, s3, β3, re3, rs3, (rw'.mono rs k2).mono rs2 k3, q3⟩
          have q4 := PoS.then (Q := fun σ2 H2 => tS M W rB { D with nx := N, ct := N, bk := D.nx } σ2 H2) q3
            fun e s4 H4 β4 σ4 _ re4 rs4 k4 q4 => ⟨e, s4, β4, re4, rs4, q4⟩
          refine ⟨d, env, s, β, { D with nx := N, ct := N, bk := D.nx }, re.mono rs k2, rs2, rd2, ?_⟩
          revert q4
          cases g d env s with
          | nx e' s' => exact fun q4 H' β' σ' re' rs' k' _ => q4 H' β' σ' re' rs' k'
          | _ => exact fun q4 => q4
end
end Dn

end
section
set_option Elab.async false
set_option maxRecDepth 100000
set_option maxHeartbeats 4000000
set_option linter.unusedVariables false
/-! Dn8: stores, raises, tries, comprehensions. -/
namespace Dn
open PySem PySem.Spec PyProof.Rows L2 LamX
def notNm : Expr → Bool
  | .Name _ _ => false
  | _ => true
/-- a store that is not turned about -/
def swNone (tg e : Expr) : Bool := match tg with
  | .Tuple ts _ _ => (match e with
    | .Tuple vs _ _ => !(ts.length == 2 || ts.length == 3) || vs.length != ts.length || ts.any notNm || vs.all (foldedForSure 8)
    | _ => true)
  | .List _ _ => false
  | _ => true
theorem names_less {k : Expr → Option Str} (h : ∀ e, notNm e = true → k e = none) : ∀ {ts : List Expr}, ts.any notNm = true → (ts.filterMap k).length < ts.length
  | [], h' => by cases h'
  | t :: ts, h' => by
    rw [List.any_cons, Bool.or_eq_true] at h'
    have le := List.length_filterMap_le k ts
    by_cases ht : notNm t = true
    · rw [List.filterMap_cons_none (h t ht)]
      show _ < ts.length + 1
      omega
    · have ih := names_less h (h'.resolve_left ht)
      rw [List.filterMap_cons]
      cases k t with
      | none => show _ < ts.length + 1; dsimp only; omega
      | some x => show _ < ts.length + 1; dsimp only; rw [List.length_cons]; omega
theorem swNone_ok {tg e : Expr} {env : PySem.Env} (h : swNone tg e = true) : swappedStores [tg] e env = pure none := by
  cases tg <;> first | (cases h; done) | (cases e <;> first | rfl | skip)
  rename_i ts k p vs k2 p2
  simp only [swNone] at h
  unfold swappedStores
  dsimp only
  split
  · rfl
  · rename_i h1
    split
    · rfl
    · split
      · rfl
      · rename_i h3
        split
        · rfl
        · rename_i h4
          exfalso
          simp only [Bool.or_eq_true, not_or] at h1 h3
          simp only [Bool.or_eq_true] at h
          rcases h with ((h | h) | h) | h
          · exact h1.1.1 h
          · exact h1.1.2 h
          · refine h3.1 ?_
            have := names_less (k := fun x => match x with
              | .Name id pos => if (env.kindOf id == some .local && pos.line == (ts.head?.map (·.pos.line)).getD 0) = true then some id else none
              | _ => none) (fun e he => by cases e <;> first | rfl | cases he) h
            exact bne_iff_ne.mpr (Nat.ne_of_lt this)
          · exact h4 h

theorem names_lessP {k : Expr → Option Str} {p : Expr → Bool} (h : ∀ e, p e = true → k e = none) : ∀ {ts : List Expr}, ts.any p = true → (ts.filterMap k).length < ts.length
  | [], h' => by cases h'
  | t :: ts, h' => by
    rw [List.any_cons, Bool.or_eq_true] at h'
    have le := List.length_filterMap_le k ts
    by_cases ht : p t = true
    · rw [List.filterMap_cons_none (h t ht)]
      show _ < ts.length + 1
      omega
    · have ih := names_lessP h (h'.resolve_left ht)
      rw [List.filterMap_cons]
      cases k t with
      | none => show _ < ts.length + 1; dsimp only; omega
      | some x => show _ < ts.length + 1; dsimp only; rw [List.length_cons]; omega
/-- a name that is no plain local one -/
def offNm (sc : List (Str × NameKind)) : Expr → Bool
  | .Name x _ => !(sc.lookup x == some NameKind.local)
  | _ => true
def swCell (sc : List (Str × NameKind)) (tg e : Expr) : Bool := match tg, e with
  | .Tuple ts _ _, .Tuple _ _ _ => ts.any (offNm sc)
  | _, _ => false
theorem swCell_ok {tg e : Expr} {sc : List (Str × NameKind)} {env : PySem.Env} (hn : env.scope.names = sc) (h : swCell sc tg e = true) : swappedStores [tg] e env = pure none := by
  cases tg <;> first | (cases h; done) | skip
  cases e <;> first | (cases h; done) | skip
  rename_i ts k p vs k2 p2
  simp only [swCell] at h
  unfold swappedStores
  dsimp only
  split
  · rfl
  · split
    · rfl
    · split
      · rfl
      · rename_i h3
        exfalso
        simp only [Bool.or_eq_true, not_or] at h3
        refine h3.1 ?_
        have := names_lessP (p := offNm sc) (k := fun x => match x with
          | .Name id pos => if (env.kindOf id == some .local && pos.line == (ts.head?.map (·.pos.line)).getD 0) = true then some id else none
          | _ => none) (fun e he => by
            cases e <;> first | rfl | skip
            rename_i id q
            have z : (env.kindOf id == some NameKind.local) = false := by
              show (env.scope.names.lookup id == some NameKind.local) = false
              rw [hn]
              simpa [offNm] using he
            dsimp only
            rw [z]
            rfl) h
        exact bne_iff_ne.mpr (Nat.ne_of_lt this)
/-- two or three names, stored from the right -/
def parC (lk : List (Str × NameKind)) (ns : List (Str × Pos)) (vs : List Expr) : Bool :=
  (ns.length == 2 || ns.length == 3) && vs.length == ns.length && (ns.all fun p => decide (lk.lookup p.1 = some .local)) && (ns.all fun p => p.2.line == (ns.head?.map (·.2.line)).getD 0) &&
    ((ns.map (·.1)).eraseDups.length == (ns.map (·.1)).length) && !(vs.any isStar) && !(vs.all (foldedForSure 8)) && !(vs.all (constantsAlone 8))
def nmE (p : Str × Pos) : Expr := .Name p.1 p.2
def nmF (env : PySem.Env) (l : Nat) : Expr → Option Str
  | .Name id pos => if (env.kindOf id == some .local && pos.line == l) = true then some id else none
  | _ => none
theorem names_all {env : PySem.Env} {l : Nat} : ∀ {ns : List (Str × Pos)}, (ns.all fun p => decide (env.scope.names.lookup p.1 = some .local)) = true → (ns.all fun p => p.2.line == l) = true →
    (ns.map nmE).filterMap (nmF env l) = ns.map (·.1)
  | [], _, _ => rfl
  | p :: ns, h, h' => by
    rw [List.all_cons, Bool.and_eq_true] at h h'
    have ih := names_all (env := env) h.2 h'.2
    have e : env.kindOf p.1 = some .local := of_decide_eq_true h.1
    have e2 : nmF env l (nmE p) = some p.1 := by
      show (if (env.kindOf p.1 == some .local && p.2.line == l) = true then some p.1 else none) = some p.1
      rw [e, h'.1]; rfl
    rw [List.map_cons, List.filterMap_cons_some e2, ih]
    rfl
theorem parC_ok {env : PySem.Env} {ns : List (Str × Pos)} {vs : List Expr} {k k2 : Nat} {p1 p2 : Pos} (hk : env.scope.kind = .function) (h : parC env.scope.names ns vs = true) :
    swappedStores [.Tuple (ns.map nmE) k p1] (.Tuple vs k2 p2) env = pure (some (ns.map (·.1))) := by
  unfold parC at h
  simp only [Bool.and_eq_true, Bool.not_eq_true', decide_eq_true_eq] at h
  obtain ⟨⟨⟨⟨⟨⟨⟨h1, h2⟩, h3⟩, h4⟩, h5⟩, h6⟩, h7⟩, h8⟩ := h
  have hl : (((ns.map nmE).head?.map (·.pos.line)).getD 0) = (ns.head?.map (·.2.line)).getD 0 := by cases ns <;> rfl
  have hb : env.blockKind = .function := by unfold Env.blockKind; rw [hk]; rfl
  have nm := names_all (env := env) h3 h4
  unfold swappedStores
  dsimp only
  have key : ∀ (A B C D : Bool) (nn : List Str) (z : Sem Unit), A = false → B = false → nn = ns.map (·.1) → C = false → D = false →
      (if A = true then pure none else if B = true then pure none else if (nn.length != (List.map nmE ns).length || nn.eraseDups.length != nn.length) = true then pure none else if C = true then pure none else (do
        if D = true then z
        pure (some nn) : Sem (Option (List Str)))) = pure (some (ns.map (·.1))) := by
    intro A B C D nn z hA hB hn hC hD
    subst hA hB hn hC hD
    have e : ((ns.map (·.1)).length != (List.map nmE ns).length || (ns.map (·.1)).eraseDups.length != (ns.map (·.1)).length) = false := by
      rw [List.length_map, List.length_map, Bool.or_eq_false_iff]
      refine ⟨by simp, ?_⟩
      have := beq_iff_eq.mp h5
      rw [this]; simp
    rw [e]
    rfl
  refine key _ _ _ _ _ _ ?_ ?_ ?_ h7 h8
  · rw [hb, List.length_map, h1]
    have := beq_iff_eq.mp h2
    rw [this]; simp
  · refine Eq.trans ?_ h6
    refine congrArg (fun f => vs.any f) (funext fun x => ?_)
    cases x <;> rfl
  · rw [← nm, ← hl]
    rfl

section
variable {X : Cx} {M : Kit} {W : WX} {F n : Nat} {G : List Fn} {U : List Nat} {pos p1 p2 p3 : Pos} {a b c tg iter : Expr} {es : List Expr} {ra rb rc : Sem1 D} {rs : Sem1 (List D)} {body : List Stmt} {rB rC : Sem1S} {own : List Nat} {g : D → Env → Sto → SR}
theorem tAsg_of {D : L2.Ends} {σ : L2.St} {H : Hp} (h : tS M W (fun env s => (ra env s).toS env fun d s1 => g d env s1) D σ H) : tAsg (tE M W ra) (tG M W own g) D σ H :=
  tS_E (f := fun env d s1 => g d env s1) h fun env d s1 H1 β1 v re rs rd q => ⟨d, env, s1, β1, D, re, rs, rd, by
    revert q
    cases g d env s1 with
    | nx e' s' => exact fun q H' β' σ' re' rs' k' _ => q H' β' σ' re' rs' k'
    | _ => exact fun q => q⟩
theorem ss_set (hl : isLc a = false) (hw : swNone tg a = true) (hst : isStarT tg = false) (ha : SX X M W a ra) (hg : PG X tg (tG M W own g)) : PS X (.Assign [tg] a pos) (tS M W fun env s => (ra env s).toS env fun d s1 => g d env s1) :=
  psImp (ps_asg ha.pe hg (noSwap hl) (swNone_ok hw) (by cases tg <;> first | rfl | cases hst)) fun D σ H h => tAsg_of h
/-- a list of expressions, told by a statement -/
theorem ss_par {i j : Nat} {x y : Str} {px py pt pt2 : Pos} {kt k2 : Nat} (hc : X.calm = true) (hN : X.N.Nodup) (hi : X.N[i]? = some x) (hj : X.N[j]? = some y) (hij : i ≠ j) (hk : X.env.scope.kind = .function)
    (hx : X.env.scope.names.lookup x = some .local) (hy : X.env.scope.names.lookup y = some .local) (hp : parC X.env.scope.names [(x, px), (y, py)] [a, b] = true) (hs : isStar a = false) (hs2 : isStar b = false) (ha : SX X M W a ra) (hb : SX X M W b rb) :
    PS X (.Assign [.Tuple [.Name x px, .Name y py] kt pt] (.Tuple [a, b] k2 pt2) pos) (tS M W fun env s => (ra env s).toS env fun x s1 => (rb env s1).toS env fun y s2 =>
      if i < env.length ∧ j < env.length then .nx ((env.set i (some x)).set j (some y)) s2 else .bad) := by
  have e2 : starEach [b] X.env = [(false, eval b X.env)] := star_cons hs2
  have e0 : starEach [a, b] X.env = (false, eval a X.env) :: starEach [b] X.env := star_cons hs
  refine psImp (ps_par hc hN hi hj hij hx hy (pa_cons ha.pe (pa_cons hb.pe pa_nil e2) e0) (parC_ok (ns := [(x, px), (y, py)]) hk hp)) fun D σ H ⟨env, s, β, re, rs, q⟩ => ?_
  refine q.E re rs fun d s1 H1 β1 v re1 rs1 k1 rd1 q1 => q1.E re1 rs1 fun e s2 H2 β2 u re2 rs2 k2 rd2 q2 => ?_
  by_cases hl : i < env.length ∧ j < env.length
  · rw [if_pos hl] at q2
    exact ⟨v, u, rfl, q2 H2 β2 _ ((re2.set (RD.mono rs1 k2 d rd1)).set rd2) rs2 (.refl _ _ _)⟩
  · rw [if_neg hl] at q2
    exact q2.elim
theorem ss_par3 {i j k : Nat} {x y z : Str} {px py pz pt pt2 : Pos} {kt k2 : Nat} (hc : X.calm = true) (hN : X.N.Nodup) (hi : X.N[i]? = some x) (hj : X.N[j]? = some y) (hk' : X.N[k]? = some z) (hij : i ≠ j) (hik : i ≠ k) (hjk : j ≠ k) (hk : X.env.scope.kind = .function)
    (hx : X.env.scope.names.lookup x = some .local) (hy : X.env.scope.names.lookup y = some .local) (hz : X.env.scope.names.lookup z = some .local) (hp : parC X.env.scope.names [(x, px), (y, py), (z, pz)] [a, b, c] = true)
    (hs : isStar a = false) (hs2 : isStar b = false) (hs3 : isStar c = false) (ha : SX X M W a ra) (hb : SX X M W b rb) (hc' : SX X M W c rc) :
    PS X (.Assign [.Tuple [.Name x px, .Name y py, .Name z pz] kt pt] (.Tuple [a, b, c] k2 pt2) pos) (tS M W fun env s => (ra env s).toS env fun x s1 => (rb env s1).toS env fun y s2 => (rc env s2).toS env fun z s3 =>
      if i < env.length ∧ j < env.length ∧ k < env.length then .nx (((env.set i (some x)).set j (some y)).set k (some z)) s3 else .bad) := by
  have e3 : starEach [c] X.env = [(false, eval c X.env)] := star_cons hs3
  have e2 : starEach [b, c] X.env = (false, eval b X.env) :: starEach [c] X.env := star_cons hs2
  have e0 : starEach [a, b, c] X.env = (false, eval a X.env) :: starEach [b, c] X.env := star_cons hs
  refine psImp (ps_par3 hc hN hi hj hk' hij hik hjk hx hy hz (pa_cons ha.pe (pa_cons hb.pe (pa_cons hc'.pe pa_nil e3) e2) e0) (parC_ok (ns := [(x, px), (y, py), (z, pz)]) hk hp)) fun D σ H ⟨env, s, β, re, rs, q⟩ => ?_
  refine q.E re rs fun d s1 H1 β1 v re1 rs1 k1 rd1 q1 => q1.E re1 rs1 fun e s2 H2 β2 u re2 rs2 k2 rd2 q2 => q2.E re2 rs2 fun f s3 H3 β3 w re3 rs3 k3 rd3 q3 => ?_
  by_cases hl : i < env.length ∧ j < env.length ∧ k < env.length
  · rw [if_pos hl] at q3
    exact ⟨v, u, w, rfl, q3 H3 β3 _ (((re3.set (RD.mono rs2 k3 d (RD.mono rs1 k2 d rd1))).set (RD.mono rs2 k3 e rd2)).set rd3) rs3 (.refl _ _ _)⟩
  · rw [if_neg hl] at q3
    exact q3.elim

/-! ### name += .. -/
def ipD (M : Kit) (W : WX) (i : Nat) (D : L2.Ends) (σ : L2.St) : TIp := fun v u H Q => ∃ x y env s β, RE M H β s env σ ∧ RS M H β s ∧ RD M H β s x v ∧ RD M H β s y u ∧ (∀ z H2, D.nx (σ.set i (some z)) H2 → Q z H2) ∧ env[i]? = some (some x) ∧ σ[i]? = some (some v) ∧ PoS M W D H β s (augS i .add x y env s)
theorem ip_den {i : Nat} {D : L2.Ends} {σ' : L2.St} : PIp X .Add (ipD M W i D σ') := by
  intro pins s σ H x y v u Q I rx ry h
  obtain ⟨d, e, env, st, β, re, rs, rd, rd2, hQ, he, hs, q⟩ := h
  cases d with
  | int k =>
    cases e <;> first | exact q.elim | skip
    rename_i l
    cases rd; cases rd2
    refine ip_add pins s σ H _ _ v u Q I rx ry ⟨k, l, rfl, rfl, hQ _ _ ?_⟩
    exact q H β _ (re.set (d := .int (k + l)) rfl) rs (.refl _ _ _)
  | lst k =>
    cases e <;> first | exact q.elim | skip
    rename_i j
    simp only [augS] at q
    cases e1 : listOf st (.lst j) with
    | none => rw [e1] at q; exact q.elim
    | some ys =>
      rw [e1] at q
      dsimp only at q
      cases e2 : setL st (.lst k) (fun xs => if lineOk (xs.length + ys.length) then some (xs ++ ys) else none) with
      | none => rw [e2] at q; exact q.elim
      | some s2 =>
        rw [e2] at q
        obtain ⟨k', xs, zs, ek, e3, e4, rfl⟩ := setL_some e2
        cases ek
        obtain ⟨hl, rfl⟩ := ifSome e4
        obtain ⟨a, vs, rfl, hH, r, wr⟩ := rs.cellAt rd e3
        have e5 : ∃ ws, st[j]? = some (.lst ws) ∧ ws = ys := by
          simp only [listOf] at e1
          split at e1
          · rename_i ws h; cases e1; exact ⟨_, h, rfl⟩
          · cases e1
        obtain ⟨ws, e6, rfl⟩ := e5
        obtain ⟨b, us, rfl, hB, r2, _⟩ := rs.cellAt rd2 e6
        obtain ⟨R', k'⟩ := wr (xs ++ ws) (vs ++ us) (r.append r2)
        refine iop_ext pins s σ H _ _ v u Q I rx ry ⟨a, b, vs, us, rfl, rfl, hH, hB, ?_, hQ _ _ ?_⟩
        · rw [← r.length, ← r2.length]; exact of_decide_eq_true hl
        · have z := q _ β σ' (re.mono rs k') R' k'
          have e7 : σ'.set i (some (V.ref a)) = σ' := by
            apply List.ext_getElem?
            intro m
            by_cases hm : m = i
            · subst hm
              rw [List.getElem?_set_self (List.getElem?_eq_some_iff.mp hs).1, hs]
            · rw [List.getElem?_set_ne (Ne.symm hm)]
          rw [e7]
          exact z
  | _ => exact q.elim
theorem ss_aug {i : Nat} {x : Str} (hN : X.N.Nodup) (hi : X.N[i]? = some x) (hx : Loc X.env.scope x) (hf : X.fn x = true ∨ X.env.scope.names.lookup x = some .local) (ha : SX X M W a ra) :
    PS X (.AugAssign (.Name x p1) .Add a pos) (tS M W fun env s => match env[i]? with
      | some (some x) => (ra env s).toS env fun y s1 => augS i .add x y env s1
      | _ => .bad) := by
  refine ⟨fun pins s σ H D I h => ?_⟩
  refine (ps_aug (te := tE M W ra) (ti := ipD M W i D σ) hN hi hx ha.pe ip_den hf).run pins s σ H D I ?_
  obtain ⟨env, st, β, re, rs, q⟩ := h
  dsimp only at q
  cases e : env[i]? with
  | none => rw [e] at q; exact q.elim
  | some o =>
    cases o with
    | none => rw [e] at q; exact q.elim
    | some d =>
      rw [e] at q
      obtain ⟨v, h1, h2⟩ := re.at_ i d e
      refine ⟨v, h1, ?_⟩
      have q : PoS M W D H β st ((ra env st).toS env fun y s1 => augS i .add d y env s1) := q
      exact q.E re rs fun y s1 H1 β1 u re1 rs1 k1 rd1 q1 => ⟨d, y, env, s1, β1, re1, rs1, RD.mono rs k1 d h2, rd1, fun _ _ z => z, e, h1, q1⟩
end
end Dn

end
section
set_option Elab.async false
set_option maxRecDepth 100000
set_option maxHeartbeats 4000000
set_option linter.unusedVariables false
/-! Dn9: comprehensions, raises, tries. -/
namespace Dn
open PySem PySem.Spec PyProof.Rows L2 LamX
abbrev W00 : WX := fun _ _ _ _ => False
section
variable {M : Kit} {H H1 : Hp} {β β1 : List Addr} {s s1 : Sto} {env : Env} {σ : L2.St} {L : Addr}
theorem RE.openZ (R : RS M H β s) (hL : H L = none) (xs : List V) (e : RE M H β s env σ) : RE (M.at (L :: M.Z)) (upd H L (.lst xs)) β s env σ :=
  ⟨e.len, fun i d h => let ⟨v, h1, h2⟩ := e.at_ i d h; ⟨v, h1, RD.openZ R hL xs d h2⟩⟩
theorem RE.fillZ {xs ys : List V} (R : RS M H β s) (hL : H L = some (.lst xs)) (hz : L ∈ M.Z) (e : RE M H β s env σ) : RE M (upd H L (.lst ys)) β s env σ :=
  ⟨e.len, fun i d h => let ⟨v, h1, h2⟩ := e.at_ i d h; ⟨v, h1, RD.fillZ R hL hz d h2⟩⟩
theorem Kp.fill {H0 : Hp} {β0 : List Addr} {s0 : Sto} {o : HO} (h0 : H0 L = none) (k : Kp H0 β0 s0 H β s) : Kp H0 β0 s0 (upd H L o) β s :=
  ⟨k.pre, fun b u q n t => by
    have z := k.kp b u q n t
    exact ⟨by rw [upd_ne (ne_of_none q h0)]; exact z.1, z.2⟩⟩
theorem wipe_wipe {vs : List Nat} : L2.wipe (L2.wipe σ vs) vs = L2.wipe σ vs := by
  apply List.ext_getElem?
  intro j
  rw [wipe_get, wipe_length, wipe_get]
  split <;> rfl
end
section
variable {X : Cx} {M : Kit} {W : WX} {F n : Nat} {G : List Fn} {U : List Nat} {pos p1 p2 p3 : Pos} {a b c tg iter elt : Expr} {es ifs : List Expr} {ra rb rc : Sem1 D} {rs : Sem1 (List D)}
theorem pgEx {α : Type} {t : α → TG} (h : ∀ z, PG X tg (t z)) : PG X tg (fun v σ H Q => ∃ z, t z v σ H Q) := ⟨fun pins s σ H v u Q I r ⟨z, q⟩ => (h z).run pins s σ H v u Q I r q⟩
theorem peEx {α : Type} {t : α → TE} (h : ∀ z, PE X a (t z)) : PE X a (fun σ H Q => ∃ z, t z σ H Q) := ⟨fun pins s σ H Q I ⟨z, q⟩ => (h z).run pins s σ H Q I q⟩
theorem ptsEx {α : Type} {t : α → TT} (h : ∀ z, PTs X ifs (t z)) : PTs X ifs (fun σ H Q => ∃ z, t z σ H Q) := ⟨fun pins s σ H Q I ⟨z, q⟩ => (h z).run pins s σ H Q I q⟩
theorem spts_nil : PTs X [] (tT M W fun _ s => .ok (.bl true) s) := ⟨fun pins s σ H Q I ⟨env, st, β, re, rs, _, q⟩ => pts_nil.run pins s σ H Q I (q H β true rs (.refl _ _ _) rfl)⟩
theorem spts_one (h : SX X M W c rc) : PTs X [c] (tT M W rc) := pts_one h.pt
/-- one turn of a comprehension, by its parts' meanings -/
abbrev lcTurn (g : D → Env → Sto → SR) (rC rE : Sem1 D) (env : Env) : D → Sto → Option (Option D × Sto) := fun d s2 => match g d env s2 with
  | .nx env' s3 => match rC env' s3 with
    | .ok (.bl true) s4 => match rE env' s4 with
      | .ok y s5 => some (some y, s5)
      | _ => none
    | .ok (.bl false) s4 => some (none, s4)
    | _ => none
  | _ => none
theorem sem_lc {scope : Scope} {own : List (Str × Nat)} {g : D → Env → Sto → SR} {rC rE : Sem1 D} {rI : Env → Sto → Res Wk} (vs : List Nat) {σ : L2.St} {H : Hp} {Q : VK}
    (h : tE M W (fun env s => (rI env s).bind fun w s1 => match lcW (lcTurn g rC rE (wipeE env vs)) w F 0 [] s1 with
      | some (xs, s2) => .ok (.rol xs) s2
      | none => .bad) σ H Q) :
    tLc (tI M W rI) (fun v σ H Q => ∃ Z, tG (M.at Z) W00 vs g v σ H Q) (fun σ H Q => ∃ Z, tT (M.at Z) W00 rC σ H Q) (fun σ H Q => ∃ Z, tE (M.at Z) W00 rE σ H Q) vs σ H Q := by
  obtain ⟨env, s, β, re, rs, q⟩ := h
  refine ⟨env, s, β, re, rs, q.step fun w s1 H1 β1 J _ rs1 k1 rw1 q1 => ?_⟩
  intro L hL
  cases e0 : lcW (lcTurn g rC rE (wipeE env vs)) w F 0 [] s1 with
  | none => rw [e0] at q1; exact q1.elim
  | some p =>
    obtain ⟨xs, s2⟩ := p
    rw [e0] at q1
    have q1 : Po M (RD M) H1 β1 s1 (.ok (.rol xs) s2) Q fun c H' => W c none σ H' := q1
    have mem : L ∈ (M.at (L :: M.Z)).Z := List.mem_cons_self
    have sub : ∀ a ∈ M.Z, a ∈ (M.at (L :: M.Z)).Z := fun a ha => List.mem_cons_of_mem _ ha
    obtain ⟨N, hN⟩ : ∃ N : Nat → Nat → Hp → Prop, ∀ i m H, N i m H = ∃ s β acc ds, RE (M.at (L :: M.Z)) H β s env σ ∧ RS (M.at (L :: M.Z)) H β s ∧ RW (M.at (L :: M.Z)) H β s w J ∧ H L = some (.lst acc) ∧
      RDs (M.at (L :: M.Z)) H β s ds acc ∧ Kp H1 β1 s1 H β s ∧ lcW (lcTurn g rC rE (wipeE env vs)) w m i ds s = some (xs, s2) := ⟨_, fun _ _ _ => rfl⟩
    refine ⟨N, ⟨F, ?_⟩, ?_⟩
    · rw [hN]
      exact ⟨s1, β1, [], [], (re.mono rs k1).openZ rs1 hL [], rs1.openZ hL [], rw1.openZ rs1 hL [], upd_same, trivial, .alloc hL, e0⟩
    intro i m H hW
    rw [hN] at hW
    obtain ⟨s, β, acc, ds, re', rs', rw', hA, rd', k', e⟩ := hW
    cases m with
    | zero => cases e
    | succ m =>
      simp only [lcW] at e
      cases e1 : wkAt s i w with
      | none => rw [e1] at e; cases e
      | some o =>
        rw [e1] at e
        obtain ⟨t1, t2⟩ := rw'.turn rs' i e1
        cases o with
        | none =>
          cases e
          exact .inl ⟨t1 rfl, q1 H β _ (rs'.lessZ (Z := M.Z) sub) k' ⟨L, acc, rfl, .inl ⟨.inl hA, (rs'.open_ L mem).2, rs1.freshZ hL⟩, RDs.lessZ (Z := M.Z) sub _ rd'⟩⟩
        | some d =>
          obtain ⟨go, yld⟩ := t2 d rfl
          dsimp only at e
          refine .inr ⟨go, N (i + 1) m, fun H' q => ⟨m, Nat.lt_succ_self _, q⟩, fun x H2 y => ?_⟩
          obtain ⟨rs2, k2, rd2⟩ := yld x H2 y
          have keepL : ∀ {H' β' s'}, Kp H β s H' β' s' → H' L = some (.lst acc) := fun {H' β' s'} k => (k.kp L _ hA (rs'.open_ L mem).2 (fun _ z => nomatch z)).1
          refine ⟨L :: M.Z, d, wipeE env vs, s, β, ⟨fun _ _ => False, fun _ _ => False, fun _ _ => False, fun _ _ => False⟩, (re'.wipe vs).mono rs' k2, rs2, rd2, ?_⟩
          cases e2 : g d (wipeE env vs) s with
          | nx env' s3 =>
            simp only [lcTurn, e2] at e
            intro H3 β3 σ3 re3 rs3 k3 hw
            refine ⟨by rw [hw, wipe_wipe], L :: M.Z, env', s3, β3, re3, rs3, ?_⟩
            have stay : ∀ {H' β' s'}, Kp H3 β3 s3 H' β' s' → RE (M.at (L :: M.Z)) H' β' s' env σ ∧ RW (M.at (L :: M.Z)) H' β' s' w J ∧ RDs (M.at (L :: M.Z)) H' β' s' ds acc ∧ Kp H1 β1 s1 H' β' s' ∧ H' L = some (.lst acc) := fun {H' β' s'} k =>
              ⟨re'.mono rs' ((k2.trans k3).trans k), rw'.mono rs' ((k2.trans k3).trans k), RDs.mono rs' ((k2.trans k3).trans k) ds rd', k'.trans ((k2.trans k3).trans k), keepL ((k2.trans k3).trans k)⟩
            cases e3 : rC env' s3 with
            | ok b s4 =>
              simp only [e3] at e
              cases b <;> first | (cases e; done) | skip
              rename_i b
              refine ⟨fun d' s' z => by cases z; exact ⟨b, rfl⟩, fun H4 β4 b' rs4 k4 eb => ?_⟩
              cases eb
              cases b with
              | false =>
                refine iteF ?_
                rw [hN]
                obtain ⟨x1, x2, x3, x4, x5⟩ := stay k4
                exact ⟨s4, β4, acc, ds, x1, rs4, x2, x5, x3, x4, e⟩
              | true =>
                refine iteT ⟨L :: M.Z, env', s4, β4, re3.mono rs3 k4, rs4, ?_⟩
                cases e4 : rE env' s4 with
                | ok z s5 =>
                  simp only [e4] at e
                  intro H5 β5 v rs5 k5 rd5
                  obtain ⟨x1, x2, x3, x4, x5⟩ := stay (k4.trans k5)
                  by_cases hl : lineLt ds.length = true
                  · rw [if_pos hl] at e
                    refine ⟨acc, x5, by rw [← rd'.length]; exact of_decide_eq_true hl, ?_⟩
                    rw [hN]
                    exact ⟨s5, β5, acc ++ [v], ds ++ [z], x1.fillZ rs5 x5 mem, rs5.fillZ x5 mem, x2.fillZ rs5 x5 mem, upd_same,
                      (RDs.fillZ rs5 x5 mem ds x3).append ⟨RD.fillZ rs5 x5 mem z rd5, trivial⟩, x4.fill hL, e⟩
                  · rw [if_neg hl] at e; cases e
                | exc c fs s' => simp only [e4] at e; cases e
                | bad => simp only [e4] at e; cases e
            | exc c fs s' => simp only [e3] at e; cases e
            | bad => simp only [e3] at e; cases e
          | _ => simp only [lcTurn, e2] at e; cases e
theorem sx_lc {scope : Scope} {own : List (Str × Nat)} {g : D → Env → Sto → SR} {rC rE : Sem1 D} {rI : Env → Sto → Res Wk} (hc : X.calm = true) (hN : X.N.Nodup) (hi : PI X tg iter (tI M W rI)) (ok : BlkOk X.N X.env.scope scope own)
    (hg : ∀ (Z : List Addr) (s : Shared) (H : Hp) (C : Addr) (cl : List (Str × Addr)) (fp : List Addr), PG (X.blk s H scope (compEnvC scope cl C X.env) fp) tg (tG (M.at Z) W00 (own.map (·.2)) g))
    (ht : ∀ (Z : List Addr) (s : Shared) (H : Hp) (C : Addr) (cl : List (Str × Addr)) (fp : List Addr), PTs (X.blk s H scope (compEnvC scope cl C X.env) fp) ifs (tT (M.at Z) W00 rC))
    (he : ∀ (Z : List Addr) (s : Shared) (H : Hp) (C : Addr) (cl : List (Str × Addr)) (fp : List Addr), PE (X.blk s H scope (compEnvC scope cl C X.env) fp) elt (tE (M.at Z) W00 rE)) (hs : ∀ x, foldedSetIterable iter X.env x = pure x) :
    SX X M W (.ListComp elt [⟨tg, iter, ifs, 0⟩] scope pos) (fun env s => (rI env s).bind fun w s1 => match lcW (lcTurn g rC rE (wipeE env (own.map (·.2)))) w F 0 [] s1 with
      | some (xs, s2) => .ok (.rol xs) s2
      | none => .bad) :=
  SX.plain (peImp (pe_lc hc hN hi ok (fun s H C cl fp => pgEx fun Z => hg Z s H C cl fp) (fun s H C cl fp => ptsEx fun Z => ht Z s H C cl fp) (fun s H C cl fp => peEx fun Z => he Z s H C cl fp) hs) fun σ H Q h => sem_lc (scope := scope) (own := own) _ h) (fun _ _ _ z => nomatch z) (fun _ => rfl)
/-- name = a comprehension on one line -/
theorem ss_setLc {i : Nat} {y : Str} {py spos : Pos} {scope : Scope} {own : List (Str × Nat)} {g : D → Env → Sto → SR} {rC rE : Sem1 D} {rI : Env → Sto → Res Wk} (hc : X.calm = true) (hN : X.N.Nodup) (hy : X.N[i]? = some y) (hyl : X.env.scope.names.lookup y = some .local)
    (hsw : swapsWith (.ListComp elt [⟨tg, iter, ifs, 0⟩] scope pos) (some (.Name y py)) spos.line X.env = pure true) (hi : PI X tg iter (tI M W rI)) (ok : BlkOk X.N X.env.scope scope own)
    (hg : ∀ (Z : List Addr) (s : Shared) (H : Hp) (C : Addr) (cl : List (Str × Addr)) (fp : List Addr), PG (X.blk s H scope (compEnvC scope cl C X.env) fp) tg (tG (M.at Z) W00 (own.map (·.2)) g))
    (ht : ∀ (Z : List Addr) (s : Shared) (H : Hp) (C : Addr) (cl : List (Str × Addr)) (fp : List Addr), PTs (X.blk s H scope (compEnvC scope cl C X.env) fp) ifs (tT (M.at Z) W00 rC))
    (he : ∀ (Z : List Addr) (s : Shared) (H : Hp) (C : Addr) (cl : List (Str × Addr)) (fp : List Addr), PE (X.blk s H scope (compEnvC scope cl C X.env) fp) elt (tE (M.at Z) W00 rE)) (hs : ∀ x, foldedSetIterable iter X.env x = pure x) :
    PS X (.Assign [.Name y py] (.ListComp elt [⟨tg, iter, ifs, 0⟩] scope pos) spos) (tS M W fun env s => ((rI env s).bind fun w s1 => match lcW (lcTurn g rC rE (wipeE env (own.map (·.2)))) w F 0 [] s1 with
      | some (xs, s2) => .ok (.rol xs) s2
      | none => .bad).toS env fun d s1 => if i < env.length then .nx (env.set i (some d)) s1 else .bad) := by
  refine psImp (ps_setLc hc hN hy hyl hsw hi ok (fun s H C cl fp => pgEx fun Z => hg Z s H C cl fp) (fun s H C cl fp => ptsEx fun Z => ht Z s H C cl fp) (fun s H C cl fp => peEx fun Z => he Z s H C cl fp) hs) fun D σ H h => ?_
  refine sem_lc (scope := scope) (own := own) (F := F) (own.map (·.2)) (tS_E (ra := fun env s => (rI env s).bind fun w s1 => match lcW (lcTurn g rC rE (wipeE env (own.map (·.2)))) w F 0 [] s1 with
      | some (xs, s2) => .ok (.rol xs) s2
      | none => .bad) (f := fun env d s1 => if i < env.length then .nx (env.set i (some d)) s1 else .bad) h fun env d s1 H1 β1 v re rs rd q => ?_)
  by_cases hl : i < env.length
  · rw [if_pos hl] at q
    exact q H1 β1 _ (re.set rd) rs (.refl _ _ _)
  · rw [if_neg hl] at q
    exact q.elim
end
end Dn

end
section
set_option Elab.async false
set_option maxRecDepth 100000
set_option maxHeartbeats 4000000
set_option linter.unusedVariables false
/-! Dn10: raises, tries. -/
namespace Dn
open PySem PySem.Spec PyProof.Rows L2 LamX
def bmV : List Value := [.type "ValueError", .type "Exception", .type "BaseException", .type "object"]
/-- the refusals that are raised, as the written part has them -/
structure Xc (K : PySem.W.Frag) (mg : Str → Option Value) (M : Kit) : Prop where
  own : ∀ c ∈ M.xs, ∃ C, M.cv c = .ref C ∧ mg (clsName c) = some (.ref C) ∧ PySem.W.excIn K C bmV "ValueError.__new__" = true ∧ PySem.W.keepIn K (.ref C) = true ∧ PySem.W.subIn K (.ref C) (.type "BaseException") = some true ∧ PySem.W.typeIn K (.ref C) = some (.type "type")
  one : ∀ c ∈ M.xs, ∀ k ∈ M.xs, PySem.W.exmOne K (M.cv c) (M.cv k) = some (takesC k c)
/-- constants -/
def constE : Expr → Option D
  | .Constant (.int i) _ _ => some (.int i)
  | .Constant (.bool b) _ _ => some (.bl b)
  | .Constant (.str x) _ _ => some (.str x)
  | .Constant .none _ _ => some .non
  | _ => none
section
variable {X : Cx} {M : Kit} {W : WX} {F n : Nat} {G : List Fn} {U : List Nat} {pos p1 p2 p3 : Pos} {a b c tg iter elt : Expr} {es ifs : List Expr} {ra rb rc : Sem1 D} {rB : Sem1S} {body : List Stmt}
theorem const_pe {d : D} (h : constE a = some d) : ∃ v, PE X a (tC v) ∧ ∀ M H β s, RD M H β s d v := by
  unfold constE at h
  split at h <;> first | (cases h; done) | skip
  · cases h; exact ⟨_, pe_int, fun _ _ _ _ => rfl⟩
  · cases h; exact ⟨_, pe_bl, fun _ _ _ _ => rfl⟩
  · cases h; exact ⟨_, pe_str, fun _ _ _ _ => rfl⟩
  · cases h; exact ⟨_, pe_non, fun _ _ _ _ => rfl⟩
theorem sx_const {d : D} (h : constE a = some d) : SX X M W a (fun _ s => .ok d s) := by
  unfold constE at h
  split at h <;> first | (cases h; done) | skip
  · cases h; exact sx_int
  · cases h; exact sx_bl
  · cases h; exact sx_str
  · cases h; exact sx_non
theorem ss_rai {k : Nat} {m : Str} {j : Nat} (hc : X.calm = true) (tk : L2N.Takes X W) (xc : Xc X.K X.mg M) (hk : k ∈ M.xs) (hg : Gl X (clsName k)) (hdb : (clsName k == ("__debug__" : Str)) = false) :
    PS X (.Raise (some (.Call (.Name (clsName k) p1) [.Constant (.str m) j p2] [] p3)) none pos) (tS M W fun env s => .exc k [] env s) := by
  obtain ⟨C, h1, h2, h3, h4, h5, h6⟩ := xc.own k hk
  refine psImp (L2N.ps_raise hc tk (L2N.pmk_own PySem.F.excBase_ValueError h3 h2 h4 (raises_own h5 h6) hg hdb)) fun D σ H ⟨env, s, β, re, rs, q⟩ => ?_
  rw [← h1]
  exact q.2 H β σ re rs (.refl _ _ _)
theorem ss_tryo {cs : List Nat} {k : Nat} {d : D} {np pos' rp : Pos} (hs : X.stack = X.env :: X.outer) (hf : X.env.frame = some X.env.locals) (tk : L2N.Takes X W) (xc : Xc X.K X.mg M) (hcs : ∀ c ∈ cs, c ∈ M.xs) (hk : k ∈ M.xs) (hg : Gl X (clsName k)) (hdb : (clsName k == ("__debug__" : Str)) = false)
    (hd : constE a = some d) (hb : ∀ (W : WX) (pn : List (Addr × Obj)) (xe : Value → Shared → Prop), L2N.Takes (X.tr pn xe) W → PassesOwn (model X.prog X.w) X.A X.env xe → PSs (X.tr pn xe) body (tS M W rB)) :
    PS X (.Try body [.ExceptHandler (some (.Name (clsName k) np)) none [.Return (some a) rp] pos'] [] [] pos) (tS M W fun env s => match rB env s with
      | .exc c [] e s1 => if c ∈ cs then (if takesC k c then .rt d s1 else .exc c [] e s1) else .bad
      | .exc _ (_ :: _) _ _ => .bad
      | r => r) := by
  obtain ⟨C, h1, h2, _⟩ := xc.own k hk
  have suite : ∀ X : Cx, ∃ v, PSs X [.Return (some a) rp] (tRet (tC v)) ∧ ∀ M H β s, RD M H β s d v := fun X => by
    obtain ⟨v, h, r⟩ := const_pe (X := X) hd
    exact ⟨v, pss_one (ps_ret h), r⟩
  obtain ⟨v, _, rv⟩ := suite X
  have uniq : ∀ {u : V}, (∀ M H β s, RD M H β s d u) → u = v := fun {u} r => by
    have z1 := r M (fun _ => none) [] []
    have z2 := rv M (fun _ => none) [] []
    unfold constE at hd
    split at hd <;> first | (cases hd; done) | (cases hd; cases z1; cases z2; rfl)
  refine psImp (L2N.ps_try_many hs hf tk hb (L2N.HdsOk.cons (c := .ref C) (ts := fun _ _ _ => tRet (tC v)) ⟨hg, hdb, .inl h2⟩ (fun a oe cls dd pn _ _ => ?_) .nil)) fun D σ H ⟨env, s, β, re, rs, q⟩ => ⟨env, s, β, re, rs, ?_⟩
  · obtain ⟨u, h, r⟩ := suite (X.suite a ((a, oe) :: pn))
    rw [uniq r] at h
    exact h
  · revert q
    dsimp only
    cases rB env s with
    | exc c fs e s1 =>
      cases fs with
      | cons f r => exact fun q => q.elim
      | nil =>
        dsimp only
        by_cases hc : c ∈ cs
        · rw [if_pos hc]
          intro q
          refine ⟨rfl, fun H' β' σ' re' rs' k' => ⟨takesC k c, by rw [← h1]; exact xc.one c (hcs c hc) k hk, fun z _ _ => ?_, fun z => ?_⟩⟩
          · rw [z, if_pos rfl] at q
            exact q H' β' v rs' k' (rv _ _ _ _)
          · rw [z, if_neg Bool.false_ne_true] at q
            exact q.2 H' β' σ' re' rs' k'
        · rw [if_neg hc]
          exact fun q => q.elim
    | _ => exact fun q => q
end
end Dn

end
section
set_option Elab.async false
set_option maxRecDepth 100000
set_option maxHeartbeats 4000000
set_option linter.unusedVariables false
/-! Dn11: the check of written code against the language, and what it gives. -/
namespace Dn
open PySem PySem.Spec PyProof.Rows L2 LamX

/-! ### forms -/
def asName : Expr → Option (Str × Pos)
  | .Name x p => some (x, p)
  | _ => none
theorem asName_eq {e : Expr} {x p} (h : asName e = some (x, p)) : e = .Name x p := by cases e <;> first | (cases h; rfl) | cases h
def asBin : Expr → Option (Expr × Operator × Expr × Pos)
  | .BinOp a o b p => some (a, o, b, p)
  | _ => none
theorem asBin_eq {e : Expr} {a o b p} (h : asBin e = some (a, o, b, p)) : e = .BinOp a o b p := by cases e <;> first | (cases h; rfl) | cases h
def asUn : Expr → Option (UnaryOp × Expr × Pos)
  | .UnaryOp o a p => some (o, a, p)
  | _ => none
theorem asUn_eq {e : Expr} {o a p} (h : asUn e = some (o, a, p)) : e = .UnaryOp o a p := by cases e <;> first | (cases h; rfl) | cases h
def asCmp : Expr → Option (Expr × List CmpOp × List Expr × Pos)
  | .Compare a os bs p => some (a, os, bs, p)
  | _ => none
theorem asCmp_eq {e : Expr} {a os bs p} (h : asCmp e = some (a, os, bs, p)) : e = .Compare a os bs p := by cases e <;> first | (cases h; rfl) | cases h
def asBool : Expr → Option (BoolOp × List Expr × Pos)
  | .BoolOp o vs p => some (o, vs, p)
  | _ => none
theorem asBool_eq {e : Expr} {o vs p} (h : asBool e = some (o, vs, p)) : e = .BoolOp o vs p := by cases e <;> first | (cases h; rfl) | cases h
def asIf : Expr → Option (Expr × Expr × Expr × Pos)
  | .IfExp t a b p => some (t, a, b, p)
  | _ => none
theorem asIf_eq {e : Expr} {t a b p} (h : asIf e = some (t, a, b, p)) : e = .IfExp t a b p := by cases e <;> first | (cases h; rfl) | cases h
def asTup : Expr → Option (List Expr × Nat × Pos)
  | .Tuple es k p => some (es, k, p)
  | _ => none
theorem asTup_eq {e : Expr} {es k p} (h : asTup e = some (es, k, p)) : e = .Tuple es k p := by cases e <;> first | (cases h; rfl) | cases h
def asLst : Expr → Option (List Expr × Pos)
  | .List es p => some (es, p)
  | _ => none
theorem asLst_eq {e : Expr} {es p} (h : asLst e = some (es, p)) : e = .List es p := by cases e <;> first | (cases h; rfl) | cases h
def asSub : Expr → Option (Expr × Expr × Pos)
  | .Subscript a i p => some (a, i, p)
  | _ => none
theorem asSub_eq {e : Expr} {a i p} (h : asSub e = some (a, i, p)) : e = .Subscript a i p := by cases e <;> first | (cases h; rfl) | cases h
def asRev : Expr → Option (Expr × Expr × Pos × Pos)
  | .Subscript a (.Slice none none (some k) p1) p => some (a, k, p1, p)
  | _ => none
theorem asRev_eq {e : Expr} {a k p1 p} (h : asRev e = some (a, k, p1, p)) : e = .Subscript a (.Slice none none (some k) p1) p := by
  unfold asRev at h
  split at h
  · cases h; rfl
  · cases h
def asSli : Expr → Option (Option Expr × Option Expr × Pos)
  | .Slice l u none p => some (l, u, p)
  | _ => none
theorem asSli_eq {e : Expr} {l u p} (h : asSli e = some (l, u, p)) : e = .Slice l u none p := by
  cases e <;> first | (cases h; done) | skip
  rename_i l u st p
  cases st <;> first | (cases h; rfl) | cases h
def asCall : Expr → Option (Str × Pos × List Expr × Pos)
  | .Call (.Name x p1) es [] p => some (x, p1, es, p)
  | _ => none
theorem asCall_eq {e : Expr} {x p1 es p} (h : asCall e = some (x, p1, es, p)) : e = .Call (.Name x p1) es [] p := by
  unfold asCall at h
  split at h <;> first | (cases h; rfl) | cases h
def asMeth : Expr → Option (Expr × Str × Pos × List Expr × Pos)
  | .Call (.Attribute o m p2) es [] p => some (o, m, p2, es, p)
  | _ => none
theorem asMeth_eq {e : Expr} {o m p2 es p} (h : asMeth e = some (o, m, p2, es, p)) : e = .Call (.Attribute o m p2) es [] p := by
  unfold asMeth at h
  split at h <;> first | (cases h; rfl) | cases h
def asLc : Expr → Option (Expr × Expr × Expr × List Expr × Scope × Pos)
  | .ListComp elt [⟨tg, iter, ifs, 0⟩] scope p => some (elt, tg, iter, ifs, scope, p)
  | _ => none
theorem asLc_eq {e : Expr} {elt tg iter ifs scope p} (h : asLc e = some (elt, tg, iter, ifs, scope, p)) : e = .ListComp elt [⟨tg, iter, ifs, 0⟩] scope p := by
  unfold asLc at h
  split at h <;> first | (cases h; rfl) | cases h

def asTryl : Expr → Option (Str × Pos × Expr × Scope × Pos × Pos)
  | .Call (.Name x p) [.Lambda ⟨[], [], none, [], [], none, []⟩ body scope lp] [] pos => some (x, p, body, scope, lp, pos)
  | _ => none
theorem asTryl_eq {e : Expr} {x p body scope lp pos} (h : asTryl e = some (x, p, body, scope, lp, pos)) : e = .Call (.Name x p) [.Lambda ⟨[], [], none, [], [], none, []⟩ body scope lp] [] pos := by
  unfold asTryl at h
  split at h <;> first | (cases h; rfl) | cases h

/-! ### the check -/
structure Ck where
  N : List Str
  G : List Fn
  U : List Nat
  tops : List (Str × D)
  xs : List Nat
  lam : Bool
structure Bk where
  sc : List (Str × NameKind)
  fn0 : Bool
def notDb (x : Str) : Bool := !(x == ("__debug__" : Str))
def Bk.gl (B : Bk) (x : Str) : Bool := decide (B.sc.lookup x = some .globalImplicit) && notDb x
def Bk.vis (B : Bk) (x : Str) : Bool := (match B.sc.lookup x with | some .local => true | some .cell => true | some .free => true | _ => false) && notDb x && !(x == ("__classdict__" : Str))
def Bk.tgt (B : Bk) (x : Str) : Bool := match B.sc.lookup x with | some .local => true | some .cell => B.fn0 | _ => false
def Pr.plain : Pr → Bool
  | .isi _ => false
  | _ => true
/-- the names of classes in a tuple: their places -/
def tysAt : List Ty → List Expr → Option (List Pos)
  | [], [] => some []
  | t :: ts, e :: es => match asName e with
    | some (x, p) => if x == t.sn then (tysAt ts es).map (p :: ·) else none
    | none => none
  | _, _ => none
theorem tysAt_eq : ∀ {ts : List Ty} {es : List Expr} {ps : List Pos}, tysAt ts es = some ps → es = tyExprs ts ps ∧ ts.length = ps.length
  | [], [], ps, h => by cases h; exact ⟨rfl, rfl⟩
  | t :: ts, e :: es, ps, h => by
    simp only [tysAt] at h
    cases e1 : asName e with
    | none => rw [e1] at h; cases h
    | some q =>
      obtain ⟨x, p⟩ := q
      rw [e1] at h
      dsimp only at h
      split at h
      · rename_i hx
        obtain ⟨qs, h1, rfl⟩ := Option.map_eq_some_iff.mp h
        obtain ⟨h2, h3⟩ := tysAt_eq h1
        refine ⟨?_, by rw [List.length_cons, List.length_cons, h3]⟩
        rw [asName_eq e1, beq_iff_eq.mp hx, h2]
        rfl
      · cases h
  | [], _ :: _, _, h => by cases h
  | _ :: _, [], _, h => by cases h
def noSet : Expr → Bool
  | .Set _ _ _ => false
  | _ => true
/-- names as they stand within a block -/
def relN (sc names : List (Str × NameKind)) : List (Str × NameKind) := names.map fun p => if (p.2 == .free && decide (sc.lookup p.1 = some .cell)) then (p.1, .cell) else p
def ownPairs (N : List Str) (own : List Nat) : List (Str × Nat) := own.map fun i => ((N[i]?).getD "", i)
def blkS (N : List Str) (sc : List (Str × NameKind)) (scope : Scope) (own : List Nat) : Bool := blkC N ⟨.function, sc, false, false, []⟩ scope (ownPairs N own)
def Bk.blk (B : Bk) (scope : Scope) : Bk := ⟨relN B.sc scope.names, false⟩
mutual
def chkE (C : Ck) (B : Bk) : E → Expr → Bool
  | .var i, e => match asName e with
    | some (x, _) => decide (C.N[i]? = some x) && B.vis x
    | none => false
  | .cst d, e => match constE e with
    | some d' => D.eqb d' d
    | none => false
  | .top x d, e => match asName e with
    | some (y, _) => y == x && B.gl x && (C.tops.any fun p => p.1 == x && D.eqb p.2 d)
    | none => false
  | .bin o a b, e => match asBin e with
    | some (x, op, y, _) => decide (op = o.op) && chkE C B a x && chkE C B b y
    | none => false
  | .neg a, e => match asUn e with
    | some (op, x, _) => decide (op = .USub) && chkE C B a x
    | none => false
  | .nt a, e => match asUn e with
    | some (op, x, _) => decide (op = .Not) && chkE C B a x
    | none => false
  | .cmp o a b, e => match asCmp e with
    | some (x, os, [y], _) => decide (os = [o.op]) && !behindInMarks o.op y && chkE C B a x && chkE C B b y
    | _ => false
  | .cmp2 o1 o2 a b c, e => match asCmp e with
    | some (x, os, [y, z], _) => decide (os = [o1.op, o2.op]) && !lastMarks [o1.op, o2.op] [y, z] && chkE C B a x && chkE C B b y && chkE C B c z
    | _ => false
  | .and a b, e => match asBool e with
    | some (o, x :: y :: rest, p) => decide (o = .And) && chkE C B a x && (match rest with
      | [] => chkE C B b y
      | z :: r => chkE C B b (.BoolOp .And (y :: z :: r) p))
    | _ => false
  | .or a b, e => match asBool e with
    | some (o, x :: y :: rest, p) => decide (o = .Or) && chkE C B a x && (match rest with
      | [] => chkE C B b y
      | z :: r => chkE C B b (.BoolOp .Or (y :: z :: r) p))
    | _ => false
  | .ife t a b, e => match asIf e with
    | some (x, y, z, _) => chkE C B t x && chkE C B a y && chkE C B b z
    | none => false
  | .tup es, e => match asTup e with
    | some (xs, _, _) => chkEs C B es xs
    | none => false
  | .lst _ es, e => match asLst e with
    | some (xs, _) => chkEs C B es xs
    | none => false
  | .ix a i, e => match asSub e with
    | some (x, y, _) => !isSlice y && chkE C B a x && chkE C B i y
    | none => false
  | .rev a k, e => match asRev e with
    | some (x, y, _, _) => chkE C B a x && chkE C B k y
    | none => false
  | .sl a lo hi, e => match asSub e with
    | some (x, y, _) => (match asSli y with
      | some (l, u, _) => chkE C B a x && chkO C B lo l && chkO C B hi u
      | none => false)
    | none => false
  | .call f es, e => match asCall e with
    | some (x, _, args, _) => (match C.G[f]? with
      | some fn => decide (f ∈ C.U) && x == fn.name && B.gl x && !args.isEmpty && (args.all fun a => !isStar a) && chkEs C B es args
      | none => false)
    | none => false
  | .prim p es, e => match asCall e with
    | some (x, _, args, _) => x == p.nm && B.gl x && (match p, es, args with
      | .isi [t], .cons e' .nil, [a, ty] => !isStar a && chkE C B e' a && B.gl t.sn && (match asName ty with
        | some (y, _) => y == t.sn
        | none => false)
      | .isi (t :: u :: ts), .cons e' .nil, [a, ty] => !isStar a && chkE C B e' a && ((t :: u :: ts).all fun t => B.gl t.sn) && lineOk (t :: u :: ts).length && (match asTup ty with
        | some (tys, _, _) => (tysAt (t :: u :: ts) tys).isSome
        | none => false)
      | .isi _, _, _ => false
      | _, .cons e' .nil, [a] => !isStar a && chkE C B e' a
      | _, _, _ => false)
    | none => false
  | .app a b, e => match asMeth e with
    | some (o, m, p2, [x], p) => m == ("append" : Str) && isNm o && (p2.endLine == p.line) && !isStar x && chkE C B a o && chkE C B b x
    | _ => false
  | .ins a i b, e => match asMeth e with
    | some (o, m, p2, [x, y], p) => m == ("insert" : Str) && isNm o && (p2.endLine == p.line) && !isStar x && !isStar y && chkE C B a o && chkE C B i x && chkE C B b y
    | _ => false
  | .bits a, e => match asMeth e with
    | some (o, m, p2, [], p) => m == ("bit_length" : Str) && isNm o && (p2.endLine == p.line) && chkE C B a o
    | _ => false
  | .join a b, e => match asMeth e with
    | some (o, m, p2, [x], p) => m == ("join" : Str) && isNm o && (p2.endLine == p.line) && !isStar x && chkE C B a o && chkE C B b x
    | _ => false
  | .frz a, e => isNm e && chkE C B a e
  | .lc own tg it c el, e => match asLc e with
    | some (elt, tgE, iter, ifs, scope, _) => noSet iter && blkS C.N B.sc scope own && (tgVs tg).all (fun i => decide (i ∈ own)) && chkIt C B tgE it iter && chkT C (B.blk scope) tg tgE &&
        (match ifs with
          | [] => chkO C (B.blk scope) c none
          | [t] => chkO C (B.blk scope) c (some t)
          | _ => false) && chkE C (B.blk scope) el elt
    | none => false
  | .tryl cs e, x => match asTryl x with
    | some (f, _, body, scope, _, _) => C.lam && B.fn0 && f == ("_law_try" : Str) && B.gl f && lamSB ⟨.function, B.sc, false, false, []⟩ scope && (cs.all fun c => decide (c ∈ C.xs) && decide (0 < c) && decide (c < 18)) && chkE C ⟨scope.names, false⟩ e body
    | none => false
def chkO (C : Ck) (B : Bk) : Oe → Option Expr → Bool
  | .no, o => o.isNone
  | .so e, o => match o with
    | some x => chkE C B e x
    | none => false
def chkEs (C : Ck) (B : Bk) : Es → List Expr → Bool
  | .nil, xs => xs.isEmpty
  | .cons e es, xs => match xs with
    | x :: r => !isStar x && chkE C B e x && chkEs C B es r
    | [] => false
def chkIt (C : Ck) (B : Bk) (tg : Expr) : It → Expr → Bool
  | .seq e, x => chkE C B e x
  | .rng e, x => match asCall x with
    | some (f, _, [a], _) => f == ("range" : Str) && B.gl f && !isStar a && chkE C B e a
    | _ => false
  | .rng2 e e2, x => match asCall x with
    | some (f, _, [a, b], _) => f == ("range" : Str) && B.gl f && !isStar a && !isStar b && chkE C B e a && chkE C B e2 b
    | _ => false
  | .enum e, x => match asCall x with
    | some (f, _, [a], _) => f == ("enumerate" : Str) && B.gl f && !isStar a && chkE C B e a && (asTup tg).isSome
    | _ => false
  | .zip e e2, x => match asCall x with
    | some (f, _, [a, b], _) => f == ("zip" : Str) && B.gl f && !isStar a && !isStar b && chkE C B e a && chkE C B e2 b && (asTup tg).isSome
    | _ => false
def chkT (C : Ck) (B : Bk) : Tg → Expr → Bool
  | .nm i, e => match asName e with
    | some (x, _) => decide (C.N[i]? = some x) && B.tgt x
    | none => false
  | .tup ts, e => match asTup e with
    | some (es, _, _) => decide (es.length = ts.len) && chkTs C B ts es
    | none => false
  | .sub a i, e => match asSub e with
    | some (x, y, _) => !isSlice y && chkE C B a x && chkE C B i y
    | none => false
def chkTs (C : Ck) (B : Bk) : Tgs → List Expr → Bool
  | .nil, xs => xs.isEmpty
  | .cons t ts, xs => match xs with
    | x :: r => !isStarT x && chkT C B t x && chkTs C B ts r
    | [] => false
end
end Dn

end
section
set_option Elab.async false
set_option maxRecDepth 100000
set_option maxHeartbeats 4000000
set_option linter.unusedVariables false
/-! Ho0: walking to an end while an exception is handled. -/
namespace Dn
open PySem PySem.Spec PyProof.Rows L2 HotX
section
variable {prog : Program} {w : World} {A : Around} {E : Value → Shared → Prop} {s : Shared} {x1 : Addr}
theorem hot_sb {h h' : Heap} (hot : HotAt A x1 h) (k : ∀ o, h.get? x1 = some o → h'.get? x1 = some o) : HotAt A x1 h' := by
  obtain ⟨e, o, vs, g, d, c⟩ := hot
  exact ⟨e, o, vs, k o g, d, c⟩
theorem hot_ne {h : Heap} (hot : HotAt A x1 h) {b : Addr} {o : Obj} (hb : h.get? b = some o) (n : ∀ vs, o.data = .fields vs → vs[2]? ≠ some .none) : x1 ≠ b := by
  rintro rfl
  obtain ⟨_, o', vs, g, d, c⟩ := hot
  rw [hb] at g
  cases g
  exact n vs d c
theorem new_stop {Q : Value → Shared → Prop} (q : ∀ (h' : Heap) (e : Addr) (oe : Obj) (vs : Array Value), (∀ b o, s.heap.get? b = some o → h'.get? b = some o) → s.heap.get? e = none → h'.get? e = some oe → oe.cls = .type "StopIteration" →
    oe.data = .fields vs → 2 < vs.size → Q (.ref e) { s with heap := h' }) : wpAny (model prog w) A (newExc (.type "StopIteration") []) Q E s := by
  simp only [newExc, newTuple]
  refine wpAny_bind (wpAny_newObj_type ?_ (by size_fits))
  refine wpAny_bind (m := firstArgMember _ _) (wpAny_of_eq (a := (.none : Value)) (by first | rfl | (simp only [firstArgMember]; rfl)) ?_)
  refine wpAny_newObj_type (q _ _ _ _ (fun b o e => Heap.get?_push_of_some _ (Heap.get?_push_of_some _ e)) ?_ (Heap.get?_push_size _ rfl) rfl rfl (by simp; omega)) (by size_fits)
  cases z : s.heap.get? _ with
  | none => rfl
  | some o =>
    have l := Heap.lt_size z
    rw [Heap.size_push] at l
    exact absurd l (Nat.not_lt.mpr (Nat.le_succ _))
theorem raise_stop {α : Type} {e : Addr} {oe : Obj} {vs : Array Value} {Q : α → Shared → Prop} (hot : HotAt A x1 s.heap) (g : s.heap.get? e = some oe) (c : oe.cls = .type "StopIteration") (d : oe.data = .fields vs) (z : 2 < vs.size) (ne : x1 ≠ e)
    (hE : ∀ h', (∀ b o, b ≠ e → s.heap.get? b = some o → h'.get? b = some o) → (∃ o, h'.get? e = some o ∧ o.cls = .type "StopIteration") → E (.ref e) { s with heap := h' }) : wpAny (model prog w) A (raiseNew (.ref e) : Sem α) Q E s :=
  raiseNew_hot hot ne g d z (hE _ (fun b o nb gb => by rw [Heap.get?_update_other _ _ (Ne.symm nb)]; exact gb) ⟨_, Heap.get?_update_self _ g (Obj.isFreed_of_fields (Obj.data_mapFields d _)), (Obj.cls_mapFields ..).trans c⟩)
/-- a list's iterator at its end -/
theorem list_end_hot {jt ll : Addr} {i : Nat} {xs : Array Value} {Q : Value → Shared → Prop} (hot : HotAt A x1 s.heap) (j : s.heap.IsListIter jt ll i) (jl : s.heap.IsList ll xs) (jx : xs[i]? = none)
    (jE : ∀ h' e, Heap.ExtBut jt s.heap h' → (∃ o, h'.get? e = some o ∧ o.cls = .type "StopIteration") → E (.ref e) { s with heap := h' }) :
    wpAny (model prog w) A (Builtin.SmallTypes.nextOf (.ref jt)) Q E s := by
  obtain ⟨oj, gj, cj, dj⟩ := id j
  obtain ⟨oz, gz, _, nz, dz⟩ := jl
  have ne : x1 ≠ jt := hot_ne hot gj fun vs e z => by rw [dj] at e; cases e; simp at z
  unfold Builtin.SmallTypes.nextOf
  refine wpAny_bind (wpAny_callSpecial?_slot (name := Str.ofString "__next__") j.typeIs slot_listiter_next (wpAny_call_entry slot_listiter_next j.typeIs entry_listiter_next ?_ (args_listiter_next _)))
  show wpAny _ _ (field (.ref jt) 0 >>= _) _ _ s
  refine wpAny_bind (wpAny_field gj dj (x := .ref ll) rfl ?_)
  show wpAny _ _ (if (Value.ref ll == Value.none) = true then _ else _) _ _ s
  rw [if_neg (show ¬ ((Value.ref ll == Value.none) = true) from Bool.false_ne_true)]
  show wpAny _ _ (field (.ref jt) 1 >>= _) _ _ s
  refine wpAny_bind (wpAny_field gj dj (x := .int i 0) rfl ?_)
  show wpAny _ _ (seqItems? (.ref ll) >>= _) _ _ s
  refine wpAny_bind (wpAny_seqItems gz dz ?_)
  simp only [Int.toNat_natCast, jx]
  refine wpAny_bind (wpAny_rule (wpAny_bind (wpAny_setField gj dj (by simp) ?_)))
  show wpAny (model prog w) _ (newExc (.type "StopIteration") [] >>= _) _ _ _
  refine wpAny_bind (new_stop fun h' e oe vs k n g c d z => ?_)
  have sb : Heap.SameBut jt s.heap (s.heap.update jt (Obj.mapFields fun x => x.setIfInBounds 0 Value.none)) := Heap.SameBut.update ..
  have h1 := hot_sb hot (h' := h') fun o q => k _ _ ((sb.2 x1 ne).trans q)
  have nxe : x1 ≠ e := fun q => by
    obtain ⟨_, o', _, g', _⟩ := hot
    rw [q] at g' ne
    have := (sb.2 e ne).trans g'
    rw [n] at this
    cases this
  refine raise_stop (s := { s with heap := h' }) ⟨h1.1, h1.2⟩ g c d z nxe fun h2 k2 o2 => ?_
  refine jE h2 e (fun b o nb q => ?_) o2
  have q1 := (sb.2 b nb).trans q
  exact k2 b o (fun z => by rw [z, n] at q1; cases q1) (k b o q1)
/-- zip of two lists at its end -/
theorem zip_end_hot {zz pa po j1 j2 m1 m2 : Addr} {k1 k2 : Nat} {xs ys : Array Value} {u v : Value} {Q : Fin → Shared → Prop} (hot : HotAt A x1 s.heap) (D : ZipApart zz pa po j1 j2 m1 m2)
    (iz : IsZip s.heap zz pa po .none) (ia : IsPair s.heap pa (.ref j1) (.ref j2)) (io : IsPair s.heap po u v)
    (i1 : s.heap.IsListIter j1 m1 k1) (i2 : s.heap.IsListIter j2 m2 k2) (l1 : s.heap.IsList m1 xs) (l2 : s.heap.IsList m2 ys) (over : xs[k1]? = none ∨ ys[k2]? = none)
    (jE : ∀ h' e, (∀ c o, c ≠ zz → c ≠ po → c ≠ j1 → c ≠ j2 → s.heap.get? c = some o → h'.get? c = some o) → (∃ o, h'.get? e = some o ∧ o.cls = .type "StopIteration") → E (.ref e) { s with heap := h' }) :
    wpAny (model prog w) A (Builtin.«zip.__next__» ⟨[.ref zz], []⟩) Q E s := by
  have nz : x1 ≠ zz := hot_ne hot iz fun vs e z => by cases e; simp at z
  have no : x1 ≠ po := hot_ne hot io fun vs e z => by cases e
  have n1 : x1 ≠ j1 := by
    obtain ⟨o, g, _, d⟩ := i1
    exact hot_ne hot g fun vs e z => by rw [d] at e; cases e; simp at z
  show wpAny _ _ (field (.ref zz) 2 >>= _) _ _ _
  refine wpAny_bind (wpAny_field iz rfl (x := .bool false) rfl ?_)
  show wpAny _ _ (field (.ref zz) 3 >>= _) _ _ _
  refine wpAny_bind (wpAny_field iz rfl (x := .ref pa) rfl ?_)
  refine wpAny_bind (wpAny_seqItems ia rfl ?_)
  show wpAny _ _ (Builtin.SmallTypes.ownedTupleIsFree (.ref zz) >>= _) _ _ _
  refine wpAny_bind ?_
  unfold Builtin.SmallTypes.ownedTupleIsFree
  refine wpAny_bind (wpAny_field iz rfl (x := .none) rfl (wpAny_pure ?_))
  rw [if_pos (by rfl)]
  refine wpAny_bind (wpAny_rule (wpAny_bind (wpAny_field iz rfl (x := .ref po) rfl (wpAny_bind (wpAny_setField_rec iz (by simp) fun g₁ z₁ b₁ => ?_)))))
  replace z₁ : IsZip g₁ zz pa po .ellipsis := z₁
  have hot₁ := hot_sb (h' := g₁) hot fun o q => (b₁.2 x1 nz).trans q
  refine wpAny_bind ?_
  simp only [List.zipIdx_cons, List.zipIdx_nil, List.forIn_cons, List.forIn_nil]
  refine wpAny_bind (wpAny_bind (wpAny_onRaise ?_))
  show wpAny _ _ (Builtin.SmallTypes.nextOf (.ref j1) >>= _) _ _ _
  cases ex : xs[k1]? with
  | none =>
    refine wpAny_bind (list_end_hot hot₁ (i1.extBut b₁.extBut D.i1z) (l1.extBut b₁.extBut D.l1z) ex fun g₂ e b₂ ⟨oe, ge, ce⟩ => ?_)
    have z₂ : IsZip g₂ zz pa po .ellipsis := b₂ _ _ D.i1z.symm z₁
    have ne : e ≠ zz := fun q => by subst q; rw [z₂] at ge; cases ge; simp at ce
    exact wpAny_setField_rec z₂ (by simp) fun g₃ _ b₃ => jE g₃ e (fun c o c1 _ c3 _ q => b₃.extBut _ _ c1 (b₂ _ _ c3 (b₁.extBut _ _ c1 q))) ⟨oe, b₃.extBut _ _ ne ge, ce⟩
  | some x =>
    have ey : ys[k2]? = none := over.resolve_left fun h => by rw [ex] at h; cases h
    refine wpAny_bind (wpAny_nextOf_list_item (i1.extBut b₁.extBut D.i1z) (l1.extBut b₁.extBut D.l1z) ex fun g₂ i₂ b₂ => wpAny_pure ?_)
    have o₂ : IsPair g₂ po u v := b₂.extBut _ _ D.TOi1 (b₁.extBut _ _ D.TOz io)
    refine wpAny_bind (wpAny_seqItems o₂ rfl ?_)
    refine wpAny_bind (wpAny_updateSeq_pair o₂ fun g₃ o₃ b₃ => ?_)
    refine wpAny_bind (wpAny_letGo (wpAny_pure ?_))
    refine wpAny_bind (wpAny_bind (wpAny_onRaise ?_))
    show wpAny _ _ (Builtin.SmallTypes.nextOf (.ref j2) >>= _) _ _ _
    have hot₃ := hot_sb (h' := g₃) hot₁ fun o q => (b₃.2 x1 no).trans ((b₂.2 x1 n1).trans q)
    refine wpAny_bind (list_end_hot hot₃ (((i2.extBut b₁.extBut D.i2z).extBut b₂.extBut D.i12.symm).extBut b₃.extBut D.TOi2.symm) (((l2.extBut b₁.extBut D.l2z).extBut b₂.extBut D.l2i1).extBut b₃.extBut D.l2TO) ey fun g₄ e b₄ ⟨oe, ge, ce⟩ => ?_)
    have z₄ : IsZip g₄ zz pa po .ellipsis := b₄ _ _ D.i2z.symm (b₃.extBut _ _ D.TOz.symm (b₂.extBut _ _ D.i1z.symm z₁))
    have ne : e ≠ zz := fun q => by subst q; rw [z₄] at ge; cases ge; simp at ce
    exact wpAny_setField_rec z₄ (by simp) fun g₅ _ b₅ => jE g₅ e (fun c o c1 c2 c3 c4 q => b₅.extBut _ _ c1 (b₄ _ _ c4 (b₃.extBut _ _ c2 (b₂.extBut _ _ c3 (b₁.extBut _ _ c1 q))))) ⟨oe, b₅.extBut _ _ ne ge, ce⟩
theorem zip_over_hot {zz pa po j1 j2 m1 m2 : Addr} {k1 k2 : Nat} {xs ys : Array Value} {u v : Value} {Q : Option Value → Shared → Prop} (hot : HotAt A x1 s.heap) (D : ZipApart zz pa po j1 j2 m1 m2)
    (iz : IsZip s.heap zz pa po .none) (ia : IsPair s.heap pa (.ref j1) (.ref j2)) (io : IsPair s.heap po u v)
    (i1 : s.heap.IsListIter j1 m1 k1) (i2 : s.heap.IsListIter j2 m2 k2) (l1 : s.heap.IsList m1 xs) (l2 : s.heap.IsList m2 ys) (over : xs[k1]? = none ∨ ys[k2]? = none)
    (jQ : ∀ h', (∀ c o, c ≠ zz → c ≠ po → c ≠ j1 → c ≠ j2 → s.heap.get? c = some o → h'.get? c = some o) → Q none { s with heap := h' }) : wpAny (model prog w) A (pyNext (.ref zz)) Q E s := by
  have ty : s.TypeIs (.ref zz) "zip" := ⟨_, iz, rfl⟩
  unfold pyNext
  refine wpAny_bind (wpAny_attempt (wpAny_callSpecial?_slot (name := Str.ofString "__next__") ty F.slot_zip_next (wpAny_call_entry F.slot_zip_next ty F.entry_zip_next (zip_end_hot hot D iz ia io i1 i2 l1 l2 over fun h' e k ⟨o, g, c⟩ => ?_) (F.args_zip_next_1 _))))
  exact wpAny_bind (wpAny_isInstance (T := "StopIteration") (b := true) ⟨o, g, c⟩ isSubtype_stop (wpAny_pure (jQ _ k)))
/-- a tuple's iterator at its end -/
theorem tuple_end_hot {jt ll : Addr} {i : Nat} {xs : Array Value} {Q : Option Value → Shared → Prop} (hot : HotAt A x1 s.heap) (j : IsTupIter s.heap jt ll i) (jl : IsTup s.heap ll xs) (jx : xs[i]? = none)
    (jQ : ∀ h', Heap.ExtBut jt s.heap h' → Q none { s with heap := h' }) : wpAny (model prog w) A (pyNext (.ref jt)) Q E s := by
  obtain ⟨oj, gj, cj, dj⟩ := id j
  obtain ⟨oz, gz, _, nz, dz⟩ := jl
  have ne : x1 ≠ jt := hot_ne hot gj fun vs e z => by rw [dj] at e; cases e; simp at z
  unfold pyNext
  refine wpAny_bind (wpAny_attempt (wpAny_callSpecial?_slot (name := Str.ofString "__next__") j.typeIs slot_tupleiter_next (wpAny_call_entry slot_tupleiter_next j.typeIs entry_tupleiter_next ?_ (args_tupleiter_next _))))
  show wpAny _ _ (field (.ref jt) 0 >>= _) _ _ s
  refine wpAny_bind (wpAny_field gj dj (x := .ref ll) rfl ?_)
  show wpAny _ _ (if (Value.ref ll == Value.none) = true then _ else _) _ _ s
  rw [if_neg (show ¬ ((Value.ref ll == Value.none) = true) from Bool.false_ne_true)]
  show wpAny _ _ (field (.ref jt) 1 >>= _) _ _ s
  refine wpAny_bind (wpAny_field gj dj (x := .int i 0) rfl ?_)
  show wpAny _ _ (seqItems? (.ref ll) >>= _) _ _ s
  refine wpAny_bind (wpAny_seqItems gz dz ?_)
  simp only [Int.toNat_natCast, jx]
  refine wpAny_bind (wpAny_rule (wpAny_bind (wpAny_setField gj dj (by simp) ?_)))
  show wpAny (model prog w) _ (newExc (.type "StopIteration") [] >>= _) _ _ _
  refine wpAny_bind (new_stop fun h' e oe vs k n g c d z => ?_)
  have sb : Heap.SameBut jt s.heap (s.heap.update jt (Obj.mapFields fun x => x.setIfInBounds 0 Value.none)) := Heap.SameBut.update ..
  have h1 := hot_sb hot (h' := h') fun o q => k _ _ ((sb.2 x1 ne).trans q)
  have nxe : x1 ≠ e := fun q => by
    obtain ⟨_, o', _, g', _⟩ := hot
    rw [q] at g' ne
    have := (sb.2 e ne).trans g'
    rw [n] at this
    cases this
  refine raise_stop (s := { s with heap := h' }) ⟨h1.1, h1.2⟩ g c d z nxe fun h2 k2 ⟨o2, g2, c2⟩ => ?_
  refine wpAny_bind (wpAny_isInstance (T := "StopIteration") (b := true) ⟨o2, g2, c2⟩ isSubtype_stop (wpAny_pure (jQ h2 fun b o nb q => ?_)))
  have q1 := (sb.2 b nb).trans q
  exact k2 b o (fun z => by rw [z, n] at q1; cases q1) (k b o q1)
theorem unpackI_hot {t : Addr} {xs : Array Value} {Q : List Value → Shared → Prop} (hot : HotAt A x1 s.heap) (jt : IsTup s.heap t xs) (jQ : ∀ h', Heap.ExtBut s.heap.objs.size s.heap h' → Q xs.toList { s with heap := h' }) :
    wpAny (model prog w) A (unpackItems (.ref t) xs.size none) Q E s := by
  have lt : t ≠ s.heap.objs.size := by obtain ⟨o, g, _⟩ := jt; exact Nat.ne_of_lt (Heap.lt_size g)
  unfold unpackItems notIterableAtAll
  refine wpAny_bind (wpAny_bind (wpAny_specialOf jt.typeIs slot_tuple_iter.lookup (wpAny_pure ?_)))
  rw [if_neg (by simp)]
  refine wpAny_bind (wpAny_holding (iter_tuple jt ?_))
  refine wpAny_bind (wpAny_holding (draw_tuple lt xs.size 0 _ _ ⟨_, Heap.get?_push_size _ rfl, rfl, rfl⟩ (jt.push _) (by omega) fun g₁ i₁ b₁ => ?_))
  have all : List.take xs.size (List.drop 0 xs.toList) = xs.toList := by
    rw [List.drop_zero]; exact List.take_of_length_le (by simp)
  rw [all, if_neg (by simp)]
  have t₁ : IsTup g₁ t xs := (jt.push _).extBut b₁.extBut lt
  have hot₁ := hot_sb (h' := g₁) hot fun o q => (b₁.2 x1 (Nat.ne_of_lt (Heap.lt_size q))).trans (Heap.get?_push_of_some _ q)
  refine wpAny_bind (wpAny_holding (tuple_end_hot hot₁ i₁ t₁ (by simp) fun g₂ b₂ => ?_))
  rw [if_neg (by simp)]
  exact wpAny_pure (jQ g₂ fun b o nb q => b₂ b o nb (b₁.extBut b o nb (Heap.get?_push_of_some _ q)))
theorem assign_hot {env : PySem.Env} {elts : List Expr} {kk : Nat} {pos : Pos} {t : Addr} {xs : Array Value} {Q : Unit → Shared → Prop} (hot : HotAt A x1 s.heap) (jt : IsTup s.heap t xs)
    (jn : (assignEach elts env).length = xs.size) (js : (assignEach elts env).findIdx? (·.1) = none)
    (h : ∀ h', Heap.ExtBut s.heap.objs.size s.heap h' → wpAny (model prog w) A (assignInOrder ((assignEach elts env).map (·.2)) xs.toList) Q E { s with heap := h' }) :
    wpAny (model prog w) A (assign (.Tuple elts kk pos) env (.ref t)) Q E s := by
  rw [assign_Tuple]
  refine wpAny_bind (wpAny_standAt ?_)
  unfold unpack
  rw [jn, js]
  exact wpAny_bind (wpAny_holding (unpackI_hot hot jt h))
end
end Dn

end
section
set_option Elab.async false
set_option maxRecDepth 100000
set_option maxHeartbeats 4000000
set_option linter.unusedVariables false
/-! Ho1: zip, unpacking, comprehensions while an exception is handled. -/
namespace Dn
open PySem PySem.Spec PyProof.Rows L2 HotX
theorem pg_tupH {X : Cx} {es : List Expr} {kk n : Nat} {pos : Pos} {t : TGs} (hc : L2H.HotC X) (h : PGs X es t) (hn : (assignEach es X.env).length = n) (hst : (assignEach es X.env).findIdx? (·.1) = none) : PG X (.Tuple es kk pos) (gTup X.K n t) := by
  refine ⟨fun pins s σ H v u Q I r ⟨a, xs, e1, hq, hl, hw⟩ => ?_⟩
  subst e1
  cases r
  obtain ⟨its, rv, ht, _⟩ := I.tuple hq
  obtain ⟨x1, hot⟩ := hc.at I
  exact assign_hot hot ht (by simp [hn, ← hl, rv.length]) hst fun h' hx => h.run pins _ σ H xs _ Q (I.kept (t' := s.toks) fun b o e => hx b o (Nat.ne_of_lt (Heap.lt_size e)) e) (by simpa using rv) hw
theorem five {c z pa po j1 j2 : Addr} (h : c ∈ [z, pa, po, j1, j2]) : c = z ∨ c = pa ∨ c = po ∨ c = j1 ∨ c = j2 := by simpa using h
theorem turn_zipH {P : Program} {w : World} {K : PySem.W.Frag} {elts : List Expr} {kk : Nat} {tpos : Pos} {a b z pa po j1 j2 : Addr} (D : ZipApart z pa po j1 j2 a b) :
    L2H.TurnH P w K (.Tuple elts kk tpos) (Itz K a b) [z, pa, po, j1, j2] z (fun i h => IsZip h z pa po .none ∧ IsPair h pa (.ref j1) (.ref j2) ∧ (∃ x y, IsPair h po x y) ∧ h.IsListIter j1 a i ∧ h.IsListIter j2 b i) := by
  have T := turn_zip (P := P) (w := w) (K := K) (elts := elts) (kk := kk) (tpos := tpos) D
  refine ⟨T.mem, T.obj, T.keep, ?_, ?_, T.self⟩
  · rintro X rfl rfl rfl hc i pins s σ H E I hf ⟨iz, ia, ⟨x0, y0, io⟩, i1, i2⟩ ⟨xs, ys, x, y, qx, qy, gx, gy⟩
    obtain ⟨us, rv, p, _⟩ := I.list qx
    obtain ⟨ws, rw', p', _⟩ := I.list qy
    obtain ⟨u, hu, ru⟩ := rv.get gx
    obtain ⟨v, hv, rv2⟩ := rw'.get gy
    have zl : z < s.heap.objs.size := Heap.lt_size iz
    refine wpAny_pyNext_zip_item D iz ia io i1 i2 p.isList p'.isList (x := u) (y := v) (by simpa using hu) (by simpa using hv) fun g₁ z₁ o₁ i₁ i₂ gT sz k => ?_
    refine ⟨_, rfl, wpAny_letOwnedTupleGo_zip (s := { s with heap := g₁ }) z₁ fun g₂ z₂ sb => ?_⟩
    have gT2 : g₂.get? s.heap.objs.size = some { cls := .type "tuple", data := .seq #[u, v] } := (sb.2 _ (Nat.ne_of_gt zl)).trans gT
    have nw : ObjOk X.prog X.w (upd H s.heap.objs.size (.tup [x, y])) g₂ s.heap.objs.size (.tup [x, y]) := ⟨by show 2 ≤ sizeLine; decide, [u, v], .cons ru (.cons rv2 .nil), _, gT2, rfl, _, rfl⟩
    have J : Inv X pins σ (upd H s.heap.objs.size (.tup [x, y])) { s with heap := g₂ } := I.turnedNew (t' := s.toks) (ch := [z, pa, po, j1, j2]) (fun c o nc q => by
      simp only [List.mem_cons, List.not_mem_nil, or_false, not_or] at nc
      exact (sb.2 c nc.1).trans (k c o nc.1 nc.2.2.1 nc.2.2.2.1 nc.2.2.2.2 q)) hf (Nat.le_refl _) nw
    refine ⟨.ref s.heap.objs.size, _, J, rfl, ⟨_, x, y, rfl, I.hok.fresh (Nat.le_refl _), rfl, fun l hl => by rw [I.list_inj hl qx]; exact gx, fun l hl => by rw [I.list_inj hl qy]; exact gy⟩, ⟨z₂, ?_, ⟨u, v, (sb.2 _ D.TOz).trans o₁⟩, i₁.at fun o q => (sb.2 _ D.i1z).trans q, i₂.at fun o q => (sb.2 _ D.i2z).trans q⟩, fun c hcm => ?_⟩
    · exact (sb.2 _ D.TIz).trans (k _ _ D.TIz D.TITO D.TIi1 D.TIi2 ia)
    · have lt : c < s.heap.objs.size := by
        rcases five hcm with rfl | rfl | rfl | rfl | rfl
        · exact zl
        · exact Heap.lt_size ia
        · exact Heap.lt_size io
        · obtain ⟨_, e1, _⟩ := i1; exact Heap.lt_size e1
        · obtain ⟨_, e2, _⟩ := i2; exact Heap.lt_size e2
      rw [upd_ne (Nat.ne_of_lt lt)]
      exact (hf c hcm).1
  · rintro X rfl rfl rfl hc i pins s σ H E I hf ⟨iz, ia, ⟨x0, y0, io⟩, i1, i2⟩ ⟨xs, ys, qx, qy, over⟩
    obtain ⟨us, rv, p, _⟩ := I.list qx
    obtain ⟨ws, rw', p', _⟩ := I.list qy
    have l1 := rv.length
    have l2 := rw'.length
    obtain ⟨x1, hot⟩ := hc.at I
    refine zip_over_hot hot D iz ia io i1 i2 p.isList p'.isList (over.imp (fun q => by simp; omega) (fun q => by simp; omega)) fun g k => ⟨rfl, I.turnedL (t' := s.toks) (ch := [z, pa, po, j1, j2]) (fun c o nc q => ?_) hf⟩
    simp only [List.mem_cons, List.not_mem_nil, or_false, not_or] at nc
    exact k c o nc.1 nc.2.2.1 nc.2.2.2.1 nc.2.2.2.2 q
theorem pi_zipH {X : Cx} {e e2 : Expr} {ta : TA} {p pos tpos : Pos} {elts : List Expr} {kk : Nat} (hg : Gl X "zip") (hm : X.mg "zip" = none) (ha : PA X [e, e2] ta)
    (hs : starEach [e, e2] X.env = (false, eval e X.env) :: starEach [e2] X.env) (hpl : (backTo pos (starEach [e2] X.env)).any (·.1) = false) :
    L2H.PIH X (.Tuple elts kk tpos) (.Call (.Name "zip" p) [e, e2] [] pos) (iZip X.K ta) := by
  refine ⟨fun pins s σ H R I h => ?_⟩
  refine Call_ (ld_blt I hg hm PyProof.Rows.boot_zip (PyProof.Rows.callWith_type1 (thn (ha.run pos pins s σ H _ I h) fun us s1 ⟨vs, H1, I1, r1, a, b, xs, ys, ex, qx, qy, q⟩ => ?_) hs hpl))
  subst ex
  obtain _ | ⟨ra, _ | ⟨rb, _ | _⟩⟩ := r1
  cases ra
  cases rb
  obtain ⟨us, rv, p1, _⟩ := I1.list qx
  obtain ⟨ws, rw', p2, _⟩ := I1.list qy
  generalize hN : s1.heap.objs.size = N
  refine call_zip_2 p1.isList p2.isList fun g iz ia io i1 i2 sz k => wpAny_pyIter_zip iz ?_
  rw [hN] at iz ia io i1 i2 ⊢
  have ap := PySem.W.ktu_apart N a b (hN ▸ p1.lt) (hN ▸ p2.lt)
  refine ⟨N + 4, [N + 4, N + 2, N + 3, N, N + 1], _, _, H1, rfl, I1.kept (t' := s1.toks) k, turn_zipH ap, ⟨iz, ia, ⟨_, _, io⟩, i1, i2⟩, fun c hc => ?_, q⟩
  have le : s1.heap.objs.size ≤ c := by
    rw [hN]
    rcases five hc with q | q | q | q | q <;> rw [q]
    · exact Nat.le_add_right N 4
    · exact Nat.le_add_right N 2
    · exact Nat.le_add_right N 3
    · exact Nat.le_refl N
    · exact Nat.le_add_right N 1
  exact I1.fpOk le (I1.hok.fresh le)
/-- a comprehension's block that bears what is pinned -/
abbrev blkH (X : Cx) (s : Shared) (H : Hp) (scope : Scope) (cenv : PySem.Env) (fp : List Addr) : Cx := { X.blk s H scope cenv fp with pn := X.pn }
section
variable {X : Cx}
theorem blk_hot {s : Shared} {H : Hp} {scope : Scope} {cenv : PySem.Env} {fp : List Addr} {σ : L2.St} {pins : List (Addr × Obj)} {s' : Shared} {σ0 : L2.St} (J : Inv X pins σ0 H s) (I : Inv (X.blk s H scope cenv fp) [] σ H s') (hl : s.heap.objs.size ≤ cenv.locals) (k : ∀ b o, s.heap.get? b = some o → s'.heap.get? b = some o) :
    Inv (blkH X s H scope cenv fp) [] σ H s' := by
  refine ⟨⟨I.ok.mod, I.ok.kind, I.ok.glob, I.ok.blt, I.ok.above, I.ok.inj, I.ok.has, I.ok.cab, I.ok.hd, I.ok.frames, I.ok.stk, I.ok.exf, I.ok.bs, I.ok.bsz, I.ok.noex, I.ok.exfs, I.ok.funs, I.ok.frf⟩, I.os, I.bare, I.base, I.loc, I.cell, I.free, I.freeC, fun p hp => ?_, I.hok, I.len⟩
  obtain ⟨g, n, nl, nf, nc⟩ := J.pin p (List.mem_append_left _ (by rw [List.append_nil] at hp; exact hp))
  refine ⟨k _ _ g, n, Nat.ne_of_lt (Nat.lt_of_lt_of_le (Heap.lt_size g) hl), fun z => ?_, nc⟩
  rcases List.mem_cons.mp (J.stkSub p.1 z) with e | e
  · exact nl e
  · exact nf e
theorem pe_lcH {elt tg iter : Expr} {ifs : List Expr} {scope : Scope} {own : List (Str × Nat)} {pos : Pos} {wi : TI} {g : TG} {tt : TT} {te : TE} (hc : L2H.HotC X) (hN : X.N.Nodup) (hi : L2H.PIH X tg iter wi) (ok : BlkOk X.N X.env.scope scope own)
    (hg : ∀ (s : Shared) (H : Hp) (C : Addr) (cl : List (Str × Addr)) (fp : List Addr), PG (blkH X s H scope (compEnvC scope cl C X.env) fp) tg g)
    (ht : ∀ (s : Shared) (H : Hp) (C : Addr) (cl : List (Str × Addr)) (fp : List Addr), PTs (blkH X s H scope (compEnvC scope cl C X.env) fp) ifs tt)
    (he : ∀ (s : Shared) (H : Hp) (C : Addr) (cl : List (Str × Addr)) (fp : List Addr), PE (blkH X s H scope (compEnvC scope cl C X.env) fp) elt te) (hs : ∀ x, foldedSetIterable iter X.env x = pure x) :
    PE X (.ListComp elt [⟨tg, iter, ifs, 0⟩] scope pos) (tLc wi g tt te (own.map (·.2))) := by
  refine ⟨fun pins s σ H Q I h => ?_⟩
  rw [eval_ListComp]
  have has : ∀ y ∈ scope.names, y.2 = .free → ∃ c, X.env.cells.lookup y.1 = some c := fun y hy e => (ok.free y hy e).elim (fun k => I.ok.has _ (.inl k)) fun k => I.ok.has _ (.inr k)
  refine wpAny_comprehension_free (use := none) rfl hs (closure_ok has) ok.kind (fun y hy e => by rw [ok.uniq y hy, e]) (thn (hi.run pins s σ H _ I h) fun xv t1 hx => thn hx fun itv t2 ⟨it, fp, tn, J, H2, e, I2, T, st2, f2, q⟩ => ?_)
  subst e
  refine wpAny_newObj_type (newEnv_comp ?_) (by show 0 ≤ sizeLine; decide)
  generalize hL : t2.heap.objs.size = L
  have nL : H2 L = none := I2.hok.fresh (Nat.le_of_eq hL)
  obtain ⟨Wq, ⟨m0, w0⟩, turn⟩ := q L nL
  generalize ht3 : ({ t2 with heap := t2.heap.push { cls := .type "list", data := .seq ([] : List Value).toArray } } : Shared) = t3
  have e3 : t3.heap = t2.heap.push { cls := .type "list", data := .seq ([] : List Value).toArray } := by rw [← ht3]
  have I3 : Inv X pins σ (upd H2 L (.lst [])) t3 := by
    subst ht3
    refine I2.laid (t' := t2.toks) (fun b o => Heap.get?_push_of_some _) (Nat.le_of_eq hL) ⟨Nat.zero_le _, [], 0, .nil, ?_⟩
    rw [← hL]
    exact Heap.get?_push_size _ rfl
  have f3 : ∀ b ∈ fp, FpOk X pins (upd H2 L (.lst [])) b ∧ b < t3.heap.objs.size := fun b hb => by
    obtain ⟨o, eo, _⟩ := T.obj _ _ st2 b hb
    have lt := Heap.lt_size eo
    refine ⟨⟨?_, (f2 b hb).2⟩, by rw [e3, Heap.size_push]; exact Nat.lt_succ_of_lt lt⟩
    rw [upd_ne (by rw [← hL]; exact Nat.ne_of_lt lt)]
    exact (f2 b hb).1
  have st3 : tn 0 t3.heap := T.keep _ _ _ st2 fun b _ o eo => by rw [e3]; exact Heap.get?_push_of_some _ eo
  have I4 := block_start I3 ok hN f3
  have kp4 : ∀ b o, t3.heap.get? b = some o → (pushCells (t3.heap.push { cls := .type "dict", data := .dict #[] }) scope.names).get? b = some o := fun b o eo => pushCells_keeps _ _ _ _ (Heap.get?_push_of_some _ eo)
  have I5 := blk_hot I3 I4 (Nat.le_refl _) kp4
  have pg := hg t3 (upd H2 L (.lst [])) t3.heap.objs.size (cellsFrom (t3.heap.objs.size + 1) scope.names (cloFrom X.env.cells scope.names [])) fp
  have pt := ht t3 (upd H2 L (.lst [])) t3.heap.objs.size (cellsFrom (t3.heap.objs.size + 1) scope.names (cloFrom X.env.cells scope.names [])) fp
  have pe := he t3 (upd H2 L (.lst [])) t3.heap.objs.size (cellsFrom (t3.heap.objs.size + 1) scope.names (cloFrom X.env.cells scope.names [])) fp
  have loop : codeAny (model X.prog X.w) X.A (.compLoop (.ListComp elt [⟨tg, iter, ifs, 0⟩] scope pos) 0 (.ref it) (.ref L) (compEnvC scope (cellsFrom (t3.heap.objs.size + 1) scope.names (cloFrom X.env.cells scope.names [])) t3.heap.objs.size X.env))
      (compPost (model X.prog X.w) X.A X.xe none (EP X pins σ Q) (.ref L) t3.heap.objs.size) { t3 with heap := pushCells (t3.heap.push { cls := .type "dict", data := .dict #[] }) scope.names } := by
    have nf : ∀ b ∈ fp, (upd H2 L (.lst [])) b = none := fun b hb => (f3 b hb).1.1
    have st4 : tn 0 ({ t3 with heap := pushCells (t3.heap.push { cls := .type "dict", data := .dict #[] }) scope.names } : Shared).heap := T.keep _ _ _ st3 fun b _ o eo => kp4 b o eo
    clear I4 kp4 e3 ht3 st3
    generalize hce : compEnvC scope (cellsFrom (t3.heap.objs.size + 1) scope.names (cloFrom X.env.cells scope.names [])) t3.heap.objs.size X.env = ce at I5 pg pt pe ⊢
    have cL : ce.locals = t3.heap.objs.size := by subst hce; rfl
    generalize upd H2 L (.lst []) = H3 at I3 I5 pg pt pe w0 nf f3
    generalize ({ t3 with heap := pushCells (t3.heap.push { cls := .type "dict", data := .dict #[] }) scope.names } : Shared) = t4 at I5 st4 ⊢
    have stat : ∀ {σ' : L2.St} {H' : Hp} {s' : Shared}, Inv (blkH X t3 H3 scope ce fp) [] σ' H' s' → (∀ b ∈ fp, H' b = none) → ∀ b ∈ fp, FpOk (blkH X t3 H3 scope ce fp) [] H' b := fun {σ' H' s'} I' hn b hb =>
      ⟨hn b hb, (I'.ok.exf b hb).1, I'.ok.exfs b hb, .inl hb, fun x c eo => (I'.ok.exf b hb).2 x c eo, fun p hp => (f3 b hb).1.2.2.2.2.2 p (List.mem_append_left _ (by rw [List.append_nil] at hp; exact hp))⟩
    refine compLoop_any (fun n s' => ∃ i H', Inv (blkH X t3 H3 scope ce fp) [] (wipe σ (own.map (·.2))) H' s' ∧ tn i s'.heap ∧ (∀ b ∈ fp, H' b = none) ∧ Wq i n H') ?_ m0 ⟨0, H3, I5, st4, nf, w0⟩
    rintro n t5 ⟨i, H5, J5, st5, n5, w5⟩
    rcases turn i n H5 w5 with ⟨over, fin⟩ | ⟨go, Nx, hNx, step⟩
    · refine thnF (T.done (blkH X t3 H3 scope ce fp) rfl rfl rfl hc i [] t5 _ H5 (fun _ _ => False) J5 (stat J5 n5) st5 over) fun r t6 ⟨hr, J6⟩ => ?_
      subst hr
      have I7 : Inv X pins σ H5 t6 := I3.call' (ch := fp) J6.os J6.base J6.hok J6.bare fun b hb => ⟨(f3 b hb).1.2.2.2.1, (f3 b hb).1.2.1, (f3 b hb).1.2.2.2.2.1, (f3 b hb).1.2.2.2.2.2⟩
      have nC : H5 t3.heap.objs.size = none := by
        have z : H5 ce.locals = none := J6.free
        rwa [cL] at z
      obtain ⟨m, hn, _⟩ := J6.loc
      have hn : t6.heap.Ns ce.locals m := hn
      rw [cL] at hn
      refine ⟨m, hn, fun h'' sb => ?_⟩
      obtain ⟨g0, g1, g2, g3, g4, g5⟩ := I3.fpOk (Nat.le_refl _) nC
      exact ⟨.ref L, H5, I7.turned (t' := t6.toks) (fun b o hb eo => (sb.2 b hb).trans eo) g0 g1 g3 g4 g5, rfl, fin⟩
    · refine thnF (T.item (blkH X t3 H3 scope ce fp) rfl rfl rfl hc i [] t5 _ H5 (fun _ _ => False) J5 (stat J5 n5) st5 go) fun r t6 ⟨u, hr, h6⟩ => ?_
      subst hr
      refine thnF h6 fun _ t7 ⟨x, H7, J7, r7, y7, st7, n7⟩ => ?_
      refine thnF (pg.run _ t7 _ H7 x u _ (J7.pinned (stat J7 n7) (T.obj _ _ st7)) r7 (step x H7 y7)) fun _ t8 ⟨σ8, H8, J8, hw8, q8⟩ => ?_
      refine thnF (pt.run _ t8 σ8 H8 _ J8 q8) fun b t9 ⟨H9, J9, q9⟩ => ?_
      have back : ∀ {s' : Shared} {H' : Hp}, Inv (blkH X t3 H3 scope ce fp) ([] ++ pinsAt fp t7.heap) σ8 H' s' → Nx H' → ∃ m, m < n ∧ ∃ i H', Inv (blkH X t3 H3 scope ce fp) [] (wipe σ (own.map (·.2))) H' s' ∧ tn i s'.heap ∧ (∀ b ∈ fp, H' b = none) ∧ Wq i m H' := fun {s' H'} J' nx => by
        obtain ⟨m', hm, w'⟩ := hNx H' nx
        have at_ : ∀ b ∈ fp, ∀ o, t7.heap.get? b = some o → s'.heap.get? b = some o ∧ H' b = none := fun b hb o eo =>
          let z := J'.pin (b, o) (List.mem_append_right _ (List.mem_append_right _ (mem_pinsAt hb eo)))
          ⟨z.1, z.2.1⟩
        refine ⟨m', hm, i + 1, H', (J'.unpinned (pins := [])).weak (by rw [← hw8, wipe_length]) (fun j v eo => ?_), T.keep _ _ _ st7 fun b hb o eo => (at_ b hb o eo).1, fun b hb => ?_, w'⟩
        · rw [← hw8] at eo
          exact (wipe_some eo).1
        · obtain ⟨o, eo, _⟩ := T.obj _ _ st7 b hb
          exact (at_ b hb o eo).2
      cases b with
      | false =>
        simp only [Bool.false_eq_true, if_false] at q9 ⊢
        exact back J9 q9
      | true =>
        simp only [if_true] at q9 ⊢
        refine thnF (pe.run _ t9 σ8 H9 _ J9 q9) fun z t10 ⟨yv, H10, J10, r10, acc, gL, lt10, nx⟩ => ?_
        exact app_ok (X := blkH X t3 H3 scope ce fp) J10 gL lt10 r10 fun t11 J11 => back J11 nx
  exact codeAny_compStart_list loop (T.self X.A 0 _ _ _ (T.keep _ _ _ st3 fun b _ o eo => kp4 b o eo) loop)
end
end Dn

end
section
set_option Elab.async false
set_option maxRecDepth 100000
set_option maxHeartbeats 4000000
set_option linter.unusedVariables false
/-! Ho2: the name of a refusal, told in an except suite. -/
namespace Dn
open PySem PySem.Spec PyProof.Rows L2 LamX HotX
theorem relN_eq {sc names : List (Str × NameKind)} {env : PySem.Env} (h1 : env.scope.names = sc) (h2 : env.scope.kind = .function) :
    (names.map fun (n, k) => if (k == NameKind.free && env.scope.kind == ScopeKind.function && env.kindOf n == some NameKind.cell) = true then (n, NameKind.cell) else (n, k)) = relN sc names := by
  unfold relN
  refine List.map_congr_left fun p hp => ?_
  obtain ⟨x, k⟩ := p
  have e : (env.kindOf x == some NameKind.cell) = decide (sc.lookup x = some .cell) := by
    show (env.scope.names.lookup x == some NameKind.cell) = _
    rw [h1]
    by_cases z : sc.lookup x = some NameKind.cell
    · rw [z]; rfl
    · rw [decide_eq_false z]; simpa using z
  show (if (k == NameKind.free && env.scope.kind == ScopeKind.function && env.kindOf x == some NameKind.cell) = true then (x, NameKind.cell) else (x, k)) = _
  rw [h2, e]
  show (if (k == NameKind.free && true && _) = true then _ else _) = _
  rw [Bool.and_true]
/-! ### what is asked of the classes -/
def kinCls (k : Nat) : Str := if k = 18 then "ValueError" else clsName k
def kinBit (c k : Nat) : Bool := k == 18 || k == c
def kinNames : List Str := clsNames.drop 1 ++ [("+" : Str)]
def kinKs : List Nat := [1, 2, 3, 4, 5, 6, 7, 8, 9, 10, 11, 12, 13, 14, 15, 16, 17, 18]
structure KinC (K : PySem.W.Frag) (mg : Str → Option Value) (c : Nat) (D : Addr) : Prop where
  exc : L2.ExcC K D
  cls : ∀ k, 1 ≤ k → k ≤ 17 → ∃ C, mg (clsName k) = some (.ref C) ∧ PySem.W.kitOne K (.ref D) (.ref C) = some (kinBit c k)
  val : mg "ValueError" = none
  sub : PySem.W.kitOne K (.ref D) (.type "ValueError") = some true
  isi : mg "isinstance" = none
  zip : mg "zip" = none
/-- the names that are kept -/
def kept : List Str → List Bool → List Str
  | x :: xs, b :: bs => if b then x :: kept xs bs else kept xs bs
  | _, _ => []
theorem kin_join : ∀ c : Fin 18, 0 < c.val → Txt.join "" (kept kinNames (kinKs.map (kinBit c.val))) = kinStr c.val := by decide +kernel
theorem kin_len : ∀ c : Fin 18, 0 < c.val → ((kept kinNames (kinKs.map (kinBit c.val))).map (·.length)).sum + (kept kinNames (kinKs.map (kinBit c.val))).length * (0 : Nat) ≤ 16777216 := by decide +kernel
theorem kept_take : ∀ (xs : List Str) (bs : List Bool) (i : Nat) (x : Str) (b : Bool), xs[i]? = some x → bs[i]? = some b → kept (xs.take (i + 1)) (bs.take (i + 1)) = kept (xs.take i) (bs.take i) ++ (if b then [x] else [])
  | [], _, _, _, _, h, _ => by simp at h
  | _ :: _, [], _, _, _, _, h => by simp at h
  | y :: xs, d :: bs, 0, x, b, h, h' => by
    simp only [List.getElem?_cons_zero, Option.some.injEq] at h h'
    subst h h'
    cases d <;> simp [kept]
  | y :: xs, d :: bs, i + 1, x, b, h, h' => by
    simp only [List.getElem?_cons_succ] at h h'
    have ih := kept_take xs bs i x b h h'
    cases d
    · simpa [kept] using ih
    · simp only [List.take_succ_cons, kept, if_true, ih, List.cons_append]
theorem kept_len : ∀ (xs : List Str) (bs : List Bool), (kept xs bs).length ≤ xs.length
  | [], _ => by simp [kept]
  | _ :: _, [] => by simp [kept]
  | y :: xs, d :: bs => by
    have ih := kept_len xs bs
    cases d <;> simp [kept] <;> omega
/-! ### the check of the text -/
def isEs : List Nat → List Expr → Bool
  | [], [] => true
  | k :: ks, .Call (.Name f _) [.Name e _, .Name x _] [] _ :: es => f == ("isinstance" : Str) && e == ("e" : Str) && x == kinCls k && decide (1 ≤ k) && decide (k ≤ 18) && isEs ks es
  | _, _ => false
def isTexts : List Str → List Expr → Bool
  | [], [] => true
  | x :: xs, .Constant (.str y) _ _ :: es => y == x && isTexts xs es
  | _, _ => false
def asSetL : Stmt → Option (Str × List Expr)
  | .Assign [.Name x _] (.List es _) _ => some (x, es)
  | _ => none
def asCatL : Stmt → Option (Str × Str × List Expr)
  | .Assign [.Name x _] (.BinOp (.Name y _) .Add (.List es _) _) _ => some (x, y, es)
  | _ => none
theorem asSetL_eq {s : Stmt} {x : Str} {es : List Expr} (h : asSetL s = some (x, es)) : ∃ p q r, s = .Assign [.Name x p] (.List es q) r := by
  unfold asSetL at h
  split at h <;> first | (cases h; exact ⟨_, _, _, rfl⟩) | cases h
theorem asCatL_eq {s : Stmt} {x y : Str} {es : List Expr} (h : asCatL s = some (x, y, es)) : ∃ p q r t u, s = .Assign [.Name x p] (.BinOp (.Name y q) .Add (.List es r) t) u := by
  unfold asCatL at h
  split at h <;> first | (cases h; exact ⟨_, _, _, _, _, rfl⟩) | cases h
def kinN : List Str := ["e", "kinds", "names", "name", "kind"]
def setK (ks : List Nat) (s : Stmt) : Bool := match asSetL s with
  | some (x, es) => x == ("kinds" : Str) && isEs ks es
  | none => false
def catK (ks : List Nat) (s : Stmt) : Bool := match asCatL s with
  | some (x, y, es) => x == ("kinds" : Str) && y == ("kinds" : Str) && isEs ks es
  | none => false
def setT (zs : List Str) (s : Stmt) : Bool := match asSetL s with
  | some (x, es) => x == ("names" : Str) && isTexts zs es
  | none => false
def catT (zs : List Str) (s : Stmt) : Bool := match asCatL s with
  | some (x, y, es) => x == ("names" : Str) && y == ("names" : Str) && isTexts zs es
  | none => false
def lastK (sc : List (Str × NameKind)) : Stmt → Bool
  | .Return (some (.Call (.Attribute (.Constant (.str z) _ _) m p2) [.ListComp (.Name x1 _) [⟨.Tuple [.Name x2 _, .Name x3 _] _ _, .Call (.Name f _) [.Name y1 _, .Name y2 _] [] _, [.Name x4 _], 0⟩] scope _] [] p)) _ =>
    z == ("" : Str) && m == ("join" : Str) && (p2.endLine == p.line) && x1 == ("name" : Str) && x2 == ("name" : Str) && x3 == ("kind" : Str) && x4 == ("kind" : Str) && f == ("zip" : Str) && y1 == ("names" : Str) && y2 == ("kinds" : Str) &&
      blkS kinN sc scope [3, 4] && decide ((relN sc scope.names).lookup ("name" : Str) = some .local) && decide ((relN sc scope.names).lookup ("kind" : Str) = some .local)
  | _ => false
/-- the def's text -/
def kinOk (sc : List (Str × NameKind)) : List Stmt → Bool
  | [s1, s2, s3, s4, s5, s6, s7, s8] => setK [1, 2, 3, 4] s1 && catK [5, 6, 7, 8] s2 && catK [9, 10, 11, 12] s3 && catK [13, 14, 15, 16] s4 && catK [17, 18] s5 && setT (kinNames.take 9) s6 && catT (kinNames.drop 9) s7 && lastK sc s8 &&
      ((["e", "kinds", "names"] : List Str).all fun x => decide (sc.lookup x = some .local)) && decide (sc.lookup ("isinstance" : Str) = some .globalImplicit) && decide (sc.lookup ("zip" : Str) = some .globalImplicit) && (kinKs.all fun k => decide (sc.lookup (kinCls k) = some .globalImplicit))
  | _ => false
/-! ### its parts -/
def ExtH (H H' : Hp) : Prop := ∀ b o, H b = some o → H' b = some o
theorem ExtH.new {H0 H : Hp} (e : ExtH H0 H) {p : Addr} {o : HO} (n : H p = none) : ExtH H0 (upd H p o) := fun b u h => upd_ext n b u (e b u h)
/-- the context of the def's body, while the exception at a is handled -/
structure KinX (X : Cx) (c : Nat) (D a : Addr) (oe : Obj) : Prop where
  N : X.N = kinN
  kc : KinC X.K X.mg c D
  zc : Zc (.ref D) none oe
  fs : ∃ vs, oe.data = .fields vs
  pin : (a, oe) ∈ X.pn
  hot : L2H.HotC X
  kind : X.env.scope.kind = .function
  loc : ∀ x ∈ (["e", "kinds", "names"] : List Str), X.env.scope.names.lookup x = some .local
  gi : Gl X "isinstance"
  gz : Gl X "zip"
  gk : ∀ k ∈ kinKs, Gl X (kinCls k)
theorem kin_isE {X : Cx} {a D : Addr} {oe : Obj} (C : L2.ExcC X.K D) (hz : Zc (.ref D) none oe) (hf : ∃ vs, oe.data = .fields vs) (hp : (a, oe) ∈ X.pn) : CallR X (.builtin "isinstance") (rIsE X.K D a) := by
  rintro pins s σ H xs us Q I r ⟨z, zv, b, rfl, hzv, eb, q⟩
  obtain _ | ⟨ra, _ | ⟨rb, _ | _⟩⟩ := r
  cases ra
  have e1 := hzv _ rb
  subst e1
  obtain ⟨g, _⟩ := I.pin (a, oe) (List.mem_append.mpr (.inl hp))
  obtain ⟨vs, hv⟩ := hf
  have J : PySem.W.InstAt s.heap a oe D none := by
    obtain ⟨oc, od, oda, osl⟩ := oe
    obtain ⟨h1, h2⟩ := hz
    dsimp only at h1 h2 hv
    subst h1 h2 hv
    exact ⟨g, rfl, rfl, trivial⟩
  exact PySem.W.kia_one (PySem.W.handS_kitx_exc C.hg C.hk C.hs C.hd C.ha C.hn C.ht C.hm) I.kIn J eb (fun z => nomatch z) fun tk => ⟨.bl b, H, I.kept (t' := tk) fun _ _ z => z, rfl, q⟩
section
variable {X : Cx} {c : Nat} {D a : Addr} {oe : Obj}
theorem KinX.vis (S : KinX X c D a oe) {x : Str} (h : x ∈ (["e", "kinds", "names"] : List Str)) : Vis X.env.scope x := .inl (S.loc x h)
theorem kin_cls (S : KinX X c D a oe) {k : Nat} (h1 : 1 ≤ k) (h2 : k ≤ 18) {p : Pos} : ∃ (v : V) (u : Value), PE X (.Name (kinCls k) p) (tC v) ∧ (∀ w, RelV v w → w = u) ∧ PySem.W.kitOne X.K (.ref D) u = some (kinBit c k) := by
  have hk : k ∈ kinKs := by unfold kinKs; simp; omega
  have hg := S.gk k hk
  have all : ∀ k ∈ kinKs, (kinCls k == ("__debug__" : Str)) = false := by decide +kernel
  have hd := all k hk
  by_cases e : k = 18
  · subst e
    refine ⟨.ty "ValueError", .type "ValueError", pe_bltn (u := .type "ValueError") hg ?_ (by decide +kernel) rfl (by decide +kernel) hd, fun w r => r, ?_⟩
    · exact S.kc.val
    · rw [S.kc.sub]; rfl
  · obtain ⟨C, m, q⟩ := S.kc.cls k h1 (by omega)
    have ec : kinCls k = clsName k := if_neg e
    rw [ec] at hg hd ⊢
    exact ⟨.ref C, .ref C, pe_glob hg m rfl hd, fun w r => r, q⟩
theorem pa_isEs (S : KinX X c D a oe) : ∀ {ks : List Nat} {es : List Expr}, isEs ks es = true → PA X es (fun σ H Q => σ[0]? = some (some (.ref a)) ∧ Q (ks.map fun k => V.bl (kinBit c k)) H)
  | [], [], _ => paImp pa_nil fun σ H Q q => q.2
  | k :: ks, e :: es, h => by
    unfold isEs at h
    split at h <;> first | (cases h; done) | skip
    · rename_i h0 _; cases h0
    rename_i k' ks' f p1 x p2 y p3 p4 es' h1 h2
    cases h1
    cases h2
    simp only [Bool.and_eq_true, beq_iff_eq, decide_eq_true_eq] at h
    obtain ⟨⟨⟨⟨⟨rfl, rfl⟩, rfl⟩, hk1⟩, hk2⟩, hr⟩ := h
    obtain ⟨v, u, pv, hu, ko⟩ := kin_cls S hk1 hk2 (p := p3)
    have one : PE X (.Call (.Name "isinstance" p1) [.Name "e" p2, .Name (kinCls k) p3] [] p4) (fun σ H Q => σ[0]? = some (some (.ref a)) ∧ Q (.bl (kinBit c k)) H) :=
      peImp (pe_callB (kin_isE S.kc.exc S.zc S.fs S.pin) S.gi S.kc.isi PyProof.Rows.boot_isinstance (pa_cons (pe_var (i := 0) (by rw [S.N]; rfl) (S.vis (by simp))) (pa_cons pv pa_nil))) fun σ H Q q => ⟨_, q.1, v, u, _, rfl, hu, ko, q.2⟩
    exact paImp (pa_cons one (pa_isEs S hr)) fun σ H Q q => ⟨q.1, q.1, q.2⟩
  | [], _ :: _, h => by simp [isEs] at h
  | _ :: _, [], h => by simp [isEs] at h
theorem pa_texts : ∀ {zs : List Str} {es : List Expr}, isTexts zs es = true → PA X es (fun _ H Q => Q (zs.map V.str) H)
  | [], [], _ => pa_nil
  | z :: zs, e :: es, h => by
    unfold isTexts at h
    split at h <;> first | (cases h; done) | skip
    · rename_i h0 _; cases h0
    rename_i z' zs' y j p es' h1 h2
    cases h1
    cases h2
    simp only [Bool.and_eq_true, beq_iff_eq] at h
    obtain ⟨rfl, hr⟩ := h
    exact pa_cons pe_str (pa_texts hr)
  | [], _ :: _, h => by simp [isTexts] at h
  | _ :: _, [], h => by simp [isTexts] at h
/-- what stands in the names: lists -/
structure KSt (a : Addr) (H0 : Hp) (bs ns : Option (List V)) (σ : L2.St) (H : Hp) : Prop where
  len : σ.length = 5
  e : σ[0]? = some (some (.ref a))
  k : ∀ l, bs = some l → ∃ p, σ[1]? = some (some (.ref p)) ∧ H p = some (.lst l)
  n : ∀ l, ns = some l → ∃ p, σ[2]? = some (some (.ref p)) ∧ H p = some (.lst l)
  x : ExtH H0 H
def tK (a : Addr) (bs ns : Option (List V)) (Z : Str) : TS := fun D σ H => ∃ H0, KSt a H0 bs ns σ H ∧ ∀ H', ExtH H0 H' → D.rt (.str Z) H'
theorem KSt.put {H0 : Hp} {bs ns : Option (List V)} {σ : L2.St} {H : Hp} (S : KSt a H0 bs ns σ H) {p : Addr} {l : List V} (n : H p = none) :
    KSt a H0 (some l) ns (σ.set 1 (some (.ref p))) (upd H p (.lst l)) ∧ KSt a H0 bs (some l) (σ.set 2 (some (.ref p))) (upd H p (.lst l)) := by
  have keep : ∀ {q : Addr} {xs : List V}, H q = some (.lst xs) → upd H p (.lst l) q = some (.lst xs) := fun {q xs} h => upd_ext n q _ h
  refine ⟨⟨by rw [List.length_set]; exact S.len, by rw [List.getElem?_set_ne (by decide)]; exact S.e, fun l' e => ?_, fun l' e => ?_, S.x.new n⟩, ⟨by rw [List.length_set]; exact S.len, by rw [List.getElem?_set_ne (by decide)]; exact S.e, fun l' e => ?_, fun l' e => ?_, S.x.new n⟩⟩
  · cases e
    exact ⟨p, by rw [List.getElem?_set_self (by rw [S.len]; decide)], upd_same⟩
  · obtain ⟨q, h1, h2⟩ := S.n l' e
    exact ⟨q, by rw [List.getElem?_set_ne (by decide)]; exact h1, keep h2⟩
  · obtain ⟨q, h1, h2⟩ := S.k l' e
    exact ⟨q, by rw [List.getElem?_set_ne (by decide)]; exact h1, keep h2⟩
  · cases e
    exact ⟨p, by rw [List.getElem?_set_self (by rw [S.len]; decide)], upd_same⟩
theorem KinX.nd (S : KinX X c D a oe) : X.N.Nodup := by rw [S.N]; decide +kernel
theorem ks_setK (S : KinX X c D a oe) {ks : List Nat} {st : Stmt} {rest : List Stmt} {ns : Option (List V)} {Z : Str} (h : setK ks st = true) (hl : ks.length ≤ 100) (hr : PSs X rest (tK a (some (ks.map fun k => V.bl (kinBit c k))) ns Z)) : PSs X (st :: rest) (tK a none ns Z) := by
  unfold setK at h
  cases e : asSetL st with
  | none => rw [e] at h; cases h
  | some q =>
    obtain ⟨x, es⟩ := q
    rw [e] at h
    simp only [Bool.and_eq_true, beq_iff_eq] at h
    obtain ⟨rfl, h⟩ := h
    obtain ⟨p, q, r, rfl⟩ := asSetL_eq e
    refine pssImp (pss_cons (ps_set (i := 1) S.nd (by rw [S.N]; rfl) (.inl (S.loc _ (by simp))) (pe_lst (pa_isEs S h)) rfl (.inr (S.loc _ (by simp)))) hr) fun Dn σ H ⟨H0, st, q⟩ => ?_
    refine ⟨st.e, by rw [List.length_map]; exact Nat.le_trans hl (by decide), fun p np => ⟨H0, (st.put np).1, q⟩⟩
theorem ks_setT (S : KinX X c D a oe) {zs : List Str} {st : Stmt} {rest : List Stmt} {bs : Option (List V)} {Z : Str} (h : setT zs st = true) (hl : zs.length ≤ 100) (hr : PSs X rest (tK a bs (some (zs.map V.str)) Z)) : PSs X (st :: rest) (tK a bs none Z) := by
  unfold setT at h
  cases e : asSetL st with
  | none => rw [e] at h; cases h
  | some q =>
    obtain ⟨x, es⟩ := q
    rw [e] at h
    simp only [Bool.and_eq_true, beq_iff_eq] at h
    obtain ⟨rfl, h⟩ := h
    obtain ⟨p, q, r, rfl⟩ := asSetL_eq e
    refine pssImp (pss_cons (ps_set (i := 2) S.nd (by rw [S.N]; rfl) (.inl (S.loc _ (by simp))) (pe_lst (pa_texts h)) rfl (.inr (S.loc _ (by simp)))) hr) fun Dn σ H ⟨H0, st, q⟩ => ?_
    exact ⟨by rw [List.length_map]; exact Nat.le_trans hl (by decide), fun p np => ⟨H0, (st.put np).2, q⟩⟩
theorem ks_catK (S : KinX X c D a oe) {ks : List Nat} {st : Stmt} {rest : List Stmt} {bs : List V} {ns : Option (List V)} {Z : Str} (h : catK ks st = true) (hl : bs.length + ks.length ≤ 100) (hr : PSs X rest (tK a (some (bs ++ ks.map fun k => V.bl (kinBit c k))) ns Z)) :
    PSs X (st :: rest) (tK a (some bs) ns Z) := by
  unfold catK at h
  cases e : asCatL st with
  | none => rw [e] at h; cases h
  | some q =>
    obtain ⟨x, y, es⟩ := q
    rw [e] at h
    simp only [Bool.and_eq_true, beq_iff_eq] at h
    obtain ⟨⟨rfl, rfl⟩, h⟩ := h
    obtain ⟨p, q, r, t, u, rfl⟩ := asCatL_eq e
    refine pssImp (pss_cons (ps_set (i := 1) S.nd (by rw [S.N]; rfl) (.inl (S.loc _ (by simp))) (pe_op op_catL (pe_var (i := 1) (by rw [S.N]; rfl) (S.vis (by simp))) (pe_lst (pa_isEs S h))) rfl (.inr (S.loc _ (by simp)))) hr) fun Dn σ H ⟨H0, st, q⟩ => ?_
    obtain ⟨p, h1, h2⟩ := st.k _ rfl
    refine ⟨_, h1, st.e, by rw [List.length_map]; exact Nat.le_trans (Nat.le_trans (Nat.le_add_left _ _) hl) (by decide), fun p1 np => ?_⟩
    refine ⟨p, p1, bs, _, rfl, rfl, SqL.of (upd_ext np _ _ h2), SqL.of upd_same, by rw [List.length_map]; exact Nat.le_trans hl (by decide), fun p2 np2 => ⟨H0, ?_, q⟩⟩
    have s1 : KSt a H0 (some bs) ns σ (upd H p1 (.lst (ks.map fun k => V.bl (kinBit c k)))) := ⟨st.len, st.e, fun l e => let ⟨q, a1, a2⟩ := st.k l e; ⟨q, a1, upd_ext np _ _ a2⟩, fun l e => let ⟨q, a1, a2⟩ := st.n l e; ⟨q, a1, upd_ext np _ _ a2⟩, st.x.new np⟩
    exact (s1.put np2).1
theorem ks_catT (S : KinX X c D a oe) {zs : List Str} {st : Stmt} {rest : List Stmt} {bs : Option (List V)} {ns : List V} {Z : Str} (h : catT zs st = true) (hl : ns.length + zs.length ≤ 100) (hr : PSs X rest (tK a bs (some (ns ++ zs.map V.str)) Z)) :
    PSs X (st :: rest) (tK a bs (some ns) Z) := by
  unfold catT at h
  cases e : asCatL st with
  | none => rw [e] at h; cases h
  | some q =>
    obtain ⟨x, y, es⟩ := q
    rw [e] at h
    simp only [Bool.and_eq_true, beq_iff_eq] at h
    obtain ⟨⟨rfl, rfl⟩, h⟩ := h
    obtain ⟨p, q, r, t, u, rfl⟩ := asCatL_eq e
    refine pssImp (pss_cons (ps_set (i := 2) S.nd (by rw [S.N]; rfl) (.inl (S.loc _ (by simp))) (pe_op op_catL (pe_var (i := 2) (by rw [S.N]; rfl) (S.vis (by simp))) (pe_lst (pa_texts h))) rfl (.inr (S.loc _ (by simp)))) hr) fun Dn σ H ⟨H0, st, q⟩ => ?_
    obtain ⟨p, h1, h2⟩ := st.n _ rfl
    refine ⟨_, h1, by rw [List.length_map]; exact Nat.le_trans (Nat.le_trans (Nat.le_add_left _ _) hl) (by decide), fun p1 np => ?_⟩
    refine ⟨p, p1, ns, _, rfl, rfl, SqL.of (upd_ext np _ _ h2), SqL.of upd_same, by rw [List.length_map]; exact Nat.le_trans hl (by decide), fun p2 np2 => ⟨H0, ?_, q⟩⟩
    have s1 : KSt a H0 bs (some ns) σ (upd H p1 (.lst (zs.map V.str))) := ⟨st.len, st.e, fun l e => let ⟨q, a1, a2⟩ := st.k l e; ⟨q, a1, upd_ext np _ _ a2⟩, fun l e => let ⟨q, a1, a2⟩ := st.n l e; ⟨q, a1, upd_ext np _ _ a2⟩, st.x.new np⟩
    exact (s1.put np2).2
end
end Dn

end
section
set_option Elab.async false
set_option maxRecDepth 100000
set_option maxHeartbeats 4000000
set_option linter.unusedVariables false
/-! Ho3: the name of a refusal: the def called. -/
namespace Dn
open PySem PySem.Spec PyProof.Rows L2 LamX HotX
abbrev kinBs (c : Nat) : List Bool := kinKs.map (kinBit c)
abbrev kinBv (c : Nat) : List V := kinKs.map fun k => V.bl (kinBit c k)
theorem kinN_len : kinNames.length = 18 := by decide +kernel
theorem kinB_len (c : Nat) : (kinBs c).length = 18 := by simp [kinKs]
theorem set34 {σ : L2.St} {x y : V} : L2.wipe (((L2.wipe σ [3, 4]).set 3 (some x)).set 4 (some y)) [3, 4] = L2.wipe σ [3, 4] := by
  rw [wipe_set (by simp), wipe_set (by simp), wipe_wipe]
section
variable {X : Cx} {c : Nat} {D a : Addr} {oe : Obj}
theorem pss_last {st : Stmt} {t : TS} (h : PS X st t) : PSs X [st] t := pss_one h
theorem ks_last (S : KinX X c D a oe) (hc0 : 0 < c) (hc : c < 18) {st : Stmt} (h : lastK X.env.scope.names st = true) : PSs X [st] (tK a (some (kinBv c)) (some (kinNames.map V.str)) (kinStr c)) := by
  unfold lastK at h
  split at h <;> first | (cases h; done) | skip
  rename_i z j1 c1 m p2 x1 c3 x2 c4 x3 c5 kk c6 f c7 y1 c8 y2 c9 c10 x4 c11 scope c12 p c14
  simp only [Bool.and_eq_true, beq_iff_eq, decide_eq_true_eq] at h
  obtain ⟨⟨⟨⟨⟨⟨⟨⟨⟨⟨⟨⟨rfl, rfl⟩, hl⟩, rfl⟩, rfl⟩, rfl⟩, rfl⟩, rfl⟩, rfl⟩, rfl⟩, hb⟩, hn⟩, hk⟩ := h
  have bo := blkOk_by hb
  have ok : BlkOk X.N X.env.scope scope [(("name" : Str), 3), (("kind" : Str), 4)] := ⟨bo.kind, bo.uniq, by rw [S.N]; exact bo.ix, fun y hy e => bo.free y hy e, by rw [S.N]; exact bo.own⟩
  have nm : ∀ (s : Shared) (H : Hp) (C : Addr) (cl : List (Str × Addr)) (fp : List Addr), (blkH X s H scope (compEnvC scope cl C X.env) fp).env.scope.names = relN X.env.scope.names scope.names := fun s H C cl fp => relN_eq rfl S.kind
  have l1 : ∀ (s : Shared) (H : Hp) (C : Addr) (cl : List (Str × Addr)) (fp : List Addr), (blkH X s H scope (compEnvC scope cl C X.env) fp).env.scope.names.lookup ("name" : Str) = some .local := fun s H C cl fp => by rw [nm]; exact hn
  have l2 : ∀ (s : Shared) (H : Hp) (C : Addr) (cl : List (Str × Addr)) (fp : List Addr), (blkH X s H scope (compEnvC scope cl C X.env) fp).env.scope.names.lookup ("kind" : Str) = some .local := fun s H C cl fp => by rw [nm]; exact hk
  have n3 : X.N[3]? = some ("name" : Str) := by rw [S.N]; rfl
  have n4 : X.N[4]? = some ("kind" : Str) := by rw [S.N]; rfl
  have pg : ∀ (s : Shared) (H : Hp) (C : Addr) (cl : List (Str × Addr)) (fp : List Addr), PG (blkH X s H scope (compEnvC scope cl C X.env) fp) (.Tuple [.Name "name" c4, .Name "kind" c5] kk c6) (gTup X.K 2 (gCons (gName 3) (gCons (gName 4) gNil))) := fun s H C cl fp =>
    pg_tupH (n := 2) (X := blkH X s H scope (compEnvC scope cl C X.env) fp) S.hot (pgs_cons (pg_name (i := 3) S.nd n3 (.inl (l1 s H C cl fp)) (.inr (l1 s H C cl fp))) (pgs_cons (pg_name (i := 4) S.nd n4 (.inl (l2 s H C cl fp)) (.inr (l2 s H C cl fp))) pgs_nil)) rfl rfl
  have lc := pe_lcH (elt := .Name "name" c3) (tg := .Tuple [.Name "name" c4, .Name "kind" c5] kk c6) (ifs := [.Name "kind" c11]) (pos := c12) S.hot S.nd
    (pi_zipH (p := c7) (pos := c10) (kk := kk) (tpos := c6) (elts := [.Name "name" c4, .Name "kind" c5]) S.gz S.kc.zip (pa_cons (pe_var (i := 2) (pos := c8) (by rw [S.N]; rfl) (S.vis (by simp))) (pa_cons (pe_var (i := 1) (pos := c9) (by rw [S.N]; rfl) (S.vis (by simp))) pa_nil)) rfl rfl)
    ok pg
    (fun s H C cl fp => pts_one (pt_val (pe_var (i := 4) n4 (.inl (l2 s H C cl fp))))) (fun s H C cl fp => pe_var (i := 3) n3 (.inl (l1 s H C cl fp))) (fun x => rfl)
  refine pssImp (pss_last (ps_ret (pe_join (pe_str (x := "") (j := j1) (pos := c1)) lc rfl rfl (beq_iff_eq.mpr hl)))) fun Dn σ H ⟨H0, st, q⟩ => ?_
  obtain ⟨pn, s2, hpn⟩ := st.n _ rfl
  obtain ⟨pk, s1, hpk⟩ := st.k _ rfl
  refine ⟨⟨_, rfl⟩, _, s2, _, s1, pn, pk, _, _, rfl, SqL.of hpn, SqL.of hpk, fun L nL => ?_⟩
  have nn : pn ≠ L := ne_of_none hpn nL
  have nk : pk ≠ L := ne_of_none hpk nL
  have n0 : H0 L = none := by
    cases e : H0 L with
    | none => rfl
    | some o => rw [st.x L o e] at nL; cases nL
  refine ⟨fun i m G => m = 18 - i ∧ i ≤ 18 ∧ G L = some (.lst ((kept (kinNames.take i) ((kinBs c).take i)).map V.str)) ∧ G pn = some (.lst (kinNames.map V.str)) ∧ G pk = some (.lst (kinBv c)) ∧ ExtH H0 G, ⟨18, rfl, by omega, upd_same, by rw [upd_ne nn]; exact hpn, by rw [upd_ne nk]; exact hpk, st.x.new nL⟩, ?_⟩
  rintro i m G ⟨rfl, hi, gL, gn, gk, gx⟩
  by_cases lt : i < 18
  · obtain ⟨x, hx⟩ : ∃ x, kinNames[i]? = some x := ⟨_, List.getElem?_eq_getElem (by rw [kinN_len]; exact lt)⟩
    obtain ⟨b, hbt⟩ : ∃ b, (kinBs c)[i]? = some b := ⟨_, List.getElem?_eq_getElem (by rw [kinB_len]; exact lt)⟩
    have hvx : (kinNames.map V.str)[i]? = some (V.str x) := by rw [List.getElem?_map, hx]; rfl
    have hvb : (kinBv c)[i]? = some (V.bl b) := by
      have e : kinBv c = (kinBs c).map V.bl := by unfold kinBv kinBs; rw [List.map_map]; rfl
      rw [e, List.getElem?_map, hbt]; rfl
    have step := kept_take kinNames (kinBs c) i x b hx hbt
    refine .inr ⟨⟨_, _, _, _, SqL.of gn, SqL.of gk, hvx, hvb⟩, fun G' => G' L = some (.lst ((kept (kinNames.take (i + 1)) ((kinBs c).take (i + 1))).map V.str)) ∧ G' pn = some (.lst (kinNames.map V.str)) ∧ G' pk = some (.lst (kinBv c)) ∧ ExtH H0 G', fun G' ⟨a1, a2, a3, a4⟩ => ⟨18 - (i + 1), by omega, rfl, by omega, a1, a2, a3, a4⟩, ?_⟩
    rintro v G' ⟨T, u, w, rfl, nT, rfl, hu, hw⟩
    have hu := hu _ (SqL.of gn)
    have hw := hw _ (SqL.of gk)
    rw [hvx] at hu
    rw [hvb] at hw
    cases hu
    cases hw
    have len : (L2.wipe σ [3, 4]).length = 5 := by rw [wipe_length]; exact st.len
    refine ⟨T, _, rfl, SqT.of upd_same, rfl, _, _, rfl, _, _, rfl, rfl, set34, ?_⟩
    have g4 : (((L2.wipe σ [3, 4]).set 3 (some (V.str x))).set 4 (some (V.bl b)))[4]? = some (some (V.bl b)) := by
      rw [List.getElem?_set_self (by rw [List.length_set, len]; decide)]
    have g3 : (((L2.wipe σ [3, 4]).set 3 (some (V.str x))).set 4 (some (V.bl b)))[3]? = some (some (V.str x)) := by
      rw [List.getElem?_set_ne (by decide), List.getElem?_set_self (by rw [len]; decide)]
    refine ⟨_, g4, b, rfl, ?_⟩
    have up : ∀ q o, G q = some o → upd G T (.tup [V.str x, V.bl b]) q = some o := upd_ext nT
    cases b with
    | false =>
      refine iteF ⟨?_, up _ _ gn, up _ _ gk, gx.new nT⟩
      rw [step]
      simpa using up _ _ gL
    | true =>
      refine iteT ⟨_, g3, _, up _ _ gL, ?_, ?_, ?_, ?_, fun q o e => ?_⟩
      · have := kept_len (kinNames.take i) ((kinBs c).take i)
        rw [List.length_map]
        have h3 : (kinNames.take i).length ≤ 18 := by rw [List.length_take, kinN_len]; omega
        exact Nat.lt_of_le_of_lt (Nat.le_trans this h3) (by decide)
      · rw [upd_same, step]
        simp
      · rw [upd_ne nn]; exact up _ _ gn
      · rw [upd_ne nk]; exact up _ _ gk
      · rw [upd_ne (ne_of_none e n0)]
        exact up _ _ (gx q o e)
  · obtain rfl : i = 18 := by omega
    have t1 : kinNames.take 18 = kinNames := by decide +kernel
    have t2 : (kinBs c).take 18 = kinBs c := List.take_of_length_le (by rw [kinB_len]; exact Nat.le_refl _)
    rw [t1, t2] at gL
    refine .inl ⟨⟨_, _, SqL.of gn, SqL.of gk, .inl (by rw [List.length_map, kinN_len]; exact Nat.le_refl _)⟩, _, L, kept kinNames (kinBs c), rfl, rfl, .inl (SqL.of gL), kin_len ⟨c, hc⟩ hc0, ?_⟩
    have kj : Txt.join "" (kept kinNames (kinBs c)) = kinStr c := kin_join ⟨c, hc⟩ hc0
    rw [kj]
    exact q G gx
theorem kin_body (S : KinX X c D a oe) (hc0 : 0 < c) (hc : c < 18) {body : List Stmt} (h : kinOk X.env.scope.names body = true) : PSs X body (tK a none none (kinStr c)) := by
  unfold kinOk at h
  split at h <;> first | (cases h; done) | skip
  simp only [Bool.and_eq_true] at h
  obtain ⟨⟨⟨⟨⟨⟨⟨⟨⟨⟨⟨h1, h2⟩, h3⟩, h4⟩, h5⟩, h6⟩, h7⟩, h8⟩, _⟩, _⟩, _⟩, _⟩ := h
  have l := ks_last S hc0 hc h8
  have e : kinNames.map V.str = (kinNames.take 9).map V.str ++ (kinNames.drop 9).map V.str := by rw [← List.map_append, List.take_append_drop]
  rw [e] at l
  have lt : ((kinNames.take 9).map V.str).length + (kinNames.drop 9).length ≤ 100 := by rw [List.length_map, List.length_take, List.length_drop, kinN_len]; decide
  have l7 := ks_catT S h7 lt l
  have l6 := ks_setT S h6 (by rw [List.length_take, kinN_len]; decide) l7
  have e5 : kinBv c = (((([1, 2, 3, 4].map fun k => V.bl (kinBit c k)) ++ [5, 6, 7, 8].map fun k => V.bl (kinBit c k)) ++ [9, 10, 11, 12].map fun k => V.bl (kinBit c k)) ++ [13, 14, 15, 16].map fun k => V.bl (kinBit c k)) ++ [17, 18].map fun k => V.bl (kinBit c k) := rfl
  rw [e5] at l6
  exact ks_setK S h1 (by decide) (ks_catK S h2 (by simp) (ks_catK S h3 (by simp) (ks_catK S h4 (by simp) (ks_catK S h5 (by simp) l6))))
end
/-- the def called while the exception p is handled -/
theorem kin_run {P : Program} {w : World} {K : PySem.W.Frag} {mg : Str → Option Value} {base : Heap} {st : Stmt} {f : Addr} {fd : FuncData} (fu : L2.Fun K "_law_kin" "_law_kin" st f fd) (S : FnScope kinN ["e"] (defScope st)) (hk : kinOk (defScope st).names (defBody st) = true)
    {A : Around} {outer : List PySem.Env} {s : Shared} {H : Hp} {args : Args} {u : Value} {Q : VK} {E : XK} {p : Addr × Obj} {c : Nat} {D : Addr} (hr : L2H.RoomH 1 A) (hot : L2H.Hot1 A p) (hpin : L2H.PinOk outer H s p) (e0 : Env0 P w K mg base A outer s H)
    (hb : BindsTo s fd args ((["e"] : List Str).zip [u])) (r : RelV (.ref p.1) u) (kc : KinC K mg c D) (zc : Zc (.ref D) none p.2) (fs : ∃ vs, p.2.data = .fields vs) (hc0 : 0 < c) (hc : c < 18) (q : ∀ H', ExtH H H' → Q (.str (kinStr c)) H') :
    codeAny (model P w) A (.call (.ref f) args) (CR (L2N.CX P w) outer P w H s Q E) s := by
  obtain ⟨oc, od, kV, doc, pm, an, cdv, ct, osl, rfl, lk, hcd⟩ := fu.ex
  have KX : K.In s.heap := e0.mod.kin.keeps fun b o e => (e0.bs b o e).1
  have lim : s.heap.NoLimit := e0.mod.nolimit.keeps fun b o e => (e0.bs b o e).1
  have knd : ∀ y ∈ (["e"] : List Str).zip [u], (defScope st).names.lookup y.1 = some .local ∨ ((defScope st).names.lookup y.1 = some .cell ∧ ((cellsFrom (s.heap.objs.size + 1) (defScope st).names []).lookup y.1).isSome = true) := fun y hy =>
    (S.par y.1 (by obtain ⟨n, v⟩ := y; exact (List.of_mem_zip hy).1)).imp (fun z => z) fun z => ⟨z, PySem.W.cellsFrom_some _ _ _ (.inl z)⟩
  refine codeAny_call_function hr.depth (KX _ _ lk) rfl S.co S.gen rfl (PySem.W.codeRec_of KX hcd) (hb _ _ _ _ ?_)
  refine wpAny_newFunctionEnv_cells S.kind knd fun env he s1 x => ?_
  subst he
  refine ⟨lim.keeps x.toInCall.keep, codeAny_func ?_⟩
  have all := hk
  unfold kinOk at all
  split at all <;> first | (cases all; done) | skip
  simp only [Bool.and_eq_true, List.all_eq_true, decide_eq_true_eq] at all
  obtain ⟨⟨⟨⟨_, ln⟩, gi⟩, gz⟩, gk⟩ := all
  have ctx : KinX (L2H.cxH (L2N.CX P w) P w K mg base kinN "_law_kin" (defScope st) f cdv A outer s H E p) c D p.1 p.2 := ⟨rfl, kc, zc, fs, List.mem_cons_self, ⟨p, hot, List.mem_cons_self⟩, S.kind, ln, gi, gz, gk⟩
  have body := kin_body ctx hc0 hc hk
  have I : Inv (L2H.cxH (L2N.CX P w) P w K mg base kinN "_law_kin" (defScope st) f cdv A outer s H E p) [] (L2.start kinN [V.ref p.1]) H s1 := L2H.inv_startH S hpin e0 rfl (.cons r .nil) x
  have ks : KSt p.1 H none none (L2.start kinN [V.ref p.1]) H := ⟨rfl, rfl, fun _ z => (nomatch z), fun _ z => (nomatch z), fun _ _ z => z⟩
  refine wpAny_mono (body.run [] s1 (L2.start kinN [V.ref p.1]) H { nx := fun _ _ => False, rt := Q, bk := fun _ _ => False, ct := fun _ _ => False } I ⟨H, ks, fun H' e => q H' e⟩) (fun fl s' hs => ?_) fun e s' hs => hs
  cases fl with
  | ret u =>
    obtain ⟨v, σ', H', J, rv, q⟩ := hs
    exact ⟨v, H', J.os, J.bare, J.base, J.hok, rv, q⟩
  | next =>
    obtain ⟨_, _, _, q⟩ := hs
    exact q.elim
  | brk =>
    obtain ⟨_, _, _, q⟩ := hs
    exact q.elim
  | cont =>
    obtain ⟨_, _, _, q⟩ := hs
    exact q.elim
end Dn

end
section
set_option Elab.async false
set_option maxRecDepth 100000
set_option maxHeartbeats 4000000
set_option linter.unusedVariables false
/-! Ho4: a lambda handed to the def that tries it. -/
namespace Dn
open PySem PySem.Spec PyProof.Rows L2 LamX HotX
/-! ### the state grows, tables change -/
section
variable {M : Kit} {H H1 : Hp} {β : List Addr} {s : Sto}
theorem Kp.extN (e : ExtN H H1) : Kp H β s H1 β s := ⟨fun _ _ q => q, fun b u q n t => ⟨e b u q t, n⟩⟩
theorem RS.extN (R : RS M H β s) (e : ExtN H H1) (t : Tabs M.T H1) : RS M H1 β s :=
  ⟨R.len, fun i a c h1 h2 => (R.cells i a c h1 h2).mono R (.extN e) fun xs q => e _ _ q (fun _ z => nomatch z), R.inj, t, R.open_mono (.extN e)⟩
theorem ExtH.n (e : ExtH H H1) : ExtN H H1 := fun b o h _ => e b o h
end
/-! ### the lambda's context -/
abbrev lamXe (X : Cx) (A : Around) (outer : List PySem.Env) (s : Shared) (H : Hp) (E : XK) (scope : Scope) (f c' : Addr) : Value → Shared → Prop := fun e s' =>
  wpAny (model X.prog X.w) (A.deeper (lamEnv X scope s.heap.objs.size f c')) (leaving (lamEnv X scope s.heap.objs.size f c') e) (fun _ s'' => L2N.CX X.prog X.w outer H s E e s'') (fun e' s'' => L2N.CX X.prog X.w outer H s E e' s'') s'
abbrev lamCxN (X : Cx) (A : Around) (outer : List PySem.Env) (s : Shared) (H : Hp) (E : XK) (scope : Scope) (f c' : Addr) : Cx := (lamCx X A outer s H E scope f c').tr [] (lamXe X A outer s H E scope f c')
section
variable {X : Cx} {pins : List (Addr × Obj)} {σ : L2.St} {H : Hp} {s : Shared}
/-- door(), in the def that was handed the lambda -/
theorem pe_door {CXg : CXT} {Eg : XK} {Ng : List Str} {qg : Str} {sg : Scope} {g f c' : Addr} {cdg pm ctv : Value} {params : Arguments} {body : Expr} {scope : Scope} {k i : Nat} {nm : Str} {pn : List (Addr × Obj)} {xe : Value → Shared → Prop} {W : WX} {E : XK} {tb : TE} {p1 p2 : Pos}
    (I : Inv X pins σ H s) (L : LamS X.env.scope scope) (hf : s.heap.get? f = some (PySem.W.kla_obj "<lambda>" (X.env.qual ++ "<lambda>") params body scope (cloFrom X.env.cells scope.names []) pm c' ctv)) (hfn : H f = none) (hfr : f ∉ frs X.stack)
    (hbind : bindArgs (PySem.W.kla_fn "<lambda>" (X.env.qual ++ "<lambda>") params body scope (cloFrom X.env.cells scope.names []) pm (.ref c') ctv) ⟨[], []⟩ = pure [])
    (tk : L2N.Takes ((cxOf CXg X.prog X.w X.K X.mg X.base Ng qg sg g cdg X.A X.stack s H Eg).tr pn xe) W) (hW : ∀ cls d σ' H', σ'.length = Ng.length → E cls d H' → W cls d σ' H') (hr : Room (k + 1) (X.A.deeper (envOfC qg sg s.heap.objs.size g cdg)))
    (hbody : ∀ (A : Around) (outer : List PySem.Env) (s : Shared) (H : Hp), Room k (A.deeper (lamEnv X scope s.heap.objs.size f c')) → PE (lamCxN X A outer s H E scope f c') body tb)
    (hN : Ng[i]? = some nm) (hv : Vis sg nm) (hd : (nm == ("__debug__" : Str)) = false) (hcd : (nm == ("__classdict__" : Str)) = false) :
    PE ((cxOf CXg X.prog X.w X.K X.mg X.base Ng qg sg g cdg X.A X.stack s H Eg).tr pn xe) (.Call (.Name nm p1) [] [] p2)
      (fun σZ HZ Q => σZ[i]? = some (some (.ref f)) ∧ HZ c' = some (CodeO c' (X.env.qual ++ "<lambda>")) ∧ tb σ HZ Q) := by
  refine ⟨fun pz sz σz HZ Q IZ ⟨hs, hc, ht⟩ => ?_⟩
  refine wpAny_Call_Name_kw (thn ((pe_var (pos := p1) (i := i) hN hv hd hcd).run pz sz σz HZ (fun v G => v = .ref f ∧ G = HZ) IZ ⟨.ref f, hs, rfl, rfl⟩) ?_)
  rintro u s1 ⟨v, G, I1, r1, rfl, rfl⟩
  obtain rfl : u = .ref f := r1
  have kept : s1.heap.get? f = some _ := I1.base.keep f _ hf hfn hfr (fun z => nomatch (show f ∈ ([] : List Addr) from z))
  refine PySem.W.callWith_F0 ⟨_, _, _, _, kept⟩ ?_
  have un : Un (frs X.stack) [] H G s.heap s1.heap := I1.base
  obtain ⟨⟨oc, vs, t, goc, dc, vc⟩, _, _⟩ := I1.hok c' _ hc
  have run : codeAny (model X.prog X.w) (X.A.deeper (envOfC qg sg s.heap.objs.size g cdg)) (.call (.ref f) ⟨[], []⟩) (CR (L2N.CX X.prog X.w) (envOfC qg sg s.heap.objs.size g cdg :: X.stack) X.prog X.w G s1 Q E) s1 := by
    refine PySem.W.kla_callFunE hr.depth kept rfl L.co L.gen rfl ⟨c', oc, vs, t, rfl, goc, dc, vc⟩ ?_
    rw [hbind]
    refine wpAny_pure (wpAny_newFunctionEnv (fun y hy => (L.own y hy).2) (fun y hy => absurd hy (by simp)) (fun h₁ hns sb => ⟨I1.nolimit.fresh _ sb, ?_⟩) L.kind)
    have kp : ∀ b o, s1.heap.get? b = some o → h₁.get? b = some o := fun b o e => sb.extBut b o (Nat.ne_of_lt (Heap.lt_size e)) (Heap.get?_push_of_some _ e)
    have J0 : Inv (lamCx X (X.A.deeper (envOfC qg sg s.heap.objs.size g cdg)) (envOfC qg sg s.heap.objs.size g cdg :: X.stack) s1 G E scope f c') [] σ G { s1 with heap := h₁, toks := s1.toks + ([] : List (Str × Value)).length } := lam_start2 I L I1.env0 hr.hd un hns kp
    have J := J0.toTry (lamXe X (X.A.deeper (envOfC qg sg s.heap.objs.size g cdg)) (envOfC qg sg s.heap.objs.size g cdg :: X.stack) s1 G E scope f c')
    show codeAny _ _ (.expr body (lamEnv X scope s1.heap.objs.size f c')) _ _
    refine PySem.W.kla_codeExpr (wpAny_mono ((hbody _ _ s1 G (hr.deeper _)).run [] _ _ G Q J ht) (fun v s' hq => ?_) fun e s' hq => hq)
    obtain ⟨x, H', J', rv, q⟩ := hq
    exact ⟨x, H', J'.os, J'.bare, J'.base, J'.hok, rv, q⟩
  refine wpAny_call (codeAny_mono run fun r s' hq => ?_)
  cases r with
  | error e => exact tk e s' (L2N.XE.of_call I1 (fun cls d H' h => hW cls d _ H' I1.len h) hq)
  | ok fl =>
    cases fl with
    | ret u => exact I1.after hq
    | next => exact False.elim hq
    | brk => exact False.elim hq
    | cont => exact False.elim hq
end
/-! ### the def that tries -/
def tryN : List Str := ["door", "found", "e"]
def tryOk (sc : List (Str × NameKind)) : List Stmt → Bool
  | [.Assign [.Name f0 _] (.Constant .none _ _) _, .Try [.Assign [.Name f1 _] (.Tuple [.Constant (.str z) _ _, .Call (.Name d _) [] [] _] _ _) _] [.ExceptHandler (some (.Name x _)) (some e1) [.Assign [.Name f2 _] (.Call (.Name k _) [.Name e2 _] [] _) _] _] [] [] _, .Return (some (.Name f3 _)) _] =>
    f0 == ("found" : Str) && f1 == ("found" : Str) && f2 == ("found" : Str) && f3 == ("found" : Str) && z == ("told" : Str) && d == ("door" : Str) && x == ("ArmError" : Str) && e1 == ("e" : Str) && e2 == ("e" : Str) && k == ("_law_kin" : Str) &&
      ((["door", "found", "e"] : List Str).all fun x => decide (sc.lookup x = some .local)) && decide (sc.lookup ("ArmError" : Str) = some .globalImplicit) && decide (sc.lookup ("_law_kin" : Str) = some .globalImplicit)
  | _ => false
/-- what a law's text has for it -/
structure TryF (K : PySem.W.Frag) (mg : Str → Option Value) (M : Kit) : Prop where
  tr : ∃ g fd st, L2.Fun K "_law_try" "_law_try" st g fd ∧ FnScope tryN ["door"] (defScope st) ∧ tryOk (defScope st).names (defBody st) = true ∧ mg "_law_try" = some (.ref g) ∧ Binds K fd ["door"] []
  kin : ∃ f fd st, L2.Fun K "_law_kin" "_law_kin" st f fd ∧ FnScope kinN ["e"] (defScope st) ∧ kinOk (defScope st).names (defBody st) = true ∧ mg "_law_kin" = some (.ref f) ∧ Binds K fd ["e"] []
  arm : ∃ C, mg "ArmError" = some (.ref C) ∧ ∀ c ∈ M.xs, 0 < c → c < 18 → PySem.W.exmOne K (M.cv c) (.ref C) = some true
  kc : ∀ c ∈ M.xs, 0 < c → c < 18 → ∃ D, M.cv c = .ref D ∧ KinC K mg c D
section
variable {X : Cx} {M : Kit}
/-- _law_kin(e), in the suite -/
theorem pe_kin {a : Addr} {oe : Obj} {pn : List (Addr × Obj)} {cls : Value} {d : Option Addr} {p1 p2 p3 : Pos} (T : TryF X.K X.mg M) (hr : Room 1 X.A) (hz : L2N.Zn cls d oe) (hf : ∃ vs, oe.data = .fields vs) (hN : X.N[2]? = some ("e" : Str)) (hl : X.env.scope.names.lookup ("e" : Str) = some .local) (hg : Gl X "_law_kin") :
    PE (X.suite a ((a, oe) :: pn)) (.Call (.Name "_law_kin" p1) [.Name "e" p2] [] p3) (fun σ H Q => σ[2]? = some (some (.ref a)) ∧ d = none ∧ ∃ c, c ∈ M.xs ∧ 0 < c ∧ c < 18 ∧ cls = M.cv c ∧ ∀ H', ExtH H H' → Q (.str (kinStr c)) H') := by
  obtain ⟨fk, fd, st, fu, S, ok, hm, hb⟩ := T.kin
  refine ⟨fun pins s σ H Q I ⟨he, hd, c, hc, c0, c18, ec, q⟩ => ?_⟩
  subst hd
  obtain ⟨D, eD, kc⟩ := T.kc c hc c0 c18
  rw [eD] at ec
  subst ec
  refine wpAny_Call_Name_kw (ld_glob I hg hm ?_ (by decide))
  have args : PA (X.suite a ((a, oe) :: pn)) [.Name "e" p2] (tCons (tVar 2) tNil) := pa_cons (pe_var (i := 2) hN (.inl hl)) pa_nil
  refine PySem.W.callWith_K (h₀ := X.base) I.ok.mod.kin fu.kp (thn (args.run p3 pins s σ H (fun vs G => vs = [V.ref a] ∧ G = H) I ⟨_, he, rfl, rfl⟩) ?_) rfl rfl
  rintro us s1 ⟨vs, G, I1, r1, rfl, rfl⟩
  refine ⟨I1.kIn, ?_⟩
  obtain _ | ⟨ra, _ | _⟩ := r1
  rename_i ub
  have P1 := I1.pin (a, oe) (List.mem_append_left _ List.mem_cons_self)
  have hpin : L2H.PinOk X.stack G s1 (a, oe) := ⟨P1.1, P1.2.1, fun hm => (List.mem_cons.mp (I1.stkSub a hm)).elim P1.2.2.1 P1.2.2.2.1, P1.2.2.2.2⟩
  obtain ⟨vs, hv⟩ := hf
  have rm : L2H.RoomH 1 (X.suite a ((a, oe) :: pn)).A := ⟨hr.dp, hr.un⟩
  have b := hb s1 [ub] I1.kIn (by rfl)
  rw [List.append_nil] at b
  refine wpAny_call (codeAny_mono (kin_run fu S ok (p := (a, oe)) (Q := Q) (E := fun _ _ _ => False) rm ⟨rfl, vs, hv, hz.2.2 vs hv⟩ hpin I1.env0 b ra kc ⟨hz.1, hz.2.1⟩ ⟨vs, hv⟩ c0 c18 q) fun r s' hq => ?_)
  cases r with
  | error e =>
    obtain ⟨_, _, _, _, _, _, _, _, _, _, _, _, z⟩ := hq
    exact z.elim
  | ok fl =>
    cases fl with
    | ret u => exact I1.after hq
    | next => exact False.elim hq
    | brk => exact False.elim hq
    | cont => exact False.elim hq
end
theorem try_body {P : Program} {w : World} {K : PySem.W.Frag} {mg : Str → Option Value} {base : Heap} {M : Kit} {sc : Scope} {g : Addr} {cdv : Value} {A : Around} {outer : List PySem.Env} {s : Shared} {H0 : Hp} {E0 : XK} {body : List Stmt} (T : TryF K mg M) (S : FnScope tryN ["door"] sc) (ok : tryOk sc.names body = true)
    (hr : Room 1 (A.deeper (envOfC "_law_try" sc s.heap.objs.size g cdv))) (tdoor : XK → TE)
    (hdoor : ∀ (E : XK) (W : WX) (pn : List (Addr × Obj)) (xe : Value → Shared → Prop) (p1 p2 : Pos), L2N.Takes ((cxOf (L2N.CX P w) P w K mg base tryN "_law_try" sc g cdv A outer s H0 E0).tr pn xe) W → (∀ cls d σ' H', σ'.length = 3 → E cls d H' → W cls d σ' H') →
      PE ((cxOf (L2N.CX P w) P w K mg base tryN "_law_try" sc g cdv A outer s H0 E0).tr pn xe) (.Call (.Name "door" p1) [] [] p2) (tdoor E)) :
    PSs (cxOf (L2N.CX P w) P w K mg base tryN "_law_try" sc g cdv A outer s H0 E0) body (fun D σ H => σ.length = 3 ∧ ∃ E : XK, (∀ cls d H', E cls d H' → d = none ∧ ∃ c, c ∈ M.xs ∧ 0 < c ∧ c < 18 ∧ cls = M.cv c ∧ ∀ H'', ExtH H' H'' → D.rt (.str (kinStr c)) H'') ∧
      tdoor E (σ.set 1 (some .non)) H fun v H' => [V.str "told", v].length ≤ sizeLine ∧ ∀ p, H' p = none → D.rt (.ref p) (upd H' p (.tup [.str "told", v]))) := by
  unfold tryOk at ok
  split at ok <;> first | (cases ok; done) | skip
  rename_i f0 q1 j1 q2 q3 f1 q4 z j2 q5 dn q6 q7 kk q8 q9 x q10 e1 f2 q11 kn q12 e2 q13 q14 q15 q16 q17 f3 q18 q19
  simp only [Bool.and_eq_true, beq_iff_eq, decide_eq_true_eq, List.all_eq_true] at ok
  obtain ⟨⟨⟨⟨⟨⟨⟨⟨⟨⟨⟨⟨rfl, rfl⟩, rfl⟩, rfl⟩, rfl⟩, rfl⟩, rfl⟩, rfl⟩, rfl⟩, rfl⟩, ln⟩, ga⟩, gk⟩ := ok
  obtain ⟨C0, mA, hA⟩ := T.arm
  generalize hZ : cxOf (L2N.CX P w) P w K mg base tryN "_law_try" sc g cdv A outer s H0 E0 = Z at hdoor ⊢
  have zN : Z.N = tryN := by rw [← hZ]; rfl
  have zs : Z.env.scope = sc := by rw [← hZ]; rfl
  have zK : Z.K = K := by rw [← hZ]; rfl
  have zm : Z.mg = mg := by rw [← hZ]; rfl
  have zA : Room 1 Z.A := by rw [← hZ]; exact hr
  have zst : Z.stack = Z.env :: Z.outer := by rw [← hZ]; rfl
  have zfr : Z.env.frame = some Z.env.locals := by rw [← hZ]; rfl
  have ztk : L2N.Takes Z (fun cls d _ H => E0 cls d H) := by subst hZ; exact L2N.takes_of rfl rfl rfl rfl
  clear hZ
  have nd : Z.N.Nodup := by rw [zN]; decide +kernel
  have l1 : Z.env.scope.names.lookup ("found" : Str) = some .local := by rw [zs]; exact ln _ (by simp)
  have l2 : Z.env.scope.names.lookup ("e" : Str) = some .local := by rw [zs]; exact ln _ (by simp)
  have n1 : Z.N[1]? = some ("found" : Str) := by rw [zN]; rfl
  have n2 : Z.N[2]? = some ("e" : Str) := by rw [zN]; rfl
  have gA : Gl Z "ArmError" := by show Z.env.scope.names.lookup _ = _; rw [zs]; exact ga
  have gK : Gl Z "_law_kin" := by show Z.env.scope.names.lookup _ = _; rw [zs]; exact gk
  subst zK zm
  have tryS := L2N.ps_try_as (X := Z) (np := q10) (pos := q17) (pos' := q16) (c := .ref C0) (i := 2) (n := "e") (x := "ArmError") (Wout := fun cls d _ H => E0 cls d H) (suite := [])
    (b₀ := .Assign [.Name "found" q11] (.Call (.Name "_law_kin" q12) [.Name "e" q13] [] q14) q15)
    (tb := fun W D σ H => ∃ E : XK, (∀ cls d σ' H', σ'.length = 3 → E cls d H' → W cls d σ' H') ∧ tdoor E σ H fun v H' => [V.str "told", v].length ≤ sizeLine ∧ ∀ p, H' p = none → D.nx (σ.set 1 (some (.ref p))) (upd H' p (.tup [.str "told", v])))
    (ts := fun a cls d => tAsg (fun σ H Q => σ[2]? = some (some (.ref a)) ∧ d = none ∧ ∃ c, c ∈ M.xs ∧ 0 < c ∧ c < 18 ∧ cls = M.cv c ∧ ∀ H', ExtH H H' → Q (.str (kinStr c)) H') (gName 1))
    zst zfr nd n2 l2 ⟨gA, by decide, .inl mA⟩ ztk
    (fun W pn xe tk own => ⟨fun pins s' σ H D I ⟨E, hE, h⟩ => (pss_one (ps_set (X := Z.tr pn xe) (pos := q9) (pos' := q4) (i := 1) nd n1 (.inl l1) (pe_tup (x1 := kk) (pos := q8) (pa_cons (pe_str (x := "told") (j := j2) (pos := q5)) (pa_cons (hdoor E W pn xe q6 q7 tk hE) pa_nil))) rfl (.inr l1))).run pins s' σ H D I h⟩)
    (fun a oe cls d pn hz hf => pss_one (ps_set (X := Z.suite a ((a, oe) :: pn)) (pos := q15) (pos' := q11) (i := 1) nd n1 (.inl l1) (pe_kin T zA hz hf n2 l2 gK) rfl (.inr l1)))
  refine pssImp (pss_cons (ps_set (pos := q3) (pos' := q1) (i := 1) nd n1 (.inl l1) pe_non rfl (.inr l1)) (pss_cons tryS (pss_one (ps_ret (pos := q19) (pe_var (pos := q18) (i := 1) n1 (.inl l1)))))) fun D σ H ⟨len, E, hE, h⟩ => ?_
  have g1 : ∀ {σ' : L2.St} {v : V}, σ'.length = 3 → (σ'.set 1 (some v))[1]? = some (some v) := fun {σ' v} l => by rw [List.getElem?_set_self (by rw [l]; decide)]
  refine ⟨E, fun cls d σ' H' l e => ?_, ?_⟩
  · obtain ⟨rfl, c, hc, c0, c18, rfl, q⟩ := hE cls d H' e
    refine ⟨true, hA c hc c0 c18, fun _ a na => ?_, fun z => nomatch z⟩
    refine ⟨by rw [List.getElem?_set_self (by rw [l]; decide)], rfl, c, hc, c0, c18, rfl, fun H'' ex => ⟨_, ?_, q H'' ex⟩⟩
    rw [List.getElem?_set_ne (by decide)]
    exact g1 (by rw [List.length_set]; exact l)
  · have e : ∀ v H', ([V.str "told", v].length ≤ sizeLine ∧ ∀ p, H' p = none → ∃ u, ((σ.set 1 (some V.non)).set 1 (some (V.ref p)))[1]? = some (some u) ∧ D.rt u (upd H' p (.tup [.str "told", v]))) = ([V.str "told", v].length ≤ sizeLine ∧ ∀ p, H' p = none → D.rt (.ref p) (upd H' p (.tup [.str "told", v]))) := fun v H' => by
      refine propext ⟨fun ⟨z, q⟩ => ⟨z, fun p np => ?_⟩, fun ⟨z, q⟩ => ⟨z, fun p np => ⟨.ref p, g1 (by rw [List.length_set]; exact len), q p np⟩⟩⟩
      obtain ⟨u, h1, h2⟩ := q p np
      rw [g1 (by rw [List.length_set]; exact len)] at h1
      cases h1
      exact h2
    show tdoor E (σ.set 1 (some V.non)) H _
    have e' : (fun v H' => [V.str "told", v].length ≤ sizeLine ∧ ∀ p, H' p = none → ∃ u, ((σ.set 1 (some V.non)).set 1 (some (V.ref p)))[1]? = some (some u) ∧ D.rt u (upd H' p (.tup [.str "told", v]))) = fun v H' => [V.str "told", v].length ≤ sizeLine ∧ ∀ p, H' p = none → D.rt (.ref p) (upd H' p (.tup [.str "told", v])) := funext fun v => funext fun H' => e v H'
    exact e' ▸ h
end Dn

end
section
set_option Elab.async false
set_option maxRecDepth 100000
set_option maxHeartbeats 4000000
set_option linter.unusedVariables false
/-! Ho5: _law_try(lambda: ..), as an expression. -/
namespace Dn
open PySem PySem.Spec PyProof.Rows L2 LamX HotX
/-- the maker's code object and its table -/
def LamF (X : Cx) (M : Kit) : Prop := ∃ c P, X.env.code = .ref c ∧ TabB X.base X.mg c P ∧ (P, X.env.qual ++ "<lambda>") ∈ M.T ∧ ∀ p ∈ M.T, p.1 = P → p.2 = X.env.qual ++ "<lambda>"
abbrev trySem (cs : List Nat) (re : Sem1 D) : Sem1 D := fun env s => match re env s with
  | .ok d s1 => .ok (.tup [.str "told", d]) s1
  | .exc c [] s1 => if c ∈ cs then .ok (.str (kinStr c)) s1 else .bad
  | _ => .bad
section
variable {X : Cx} {M : Kit} {W : WX} {m : Nat}
theorem sx_tryl {cs : List Nat} {body : Expr} {scope : Scope} {p1 lp pos : Pos} {re : Sem1 D} (T : TryF X.K X.mg M) (lf : LamF X M) (hr : Room (m + 2) X.A) (hg : Gl X "_law_try") (L : LamS X.env.scope scope) (hcs : ∀ c ∈ cs, c ∈ M.xs ∧ 0 < c ∧ c < 18)
    (hbody : ∀ (A : Around) (outer : List PySem.Env) (s : Shared) (H : Hp) (E : XK) (f c' : Addr), Room m (A.deeper (lamEnv X scope s.heap.objs.size f c')) → SX (lamCxN X A outer s H E scope f c') M (fun cls d _ H => E cls d H) body re) :
    SX X M W (.Call (.Name "_law_try" p1) [.Lambda ⟨[], [], none, [], [], none, []⟩ body scope lp] [] pos) (trySem cs re) := by
  refine SX.plain ⟨fun pins s σ H Q I ⟨env, st, β, re0, rs, q⟩ => ?_⟩ (fun _ _ _ z => nomatch z) (fun _ => rfl)
  obtain ⟨g, fd, tst, fu, S, ok, hm, hb⟩ := T.tr
  obtain ⟨c0, P0, hcode, TB, hmT, hu⟩ := lf
  refine wpAny_Call_Name_kw (ld_glob I hg hm ?_ (by decide))
  refine PySem.W.callWith_K (h₀ := X.base) I.ok.mod.kin fu.kp ?_ (by rfl) (by rfl)
  show wpAny _ _ (spliced ((false, eval (.Lambda ⟨[], [], none, [], [], none, []⟩ body scope lp) X.env) :: backTo pos (starEach [] X.env))) _ _ s
  refine Calls.spliced_cons (lam_make2 I TB hcode hmT hu rs.tabs rfl (L.has I.ok) fun f c' pm' ctv H1 s' I1 eN T1 hf hfn hfr hco => ?_)
  refine Calls.spliced_nil ⟨I1.kIn, ?_⟩
  have rs1 : RS M H1 β st := rs.extN eN T1
  have re1 : RE M H1 β st env σ := re0.mono rs (Kp.extN eN)
  have k1 : Kp H β st H1 β st := .extN eN
  obtain ⟨oc, od, kV, doc, pm, an, cdv, ct, osl, rfl, lk, hcd⟩ := fu.ex
  have b := hb s' [.ref f] I1.kIn rfl
  rw [List.append_nil] at b
  have rc : codeAny (model X.prog X.w) X.A (.call (.ref g) ⟨[.ref f], []⟩) (CR (L2N.CX X.prog X.w) X.stack X.prog X.w H1 s' Q (fun _ _ _ => False)) s' := by
    refine run_ofS (N := tryN) (ps := ["door"]) (us := [.ref f]) (vs := [V.ref f]) lk hcd S hr I1.env0 b (.cons rfl .nil) rfl fun hr' => ?_
    refine ⟨_, try_body T S ok (hr'.mono (by omega)) (fun E σZ HZ Q => σZ[0]? = some (some (V.ref f)) ∧ HZ c' = some (CodeO c' (X.env.qual ++ "<lambda>")) ∧ tE M (fun cls d _ H => E cls d H) re σ HZ Q)
      (fun E W' pn xe p1 p2 tk hW => pe_door (i := 0) I1 L hf hfn hfr rfl tk hW hr' (fun A outer s H hr2 => (hbody A outer s H E f c' hr2).pe) rfl (.inl ?_) (by decide) (by decide)), rfl,
      fun cls d H' => d = none ∧ ∃ c s1 β', c ∈ cs ∧ cls = M.cv c ∧ re env st = .exc c [] s1 ∧ RS M H' β' s1 ∧ Kp H β st H' β' s1, ?_, rfl, hco, env, st, β, re1, rs1, ?_⟩
    · have z := ok
      unfold tryOk at z
      split at z <;> first | (cases z; done) | skip
      simp only [Bool.and_eq_true, List.all_eq_true, decide_eq_true_eq] at z
      exact z.1.1.2 _ (by simp)
    · rintro cls d H' ⟨rfl, c, s1, β', hc, rfl, e, R, k⟩
      obtain ⟨h1, h2, h3⟩ := hcs c hc
      refine ⟨rfl, c, h1, h2, h3, rfl, fun H'' ex => ?_⟩
      have q := q
      rw [show trySem cs re env st = .ok (.str (kinStr c)) s1 by unfold trySem; rw [e]; exact if_pos hc] at q
      exact q H'' β' _ (R.extN ex.n (R.tabs.ext ex)) (k.trans (.extN ex.n)) rfl
    · revert q
      cases e : re env st with
      | ok d s1 =>
        intro q
        rw [show trySem cs re env st = .ok (.tup [.str "told", d]) s1 by unfold trySem; rw [e]] at q
        refine fun H' β' v R k r => ⟨by show 2 ≤ sizeLine; decide, fun p np => ?_⟩
        exact q _ β' _ (R.alloc np) ((k1.trans k).trans (.alloc np)) ⟨p, _, rfl, SqT.of upd_same, rfl, RD.mono R (.alloc np) d r, trivial⟩
      | exc c fs s1 =>
        intro q
        cases fs with
        | cons _ _ => rw [show trySem cs re env st = .bad by unfold trySem; rw [e]] at q; exact q.elim
        | nil =>
          by_cases hc : c ∈ cs
          · exact ⟨rfl, fun H' β' R k => ⟨rfl, c, s1, β', hc, rfl, rfl, R, k1.trans k⟩⟩
          · rw [show trySem cs re env st = .bad by unfold trySem; rw [e]; exact if_neg hc] at q
            exact q.elim
      | bad =>
        intro q
        rw [show trySem cs re env st = .bad by unfold trySem; rw [e]] at q
        exact q.elim
  refine wpAny_call (codeAny_mono rc fun r s2 hq => ?_)
  cases r with
  | error e =>
    obtain ⟨_, _, _, _, _, _, _, _, _, _, _, _, z⟩ := hq
    exact z.elim
  | ok fl =>
    cases fl with
    | ret u => exact I1.after hq
    | next => exact False.elim hq
    | brk => exact False.elim hq
    | cont => exact False.elim hq
end
end Dn

end
section
set_option Elab.async false
set_option maxRecDepth 100000
set_option maxHeartbeats 4000000
set_option linter.unusedVariables false
/-! Dn12: checked expressions do what their meaning says. -/
namespace Dn
open PySem PySem.Spec PyProof.Rows L2 LamX

/-- the context bears the check's words -/
structure Sd (C : Ck) (B : Bk) (X : Cx) (M : Kit) (F n : Nat) : Prop where
  N : X.N = C.N
  nd : X.N.Nodup
  names : X.env.scope.names = B.sc
  kind : X.env.scope.kind = .function
  fn : B.fn0 = true → ∀ x, X.fn x = true
  calm : X.calm = true
  tp : Tp X M F C.G C.U n
  room : Room n X.A
  units : X.A.units + 65 < cLine
  tops : ∀ p ∈ C.tops, ∃ v u, X.mg p.1 = some u ∧ RelV v u ∧ ∀ Z, KD (M.at Z) p.2 v
  xc : Xc X.K X.mg M
  xs : ∀ c ∈ C.xs, c ∈ M.xs
  lam : C.lam = true → B.fn0 = true → LamF X M
  tr : C.lam = true → TryF X.K X.mg M
section
variable {C : Ck} {B : Bk} {X : Cx} {M : Kit} {F n : Nat} {W : WX}
theorem Sd.atZ (S : Sd C B X M F n) (Z : List Addr) : Sd C B X (M.at Z) F n :=
  ⟨S.N, S.nd, S.names, S.kind, S.fn, S.calm, ⟨S.tp.kit, S.tp.blt, S.tp.fns⟩, S.room, S.units, S.tops, ⟨S.xc.own, S.xc.one⟩, S.xs, S.lam, fun h => ⟨(S.tr h).tr, (S.tr h).kin, (S.tr h).arm, (S.tr h).kc⟩⟩
theorem notDb_eq {x : Str} (h : notDb x = true) : (x == ("__debug__" : Str)) = false := by simpa [notDb] using h
theorem Sd.gl (S : Sd C B X M F n) {x : Str} (h : B.gl x = true) : Gl X x ∧ (x == ("__debug__" : Str)) = false := by
  unfold Bk.gl at h
  rw [Bool.and_eq_true, decide_eq_true_eq] at h
  refine ⟨?_, notDb_eq h.2⟩
  show X.env.scope.names.lookup x = _
  rw [S.names]; exact h.1
theorem Sd.vis (S : Sd C B X M F n) {x : Str} (h : B.vis x = true) : Vis X.env.scope x ∧ (x == ("__debug__" : Str)) = false ∧ (x == ("__classdict__" : Str)) = false := by
  unfold Bk.vis at h
  simp only [Bool.and_eq_true] at h
  refine ⟨?_, notDb_eq h.1.2, by simpa using h.2⟩
  unfold Vis
  rw [S.names]
  have h1 := h.1.1
  split at h1 <;> first | exact .inl (by assumption) | exact .inr (.inl (by assumption)) | exact .inr (.inr (by assumption)) | cases h1
theorem Sd.tgt (S : Sd C B X M F n) {x : Str} (h : B.tgt x = true) : L2.Loc X.env.scope x ∧ (X.fn x = true ∨ X.env.scope.names.lookup x = some .local) := by
  unfold Bk.tgt at h
  unfold L2.Loc
  rw [S.names]
  split at h
  · rename_i e; exact ⟨.inl e, .inr e⟩
  · rename_i e; exact ⟨.inr e, .inl (S.fn h x)⟩
  · cases h
theorem Sd.blk (S : Sd C B X M F n) {scope : Scope} {own : List Nat} (h : blkS C.N B.sc scope own = true) :
    BlkOk X.N X.env.scope scope (ownPairs C.N own) ∧ ∀ (Z : List Addr) (s : Shared) (H : Hp) (Ca : Addr) (cl : List (Str × Addr)) (fp : List Addr), Sd C (B.blk scope) (X.blk s H scope (compEnvC scope cl Ca X.env) fp) (M.at Z) F n := by
  have q := blkOk_by h
  refine ⟨⟨q.kind, q.uniq, by rw [S.N]; exact q.ix, fun y hy e => by rw [S.names]; exact q.free y hy e, by rw [S.N]; exact q.own⟩, fun Z s H Ca cl fp => ?_⟩
  refine ⟨S.N, S.nd, relN_eq S.names S.kind, q.kind, (fun z => nomatch z), S.calm, ⟨S.tp.kit, S.tp.blt, S.tp.fns⟩, S.room, S.units, S.tops, ⟨S.xc.own, S.xc.one⟩, S.xs, (fun _ z => nomatch z), fun h => ⟨(S.tr h).tr, (S.tr h).kin, (S.tr h).arm, (S.tr h).kc⟩⟩
theorem own_ix {N : List Str} {own : List Nat} : (ownPairs N own).map (·.2) = own := by
  unfold ownPairs
  rw [List.map_map]
  exact List.map_id' own
theorem takes00 {X : Cx} : L2N.Takes X W00 := fun u s' ⟨a, B, sI, pins, σ, H, cls, d, e, I, nb, up, sky, na, os, ag, w⟩ => w.elim
theorem noSet_ok {e : Expr} {env : PySem.Env} (h : noSet e = true) : ∀ x, foldedSetIterable e env x = pure x := fun x => by
  cases e <;> first | rfl | cases h
theorem each_gl {P : Ty → Prop} : ∀ {ts : List Ty}, (∀ t ∈ ts, P t) → ∀ u ∈ ts, P u := fun h => h
end
theorem bind_nil {r : Res D} {f : List D → Sto → Res D} : (r.bind fun x s1 => (Res.ok [] s1 : Res (List D)).bind fun xs s2 => Res.ok (x :: xs) s2).bind f = r.bind fun x s1 => f [x] s1 := by
  cases r <;> rfl

theorem sx_bad {X : Cx} {M : Kit} {W : WX} {f : Expr} {es : List Expr} {ks : List Keyword} {pos : Pos} : SX X M W (.Call f es ks pos) (fun _ _ => .bad) :=
  SX.plain ⟨fun _ _ _ _ _ _ ⟨_, _, _, _, _, q⟩ => q.elim⟩ (fun _ _ _ z => nomatch z) (fun _ => rfl)
mutual
theorem se {C : Ck} {F n0 : Nat} : ∀ (e : E) {B : Bk} {X : Cx} {M : Kit} {W : WX} {n : Nat} (hn : n ≤ n0) (S : Sd C B X M F n) (tk : L2N.Takes X W) {x : Expr}, chkE C B e x = true → SX X M W x (fun env s => denE F (callT F C.G n0) n e env s)
  | .var i, B, X, M, W, n, hn, S, tk, x, h => by
    simp only [chkE] at h
    split at h <;> first | (cases h; done) | skip
    rename_i y p e
    rw [Bool.and_eq_true, decide_eq_true_eq] at h
    obtain ⟨v, d1, d2⟩ := S.vis h.2
    rw [asName_eq e]
    exact sx_var (by rw [S.N]; exact h.1) v d1 d2
  | .cst d, B, X, M, W, n, hn, S, tk, x, h => by
    simp only [chkE] at h
    split at h <;> first | (cases h; done) | skip
    rename_i d' e
    rw [D.eqb_eq _ _ h] at e
    exact sx_const e
  | .top y d, B, X, M, W, n, hn, S, tk, x, h => by
    simp only [chkE] at h
    split at h <;> first | (cases h; done) | skip
    rename_i z p e
    simp only [Bool.and_eq_true, beq_iff_eq, List.any_eq_true] at h
    obtain ⟨⟨rfl, hg⟩, ⟨q, hq, rfl, hd⟩⟩ := h
    obtain ⟨g1, g2⟩ := S.gl hg
    obtain ⟨v, u, m, r, k⟩ := S.tops q hq
    rw [asName_eq e]
    rw [← D.eqb_eq _ _ hd]
    exact sx_top g1 m r (k M.Z) g2
  | .bin o a b, B, X, M, W, n, hn, S, tk, x, h => by
    simp only [chkE] at h
    split at h <;> first | (cases h; done) | skip
    rename_i y op z p e
    simp only [Bool.and_eq_true, decide_eq_true_eq] at h
    rw [asBin_eq e, h.1.1]
    exact sx_bin S.tp.kit o (se a hn S tk h.1.2) (se b hn S tk h.2)
  | .neg a, B, X, M, W, n, hn, S, tk, x, h => by
    simp only [chkE] at h
    split at h <;> first | (cases h; done) | skip
    rename_i op y p e
    simp only [Bool.and_eq_true, decide_eq_true_eq] at h
    rw [asUn_eq e, h.1]
    exact sx_neg (se a hn S tk h.2)
  | .nt a, B, X, M, W, n, hn, S, tk, x, h => by
    simp only [chkE] at h
    split at h <;> first | (cases h; done) | skip
    rename_i op y p e
    simp only [Bool.and_eq_true, decide_eq_true_eq] at h
    rw [asUn_eq e, h.1]
    exact sx_not (se a hn S tk h.2)
  | .cmp o a b, B, X, M, W, n, hn, S, tk, x, h => by
    simp only [chkE] at h
    split at h <;> first | (cases h; done) | skip
    rename_i y os z p e
    simp only [Bool.and_eq_true, decide_eq_true_eq, Bool.not_eq_true'] at h
    obtain ⟨⟨⟨h1, h2⟩, h3⟩, h4⟩ := h
    rw [asCmp_eq e, h1]
    exact sx_cmp S.tp.kit S.units o h2 (se a hn S tk h3) (se b hn S tk h4)
  | .cmp2 o1 o2 a b c, B, X, M, W, n, hn, S, tk, x, h => by
    simp only [chkE] at h
    split at h <;> first | (cases h; done) | skip
    rename_i y os z u p e
    simp only [Bool.and_eq_true, decide_eq_true_eq, Bool.not_eq_true'] at h
    obtain ⟨⟨⟨⟨h1, h2⟩, h3⟩, h4⟩, h5⟩ := h
    rw [asCmp_eq e, h1]
    exact sx_cmp2 S.tp.kit S.units o1 o2 h2 (se a hn S tk h3) (se b hn S tk h4) (se c hn S tk h5)
  | .and a b, B, X, M, W, n, hn, S, tk, x, h => by
    simp only [chkE] at h
    split at h <;> first | (cases h; done) | skip
    rename_i o y z rest p e
    simp only [Bool.and_eq_true, decide_eq_true_eq] at h
    obtain ⟨⟨h1, h2⟩, h3⟩ := h
    rw [asBool_eq e, h1]
    cases rest with
    | nil => exact sx_and2 (se a hn S tk h2) (se b hn S tk h3)
    | cons u r => exact sx_and3 (se a hn S tk h2) (se b hn S tk h3)
  | .or a b, B, X, M, W, n, hn, S, tk, x, h => by
    simp only [chkE] at h
    split at h <;> first | (cases h; done) | skip
    rename_i o y z rest p e
    simp only [Bool.and_eq_true, decide_eq_true_eq] at h
    obtain ⟨⟨h1, h2⟩, h3⟩ := h
    rw [asBool_eq e, h1]
    cases rest with
    | nil => exact sx_or2 (se a hn S tk h2) (se b hn S tk h3)
    | cons u r => exact sx_or3 (se a hn S tk h2) (se b hn S tk h3)
  | .ife t a b, B, X, M, W, n, hn, S, tk, x, h => by
    simp only [chkE] at h
    split at h <;> first | (cases h; done) | skip
    rename_i y z u p e
    simp only [Bool.and_eq_true] at h
    rw [asIf_eq e]
    exact sx_ife (se t hn S tk h.1.1) (se a hn S tk h.1.2) (se b hn S tk h.2)
  | .tup es, B, X, M, W, n, hn, S, tk, x, h => by
    simp only [chkE] at h
    split at h <;> first | (cases h; done) | skip
    rename_i xs k p e
    rw [asTup_eq e]
    exact sx_tup (ses es hn S tk h)
  | .lst m es, B, X, M, W, n, hn, S, tk, x, h => by
    simp only [chkE] at h
    split at h <;> first | (cases h; done) | skip
    rename_i xs p e
    rw [asLst_eq e]
    exact sx_lst m (ses es hn S tk h)
  | .ix a i, B, X, M, W, n, hn, S, tk, x, h => by
    simp only [chkE] at h
    split at h <;> first | (cases h; done) | skip
    rename_i y z p e
    simp only [Bool.and_eq_true, Bool.not_eq_true'] at h
    rw [asSub_eq e]
    exact sx_ix S.tp.kit h.1.1 (se a hn S tk h.1.2) (se i hn S tk h.2)
  | .rev a k, B, X, M, W, n, hn, S, tk, x, h => by
    simp only [chkE] at h
    split at h <;> first | (cases h; done) | skip
    rename_i y z p1 p e
    simp only [Bool.and_eq_true] at h
    rw [asRev_eq e]
    exact sx_rev S.tp.kit (se a hn S tk h.1) (se k hn S tk h.2)
  | .sl a lo hi, B, X, M, W, n, hn, S, tk, x, h => by
    simp only [chkE] at h
    split at h <;> first | (cases h; done) | skip
    rename_i y z p e
    split at h <;> first | (cases h; done) | skip
    rename_i l u p2 e2
    simp only [Bool.and_eq_true] at h
    rw [asSub_eq e, asSli_eq e2]
    exact sx_sl S.tp.kit (se a hn S tk h.1.1) (so lo hn S tk h.1.2) (so hi hn S tk h.2)
  | .call f es, B, X, M, W, n, hn, S, tk, x, h => by
    simp only [chkE] at h
    split at h <;> first | (cases h; done) | skip
    rename_i y p1 args p e
    split at h <;> first | (cases h; done) | skip
    rename_i fn hG
    simp only [Bool.and_eq_true, beq_iff_eq] at h
    obtain ⟨⟨⟨⟨⟨hU, rfl⟩, hg⟩, hne⟩, hs⟩, h4⟩ := h
    obtain ⟨g1, g2⟩ := S.gl hg
    rw [asCall_eq e]
    cases args with
    | nil => cases hne
    | cons a r =>
      have q := sx_call (pos := p) (p1 := p1) S.tp S.room tk (of_decide_eq_true hU) hG g1 g2 hs (ses es hn S tk h4)
      have e : callT F C.G n0 n f = callD F C.G n f := by
        unfold callD
        rw [callT_low F C.G hn]
      show SX X M W _ fun env s => (denEs F (callT F C.G n0) n es env s).bind fun xs s1 => callT F C.G n0 n f xs s1
      rw [e]
      exact q
  | .prim p es, B, X, M, W, n, hn, S, tk, x, h => by
    simp only [chkE] at h
    split at h <;> first | (cases h; done) | skip
    rename_i y p1 args pos e
    simp only [Bool.and_eq_true, beq_iff_eq] at h
    obtain ⟨⟨rfl, hg⟩, h⟩ := h
    obtain ⟨g1, g2⟩ := S.gl hg
    rw [asCall_eq e]
    have fin : ∀ {args : List Expr} {e' : E} {r : Sem1 D}, r = (fun env s => (denE F (callT F C.G n0) n e' env s).bind fun x s1 => primD p [x] s1) → SX X M W (.Call (.Name p.nm p1) args [] pos) r →
        SX X M W (.Call (.Name p.nm p1) args [] pos) fun env s => denE F (callT F C.G n0) n (.prim p (.cons e' .nil)) env s := fun {args e' r} hr q => by
      rw [hr] at q
      have z : (fun env s => denE F (callT F C.G n0) n (.prim p (.cons e' .nil)) env s) = fun env s => (denE F (callT F C.G n0) n e' env s).bind fun x s1 => primD p [x] s1 := by
        funext env s
        show ((denE F (callT F C.G n0) n e' env s).bind fun x s1 => (Res.ok [] s1 : Res (List D)).bind fun xs s2 => Res.ok (x :: xs) s2).bind _ = _
        exact bind_nil
      rw [z]
      exact q
    split at h
    · rename_i t e' a ty
      simp only [Bool.and_eq_true, Bool.not_eq_true'] at h
      obtain ⟨⟨⟨hs, he⟩, hgt⟩, h⟩ := h
      split at h <;> first | (cases h; done) | skip
      rename_i z pz ez
      rw [asName_eq ez, beq_iff_eq.mp h]
      exact fin rfl (sx_isi S.tp t g1 (S.gl hgt).1 hs (se e' hn S tk he))
    · rename_i t u ts e' a ty
      simp only [Bool.and_eq_true, Bool.not_eq_true', List.all_eq_true] at h
      obtain ⟨⟨⟨⟨hs, he⟩, hgt⟩, hl⟩, h⟩ := h
      split at h <;> first | (cases h; done) | skip
      rename_i tys kk pt et
      obtain ⟨ps, hps⟩ := Option.isSome_iff_exists.mp h
      obtain ⟨e1, e2⟩ := tysAt_eq hps
      rw [asTup_eq et, e1]
      exact fin rfl (sx_isiT S.tp t (u :: ts) ps e2 hl g1 (fun v hv => (S.gl (hgt v hv)).1) hs (se e' hn S tk he))
    · cases h
    · rename_i e' a hp
      simp only [Bool.and_eq_true, Bool.not_eq_true'] at h
      have hp' : ∀ ts, p ≠ .isi ts := fun ts z => by
        subst z
        exact hp _ rfl
      exact fin (funext fun env => funext fun s => bind_nil) (sx_prim (rs := fun env s => (denE F (callT F C.G n0) n e' env s).bind fun x s1 => (Res.ok [] s1 : Res (List D)).bind fun xs s2 => Res.ok (x :: xs) s2) S.tp S.calm p hp' g1 h.1 (sl_cons (rs := fun _ s => .ok [] s) h.1 (se e' hn S tk h.2) sl_nil))
    · cases h
  | .app a b, B, X, M, W, n, hn, S, tk, x, h => by
    simp only [chkE] at h
    split at h <;> first | (cases h; done) | skip
    rename_i o m p2 y p e
    simp only [Bool.and_eq_true, beq_iff_eq, Bool.not_eq_true'] at h
    obtain ⟨⟨⟨⟨⟨rfl, h1⟩, h2⟩, h3⟩, h4⟩, h5⟩ := h
    rw [asMeth_eq e]
    exact sx_app S.tp h1 (beq_iff_eq.mpr h2) h3 (se a hn S tk h4) (se b hn S tk h5)
  | .ins a i b, B, X, M, W, n, hn, S, tk, x, h => by
    simp only [chkE] at h
    split at h <;> first | (cases h; done) | skip
    rename_i o m p2 y z p e
    simp only [Bool.and_eq_true, beq_iff_eq, Bool.not_eq_true'] at h
    obtain ⟨⟨⟨⟨⟨⟨⟨rfl, h1⟩, h2⟩, h3⟩, h4⟩, h5⟩, h6⟩, h7⟩ := h
    rw [asMeth_eq e]
    exact sx_ins S.tp h1 (beq_iff_eq.mpr h2) h3 h4 (se a hn S tk h5) (se i hn S tk h6) (se b hn S tk h7)
  | .bits a, B, X, M, W, n, hn, S, tk, x, h => by
    simp only [chkE] at h
    split at h <;> first | (cases h; done) | skip
    rename_i o m p2 p e
    simp only [Bool.and_eq_true, beq_iff_eq] at h
    obtain ⟨⟨⟨rfl, h1⟩, h2⟩, h3⟩ := h
    rw [asMeth_eq e]
    exact sx_bits h1 (beq_iff_eq.mpr h2) (se a hn S tk h3)
  | .join a b, B, X, M, W, n, hn, S, tk, x, h => by
    simp only [chkE] at h
    split at h <;> first | (cases h; done) | skip
    rename_i o m p2 y p e
    simp only [Bool.and_eq_true, beq_iff_eq, Bool.not_eq_true'] at h
    obtain ⟨⟨⟨⟨⟨rfl, h1⟩, h2⟩, h3⟩, h4⟩, h5⟩ := h
    rw [asMeth_eq e]
    exact sx_join S.tp h1 (beq_iff_eq.mpr h2) h3 (se a hn S tk h4) (se b hn S tk h5)
  | .frz a, B, X, M, W, n, hn, S, tk, x, h => by
    simp only [chkE, Bool.and_eq_true] at h
    exact sx_frz (se a hn S tk h.2) (fun o vs p z => by rw [z] at h; cases h.1) (by
      have := h.1
      cases x <;> first | (intro w; rfl) | cases this)
  | .lc own tg it c el, B, X, M, W, n, hn, S, tk, x, h => by
    simp only [chkE] at h
    split at h <;> first | (cases h; done) | skip
    rename_i elt tgE iter ifs scope p e
    simp only [Bool.and_eq_true] at h
    obtain ⟨⟨⟨⟨⟨⟨h1, h2⟩, h3⟩, h4⟩, h5⟩, h6⟩, h7⟩ := h
    obtain ⟨ok, blk⟩ := S.blk h2
    rw [asLc_eq e]
    have ho : ∀ i ∈ tgVs tg, i ∈ own := fun i hi => of_decide_eq_true (List.all_eq_true.mp h3 i hi)
    have q := sx_lc (F := F) (pos := p) (M := M) (W := W) (own := ownPairs C.N own) (rC := fun env s => denC F (callT F C.G n0) n c env s) (rE := fun env s => denE F (callT F C.G n0) n el env s) (g := fun d env s => setTg F (callT F C.G n0) n tg d env s) (ifs := ifs)
      S.calm S.nd (si it hn S tk tgE h4) ok (fun Z s H Ca cl fp => sg tg hn (blk Z s H Ca cl fp) takes00 (by rw [own_ix]; exact ho) h5)
      (fun Z s H Ca cl fp => sc c hn (blk Z s H Ca cl fp) takes00 h6) (fun Z s H Ca cl fp => (se el hn (blk Z s H Ca cl fp) takes00 h7).pe) (noSet_ok h1)
    rw [own_ix] at q
    exact q
  | .tryl cs e, B, X, M, W, n, hn, S, tk, x, h => by
    simp only [chkE] at h
    split at h <;> first | (cases h; done) | skip
    rename_i f p body scope lp pos e1
    simp only [Bool.and_eq_true, beq_iff_eq, List.all_eq_true, decide_eq_true_eq] at h
    obtain ⟨⟨⟨⟨⟨⟨h1, h2⟩, rfl⟩, h4⟩, h5⟩, h6⟩, h7⟩ := h
    rw [asTryl_eq e1]
    have ls := lamS_by h5
    have L : LamS X.env.scope scope := ⟨ls.kind, ls.co, ls.gen, ls.own, fun y hy e => by rw [S.names]; exact ls.free y hy e⟩
    cases n with
    | zero => exact sx_bad
    | succ n =>
      cases n with
      | zero => exact sx_bad
      | succ m =>
        exact sx_tryl (S.tr h1) (S.lam h1 h2) S.room (S.gl h4).1 L (fun c hc => ⟨S.xs c (h6 c hc).1.1, (h6 c hc).1.2, (h6 c hc).2⟩) fun A outer s H E f c' hr' =>
          se e (B := ⟨scope.names, false⟩) (X := lamCxN X A outer s H E scope f c') (by omega) ⟨S.N, S.nd, rfl, L.kind, (fun z => nomatch z), rfl, ⟨S.tp.kit, S.tp.blt, fun i fn hi hg => by
            obtain ⟨f, fd, ps, a, b, c, d⟩ := S.tp.fns i fn hi hg
            exact ⟨f, fd, ps, a, b, c, fun k hk => d k (by omega)⟩⟩, hr', (by have := hr'.un; show (A.deeper _).units + 65 < cLine; omega), S.tops, ⟨S.xc.own, S.xc.one⟩, S.xs, (fun _ z => nomatch z), S.tr⟩ (L2N.takes_of rfl rfl rfl rfl) h7
theorem sc {C : Ck} {F n0 : Nat} : ∀ (c : Oe) {B : Bk} {X : Cx} {M : Kit} {W : WX} {n : Nat} (hn : n ≤ n0) (S : Sd C B X M F n) (tk : L2N.Takes X W) {ifs : List Expr}, (match ifs with
          | [] => chkO C B c none
          | [t] => chkO C B c (some t)
          | _ => false) = true → PTs X ifs (tT M W (fun env s => denC F (callT F C.G n0) n c env s))
  | .no, B, X, M, W, n, hn, S, tk, ifs, h => by
    cases ifs with
    | nil => exact spts_nil
    | cons t r => cases r <;> cases h
  | .so e, B, X, M, W, n, hn, S, tk, ifs, h => by
    cases ifs with
    | nil => cases h
    | cons t r =>
      cases r with
      | nil => exact spts_one (se e hn S tk h)
      | cons _ _ => cases h
theorem so {C : Ck} {F n0 : Nat} : ∀ (c : Oe) {B : Bk} {X : Cx} {M : Kit} {W : WX} {n : Nat} (hn : n ≤ n0) (S : Sd C B X M F n) (tk : L2N.Takes X W) {o : Option Expr}, chkO C B c o = true → PO X o (tOp' M W (fun env s => denO F (callT F C.G n0) n c env s))
  | .no, B, X, M, W, n, hn, S, tk, o, h => by
    cases o with
    | none => exact so_none
    | some x => cases h
  | .so e, B, X, M, W, n, hn, S, tk, o, h => by
    cases o with
    | none => cases h
    | some x => exact so_some (se e hn S tk h)
theorem ses {C : Ck} {F n0 : Nat} : ∀ (es : Es) {B : Bk} {X : Cx} {M : Kit} {W : WX} {n : Nat} (hn : n ≤ n0) (S : Sd C B X M F n) (tk : L2N.Takes X W) {xs : List Expr}, chkEs C B es xs = true → PA X xs (tL M W (fun env s => denEs F (callT F C.G n0) n es env s))
  | .nil, B, X, M, W, n, hn, S, tk, xs, h => by
    cases xs with
    | nil => exact sl_nil
    | cons _ _ => cases h
  | .cons e es, B, X, M, W, n, hn, S, tk, xs, h => by
    cases xs with
    | nil => cases h
    | cons x r =>
      simp only [chkEs, Bool.and_eq_true, Bool.not_eq_true'] at h
      exact sl_cons h.1.1 (se e hn S tk h.1.2) (ses es hn S tk h.2)
theorem si {C : Ck} {F n0 : Nat} : ∀ (it : It) {B : Bk} {X : Cx} {M : Kit} {W : WX} {n : Nat} (hn : n ≤ n0) (S : Sd C B X M F n) (tk : L2N.Takes X W) (tg : Expr) {x : Expr}, chkIt C B tg it x = true → PI X tg x (tI M W (fun env s => denIt F (callT F C.G n0) n it env s))
  | .seq e, B, X, M, W, n, hn, S, tk, tg, x, h => si_seq S.tp.kit (se e hn S tk h)
  | .rng e, B, X, M, W, n, hn, S, tk, tg, x, h => by
    simp only [chkIt] at h
    split at h <;> first | (cases h; done) | skip
    rename_i f p1 a p e1
    simp only [Bool.and_eq_true, beq_iff_eq, Bool.not_eq_true'] at h
    obtain ⟨⟨⟨rfl, h1⟩, h2⟩, h3⟩ := h
    rw [asCall_eq e1]
    exact si_rng S.tp (S.gl h1).1 h2 (se e hn S tk h3)
  | .rng2 e e2, B, X, M, W, n, hn, S, tk, tg, x, h => by
    simp only [chkIt] at h
    split at h <;> first | (cases h; done) | skip
    rename_i f p1 a b p e1
    simp only [Bool.and_eq_true, beq_iff_eq, Bool.not_eq_true'] at h
    obtain ⟨⟨⟨⟨⟨rfl, h1⟩, h2⟩, h3⟩, h4⟩, h5⟩ := h
    rw [asCall_eq e1]
    exact si_rng2 S.tp (S.gl h1).1 h2 h3 (se e hn S tk h4) (se e2 hn S tk h5)
  | .enum e, B, X, M, W, n, hn, S, tk, tg, x, h => by
    simp only [chkIt] at h
    split at h <;> first | (cases h; done) | skip
    rename_i f p1 a p e1
    simp only [Bool.and_eq_true, beq_iff_eq, Bool.not_eq_true'] at h
    obtain ⟨⟨⟨⟨rfl, h1⟩, h2⟩, h3⟩, h4⟩ := h
    obtain ⟨⟨ts, k, pt⟩, ht⟩ := Option.isSome_iff_exists.mp h4
    rw [asCall_eq e1, asTup_eq ht]
    exact si_enum S.tp (S.gl h1).1 h2 (se e hn S tk h3)
  | .zip e e2, B, X, M, W, n, hn, S, tk, tg, x, h => by
    simp only [chkIt] at h
    split at h <;> first | (cases h; done) | skip
    rename_i f p1 a b p e1
    simp only [Bool.and_eq_true, beq_iff_eq, Bool.not_eq_true'] at h
    obtain ⟨⟨⟨⟨⟨⟨rfl, h1⟩, h2⟩, h3⟩, h4⟩, h5⟩, h6⟩ := h
    obtain ⟨⟨ts, k, pt⟩, ht⟩ := Option.isSome_iff_exists.mp h6
    rw [asCall_eq e1, asTup_eq ht]
    exact si_zip S.tp (S.gl h1).1 h2 h3 (se e hn S tk h4) (se e2 hn S tk h5)
theorem sg {C : Ck} {F n0 : Nat} : ∀ (t : Tg) {B : Bk} {X : Cx} {M : Kit} {W : WX} {n : Nat} (hn : n ≤ n0) (S : Sd C B X M F n) (tk : L2N.Takes X W) {own : List Nat} (ho : ∀ i ∈ tgVs t, i ∈ own) {x : Expr}, chkT C B t x = true → PG X x (tG M W own (fun d env s => setTg F (callT F C.G n0) n t d env s))
  | .nm i, B, X, M, W, n, hn, S, tk, own, ho, x, h => by
    simp only [chkT] at h
    split at h <;> first | (cases h; done) | skip
    rename_i y p e
    rw [Bool.and_eq_true, decide_eq_true_eq] at h
    obtain ⟨l, f⟩ := S.tgt h.2
    rw [asName_eq e]
    exact sg_nm S.nd (by rw [S.N]; exact h.1) l f (ho i (List.mem_singleton.mpr rfl))
  | .tup ts, B, X, M, W, n, hn, S, tk, own, ho, x, h => by
    simp only [chkT] at h
    split at h <;> first | (cases h; done) | skip
    rename_i es k p e
    rw [Bool.and_eq_true, decide_eq_true_eq] at h
    obtain ⟨q1, q2⟩ := sgs ts hn S tk ho h.2
    rw [asTup_eq e]
    exact sg_tup S.tp.kit S.calm q1 h.1 q2
  | .sub a i, B, X, M, W, n, hn, S, tk, own, ho, x, h => by
    simp only [chkT] at h
    split at h <;> first | (cases h; done) | skip
    rename_i y z p e
    simp only [Bool.and_eq_true, Bool.not_eq_true'] at h
    rw [asSub_eq e]
    exact sg_sub (se a hn S tk h.1.2) (se i hn S tk h.2) h.1.1
theorem sgs {C : Ck} {F n0 : Nat} : ∀ (t : Tgs) {B : Bk} {X : Cx} {M : Kit} {W : WX} {n : Nat} (hn : n ≤ n0) (S : Sd C B X M F n) (tk : L2N.Takes X W) {own : List Nat} (ho : ∀ i ∈ tgsVs t, i ∈ own) {xs : List Expr}, chkTs C B t xs = true →
    (xs.all fun e => !isStarT e) = true ∧ PGs X xs (tGs M W own (fun d env s => setTgs F (callT F C.G n0) n t d env s))
  | .nil, B, X, M, W, n, hn, S, tk, own, ho, xs, h => by
    cases xs with
    | nil => exact ⟨rfl, sgs_nil⟩
    | cons _ _ => cases h
  | .cons t ts, B, X, M, W, n, hn, S, tk, own, ho, xs, h => by
    cases xs with
    | nil => cases h
    | cons x r =>
      simp only [chkTs, Bool.and_eq_true, Bool.not_eq_true'] at h
      obtain ⟨q1, q2⟩ := sgs ts hn S tk (own := own) (fun i hi => ho i (List.mem_append_right _ hi)) h.2
      refine ⟨by rw [List.all_cons, q1, h.1.1]; rfl, sgs_cons h.1.1 (sg t hn S tk (fun i hi => ho i (List.mem_append_left _ hi)) h.1.2) q2⟩
end
end Dn

end
section
set_option Elab.async false
set_option maxRecDepth 100000
set_option maxHeartbeats 4000000
set_option linter.unusedVariables false
/-! Dn13: checked statements, checked defs. -/
namespace Dn
open PySem PySem.Spec PyProof.Rows L2 LamX

/-! ### forms of statements -/
def asAsg : Stmt → Option (Expr × Expr × Pos)
  | .Assign [t] v p => some (t, v, p)
  | _ => none
theorem asAsg_eq {s : Stmt} {t v p} (h : asAsg s = some (t, v, p)) : s = .Assign [t] v p := by
  unfold asAsg at h
  split at h <;> first | (cases h; rfl) | cases h
def asPar : Expr → Expr → Option (List (Str × Pos) × Nat × Pos × List Expr × Nat × Pos)
  | .Tuple [.Name x px, .Name y py] k p, .Tuple vs k2 p2 => some ([(x, px), (y, py)], k, p, vs, k2, p2)
  | .Tuple [.Name x px, .Name y py, .Name z pz] k p, .Tuple vs k2 p2 => some ([(x, px), (y, py), (z, pz)], k, p, vs, k2, p2)
  | _, _ => none
theorem asPar_eq {t v : Expr} {ns k p vs k2 p2} (h : asPar t v = some (ns, k, p, vs, k2, p2)) : t = .Tuple (ns.map nmE) k p ∧ v = .Tuple vs k2 p2 := by
  unfold asPar at h
  split at h <;> first | (cases h; exact ⟨rfl, rfl⟩) | cases h
def asAug : Stmt → Option (Str × Pos × Expr × Pos)
  | .AugAssign (.Name x p1) .Add v p => some (x, p1, v, p)
  | _ => none
theorem asAug_eq {s : Stmt} {x p1 v p} (h : asAug s = some (x, p1, v, p)) : s = .AugAssign (.Name x p1) .Add v p := by
  unfold asAug at h
  split at h <;> first | (cases h; rfl) | cases h
def asEx : Stmt → Option (Expr × Pos)
  | .Expr v p => some (v, p)
  | _ => none
theorem asEx_eq {s : Stmt} {v p} (h : asEx s = some (v, p)) : s = .Expr v p := by cases s <;> first | (cases h; rfl) | cases h
def asRet : Stmt → Option (Option Expr × Pos)
  | .Return v p => some (v, p)
  | _ => none
theorem asRet_eq {s : Stmt} {v p} (h : asRet s = some (v, p)) : s = .Return v p := by cases s <;> first | (cases h; rfl) | cases h
def asIte : Stmt → Option (Expr × List Stmt × List Stmt × Pos)
  | .If c a b p => some (c, a, b, p)
  | _ => none
theorem asIte_eq {s : Stmt} {c a b p} (h : asIte s = some (c, a, b, p)) : s = .If c a b p := by cases s <;> first | (cases h; rfl) | cases h
def asWhl : Stmt → Option (Expr × List Stmt × Pos)
  | .While c a [] p => some (c, a, p)
  | _ => none
theorem asWhl_eq {s : Stmt} {c a p} (h : asWhl s = some (c, a, p)) : s = .While c a [] p := by
  unfold asWhl at h
  split at h <;> first | (cases h; rfl) | cases h
def asFor : Stmt → Option (Expr × Expr × List Stmt × Pos)
  | .For t i a [] p => some (t, i, a, p)
  | _ => none
theorem asFor_eq {s : Stmt} {t i a p} (h : asFor s = some (t, i, a, p)) : s = .For t i a [] p := by
  unfold asFor at h
  split at h <;> first | (cases h; rfl) | cases h
def asRai : Stmt → Option (Str × Pos × Str × Nat × Pos × Pos × Pos)
  | .Raise (some (.Call (.Name x p1) [.Constant (.str m) j p2] [] p3)) none p => some (x, p1, m, j, p2, p3, p)
  | _ => none
theorem asRai_eq {s : Stmt} {x p1 m j p2 p3 p} (h : asRai s = some (x, p1, m, j, p2, p3, p)) : s = .Raise (some (.Call (.Name x p1) [.Constant (.str m) j p2] [] p3)) none p := by
  unfold asRai at h
  split at h <;> first | (cases h; rfl) | cases h
def asTry : Stmt → Option (List Stmt × Str × Pos × Expr × Pos × Pos × Pos)
  | .Try body [.ExceptHandler (some (.Name x np)) none [.Return (some a) rp] pos'] [] [] p => some (body, x, np, a, rp, pos', p)
  | _ => none
theorem asTry_eq {s : Stmt} {body x np a rp pos' p} (h : asTry s = some (body, x, np, a, rp, pos', p)) : s = .Try body [.ExceptHandler (some (.Name x np)) none [.Return (some a) rp] pos'] [] [] p := by
  unfold asTry at h
  split at h <;> first | (cases h; rfl) | cases h
def isPas : Stmt → Bool
  | .Pass _ => true
  | .Expr (.Constant (.str _) _ _) _ => true
  | _ => false
def isBrk : Stmt → Bool
  | .Break _ => true
  | _ => false
def isCnt : Stmt → Bool
  | .Continue _ => true
  | _ => false
/-- a comprehension stored into a name on one line -/
def lcSwap (sc : List (Str × NameKind)) (y : Str) (py p : Pos) (scope : Scope) : Bool := decide (sc.lookup y = some .local) && py.line == p.line && !(scope.names.any fun q => q.1 == y && (q.2 == .local || q.2 == .cell))
def localN (sc : List (Str × NameKind)) (x : Str) : Bool := decide (sc.lookup x = some .local)
def lcParts (t : Tg) (e : E) : Option (Nat × List Nat × Tg × It × Oe × E) := match t, e with
  | .nm i, .lc own tg it c el => some (i, own, tg, it, c, el)
  | _, _ => none
theorem lcParts_eq {t : Tg} {e : E} {i own tg it c el} (h : lcParts t e = some (i, own, tg, it, c, el)) : t = .nm i ∧ e = .lc own tg it c el := by
  unfold lcParts at h
  split at h <;> first | (cases h; exact ⟨rfl, rfl⟩) | cases h
def chkSet (C : Ck) (B : Bk) (t : Tg) (e : E) (tg v : Expr) : Bool := chkE C B e v && chkT C B t tg && !isStarT tg && (swNone tg v || swCell B.sc tg v) && (!isLc v || (match asName tg, asLc v with
    | some (y, py), some (_, _, _, _, scope, p) => (lcParts t e).isSome || !(lcSwap B.sc y py p scope)
    | _, _ => false))
mutual
def chkS (C : Ck) (B : Bk) : S → Stmt → Bool
  | .set t e, s => match asAsg s with
    | some (tg, v, _) => chkSet C B t e tg v
    | none => false
  | .par i j a b, s => match asAsg s with
    | some (tg, v, _) => (match asPar tg v with
      | some ([(x, px), (y, py)], _, _, [u, w], _, _) => decide (C.N[i]? = some x) && decide (C.N[j]? = some y) && decide (i ≠ j) && localN B.sc x && localN B.sc y && parC B.sc [(x, px), (y, py)] [u, w] && !isStar u && !isStar w && chkE C B a u && chkE C B b w
      | _ => false)
    | none => false
  | .par3 i j k a b c, s => match asAsg s with
    | some (tg, v, _) => (match asPar tg v with
      | some ([(x, px), (y, py), (z, pz)], _, _, [u, w, q], _, _) => decide (C.N[i]? = some x) && decide (C.N[j]? = some y) && decide (C.N[k]? = some z) && decide (i ≠ j) && decide (i ≠ k) && decide (j ≠ k) && localN B.sc x && localN B.sc y && localN B.sc z &&
          parC B.sc [(x, px), (y, py), (z, pz)] [u, w, q] && !isStar u && !isStar w && !isStar q && chkE C B a u && chkE C B b w && chkE C B c q
      | _ => false)
    | none => false
  | .aug i o e, s => match asAug s with
    | some (x, _, v, _) => (match o with | .add => true | _ => false) && decide (C.N[i]? = some x) && B.tgt x && chkE C B e v
    | none => false
  | .ex e, s => match asEx s with
    | some (v, _) => !isLc v && chkE C B e v
    | none => false
  | .ret e, s => match asRet s with
    | some (some v, _) => chkE C B e v
    | _ => false
  | .retn, s => match asRet s with
    | some (none, _) => true
    | _ => false
  | .ite c a b, s => match asIte s with
    | some (x, p, q, _) => chkE C B c x && chkSs C B a p && chkSs C B b q
    | none => false
  | .whl c b, s => match asWhl s with
    | some (x, p, _) => chkE C B c x && chkSs C B b p
    | none => false
  | .forr t it b, s => match asFor s with
    | some (tg, iter, p, _) => noSet iter && chkT C B t tg && chkIt C B tg it iter && chkSs C B b p
    | none => false
  | .rai c, s => match asRai s with
    | some (x, _) => x == clsName c && decide (c ∈ C.xs) && B.gl x
    | none => false
  | .tryo b cs k d, s => match asTry s with
    | some (body, x, _, a, _) => x == clsName k && decide (k ∈ C.xs) && (cs.all fun c => decide (c ∈ C.xs)) && B.gl x && (match constE a with
        | some d' => D.eqb d' d
        | none => false) && chkSs C B b body
    | none => false
  | .pas, s => isPas s
  | .brk, s => isBrk s
  | .cnt, s => isCnt s
def chkSs (C : Ck) (B : Bk) : Ss → List Stmt → Bool
  | .nil, l => l.isEmpty
  | .cons s ss, l => match l with
    | x :: r => chkS C B s x && chkSs C B ss r
    | [] => false
end
structure Sd2 (C : Ck) (B : Bk) (X : Cx) (M : Kit) (F n : Nat) : Prop extends Sd C B X M F n where
  st : X.stack = X.env :: X.outer
  fr : X.env.frame = some X.env.locals
  own : PassesOwn (model X.prog X.w) X.A X.env X.xe
section
variable {X : Cx} {M : Kit} {W : WX} {pos : Pos} {a tg : Expr} {ra : Sem1 D} {g : D → Env → Sto → SR} {own : List Nat}
theorem ss_set' (hs : swapsWithSole [tg] a pos.line X.env = pure false) (hw : swappedStores [tg] a X.env = pure none) (hst : isStarT tg = false) (ha : SX X M W a ra) (hg : PG X tg (tG M W own g)) : PS X (.Assign [tg] a pos) (tS M W fun env s => (ra env s).toS env fun d s1 => g d env s1) :=
  psImp (ps_asg ha.pe hg hs hw (by cases tg <;> first | rfl | cases hst)) fun D σ H h => tAsg_of h
theorem lcSwap_eq {elt : Expr} {gs : List Comprehension} {scope : Scope} {p py : Pos} {y : Str} {l : Nat} {env : PySem.Env} {sc : List (Str × NameKind)} (h1 : env.scope.names = sc) (h2 : env.scope.kind = .function) :
    swapsWith (.ListComp elt gs scope p) (some (.Name y py)) l env = pure (lcSwap sc y py p scope) := by
  have hb : env.blockKind = .function := by unfold Env.blockKind; rw [h2]; rfl
  have e : (env.kindOf y == some NameKind.local) = decide (sc.lookup y = some .local) := by
    show (env.scope.names.lookup y == some NameKind.local) = _
    rw [h1]
    by_cases z : sc.lookup y = some NameKind.local
    · rw [z]; rfl
    · rw [decide_eq_false z]; simpa using z
  show (pure (env.blockKind == .function && env.kindOf y == some .local && py.line == p.line && !(scope.names.any fun (n, k) => n == y && (k == .local || k == .cell))) : Sem Bool) = _
  rw [hb, e]
  rfl
end
theorem chkSet_ok {C : Ck} {B : Bk} {X : Cx} {M : Kit} {W : WX} {F n n0 : Nat} (hn : n ≤ n0) (S : Sd C B X M F n) (tk : L2N.Takes X W) {t : Tg} {e : E} {tg v : Expr} {pos : Pos} (h : chkSet C B t e tg v = true) :
    PS X (.Assign [tg] v pos) (tS M W (fun env s => denS F (callT F C.G n0) n (.set t e) env s)) := by
  unfold chkSet at h
  simp only [Bool.and_eq_true, Bool.not_eq_true', Bool.or_eq_true] at h
  obtain ⟨⟨⟨⟨he, ht⟩, hst⟩, hw⟩, h⟩ := h
  have hw : swappedStores [tg] v X.env = pure none := hw.elim swNone_ok fun z => swCell_ok S.names z
  have gen : swapsWithSole [tg] v pos.line X.env = pure false → PS X (.Assign [tg] v pos) (tS M W (fun env s => denS F (callT F C.G n0) n (.set t e) env s)) := fun hs =>
    ss_set' (own := tgVs t) hs hw hst (se e hn S tk he) (sg t hn S tk (fun _ z => z) ht)
  rcases h with h | h
  · exact gen (noSwap h)
  · split at h <;> first | (cases h; done) | skip
    rename_i y py elt tgE iter ifs scope p e1 e2
    obtain rfl := asName_eq e1
    obtain rfl := asLc_eq e2
    have sw : swapsWith (.ListComp elt [⟨tgE, iter, ifs, 0⟩] scope p) (some (.Name y py)) pos.line X.env = pure (lcSwap B.sc y py p scope) := lcSwap_eq S.names S.kind
    cases hsw : lcSwap B.sc y py p scope with
    | false => exact gen (by rw [hsw] at sw; exact sw)
    | true =>
      rw [hsw] at sw h
      have h : (lcParts t e).isSome = true := by simpa using h
      obtain ⟨⟨i, own, tg', it, c, el⟩, hp⟩ := Option.isSome_iff_exists.mp h
      obtain ⟨rfl, rfl⟩ := lcParts_eq hp
      simp only [chkE, asLc] at he
      simp only [Bool.and_eq_true] at he
      obtain ⟨⟨⟨⟨⟨⟨h1, h2⟩, h3⟩, h4⟩, h5⟩, h6⟩, h7⟩ := he
      obtain ⟨ok, blk⟩ := S.blk h2
      have ho : ∀ i ∈ tgVs tg', i ∈ own := fun i hi => of_decide_eq_true (List.all_eq_true.mp h3 i hi)
      simp only [chkT, asName, Bool.and_eq_true, decide_eq_true_eq] at ht
      have loc : X.env.scope.names.lookup y = some .local := by
        unfold lcSwap at hsw
        simp only [Bool.and_eq_true, decide_eq_true_eq] at hsw
        rw [S.names]; exact hsw.1.1
      have q := ss_setLc (F := F) (M := M) (W := W) (i := i) (own := ownPairs C.N own) (rC := fun env s => denC F (callT F C.G n0) n c env s) (rE := fun env s => denE F (callT F C.G n0) n el env s) (g := fun d env s => setTg F (callT F C.G n0) n tg' d env s) (ifs := ifs)
        S.calm S.nd (by rw [S.N]; exact ht.1) loc sw (si it hn S tk tgE h4) ok (fun Z s H Ca cl fp => sg tg' hn (blk Z s H Ca cl fp) takes00 (by rw [own_ix]; exact ho) h5)
        (fun Z s H Ca cl fp => sc c hn (blk Z s H Ca cl fp) takes00 h6) (fun Z s H Ca cl fp => (se el hn (blk Z s H Ca cl fp) takes00 h7).pe) (noSet_ok h1)
      rw [own_ix] at q
      exact q
mutual
theorem ss {C : Ck} {F n0 : Nat} : ∀ (s : S) {B : Bk} {X : Cx} {M : Kit} {W : WX} {n : Nat} (hn : n ≤ n0) (S : Sd2 C B X M F n) (tk : L2N.Takes X W) {x : Stmt}, chkS C B s x = true → PS X x (tS M W (fun env s' => denS F (callT F C.G n0) n s env s'))
  | .set t e, B, X, M, W, n, hn, S, tk, x, h => by
    simp only [chkS] at h
    split at h <;> first | (cases h; done) | skip
    rename_i tg v p e1
    rw [asAsg_eq e1]
    exact chkSet_ok hn S.toSd tk h
  | .par i j a b, B, X, M, W, n, hn, S, tk, x, h => by
    simp only [chkS] at h
    split at h <;> first | (cases h; done) | skip
    rename_i tg v p e1
    split at h <;> first | (cases h; done) | skip
    rename_i x px y py k p1 u w k2 p2 e2
    simp only [Bool.and_eq_true, decide_eq_true_eq, Bool.not_eq_true', localN] at h
    obtain ⟨⟨⟨⟨⟨⟨⟨⟨⟨h1, h2⟩, h3⟩, h4⟩, h5⟩, h6⟩, h7⟩, h8⟩, h9⟩, h10⟩ := h
    obtain ⟨rfl, rfl⟩ := asPar_eq e2
    rw [asAsg_eq e1]
    exact ss_par S.calm S.nd (by rw [S.N]; exact h1) (by rw [S.N]; exact h2) h3 S.kind (by rw [S.names]; exact h4) (by rw [S.names]; exact h5) (by rw [S.names]; exact h6) h7 h8 (se a hn S.toSd tk h9) (se b hn S.toSd tk h10)
  | .par3 i j k a b c, B, X, M, W, n, hn, S, tk, x, h => by
    simp only [chkS] at h
    split at h <;> first | (cases h; done) | skip
    rename_i tg v p e1
    split at h <;> first | (cases h; done) | skip
    rename_i x px y py z pz k p1 u w q k2 p2 e2
    simp only [Bool.and_eq_true, decide_eq_true_eq, Bool.not_eq_true', localN] at h
    obtain ⟨⟨⟨⟨⟨⟨⟨⟨⟨⟨⟨⟨⟨⟨⟨h1, h2⟩, h3⟩, h4⟩, h5⟩, h6⟩, h7⟩, h8⟩, h9⟩, h10⟩, h11⟩, h12⟩, h13⟩, h14⟩, h15⟩, h16⟩ := h
    obtain ⟨rfl, rfl⟩ := asPar_eq e2
    rw [asAsg_eq e1]
    exact ss_par3 S.calm S.nd (by rw [S.N]; exact h1) (by rw [S.N]; exact h2) (by rw [S.N]; exact h3) h4 h5 h6 S.kind (by rw [S.names]; exact h7) (by rw [S.names]; exact h8) (by rw [S.names]; exact h9) (by rw [S.names]; exact h10) h11 h12 h13
      (se a hn S.toSd tk h14) (se b hn S.toSd tk h15) (se c hn S.toSd tk h16)
  | .aug i o e, B, X, M, W, n, hn, S, tk, x, h => by
    simp only [chkS] at h
    split at h <;> first | (cases h; done) | skip
    rename_i y p1 v p e1
    simp only [Bool.and_eq_true, decide_eq_true_eq] at h
    obtain ⟨⟨⟨h1, h2⟩, h3⟩, h4⟩ := h
    obtain ⟨l, f⟩ := S.tgt h3
    rw [asAug_eq e1]
    cases o <;> first | (cases h1; done) | skip
    exact ss_aug S.nd (by rw [S.N]; exact h2) l f (se e hn S.toSd tk h4)
  | .ex e, B, X, M, W, n, hn, S, tk, x, h => by
    simp only [chkS] at h
    split at h <;> first | (cases h; done) | skip
    rename_i v p e1
    simp only [Bool.and_eq_true, Bool.not_eq_true'] at h
    rw [asEx_eq e1]
    exact ss_ex h.1 (se e hn S.toSd tk h.2)
  | .ret e, B, X, M, W, n, hn, S, tk, x, h => by
    simp only [chkS] at h
    split at h <;> first | (cases h; done) | skip
    rename_i v p e1
    rw [asRet_eq e1]
    exact ss_ret (se e hn S.toSd tk h)
  | .retn, B, X, M, W, n, hn, S, tk, x, h => by
    simp only [chkS] at h
    split at h <;> first | (cases h; done) | skip
    rename_i p e1
    rw [asRet_eq e1]
    exact ss_retn
  | .ite c a b, B, X, M, W, n, hn, S, tk, x, h => by
    simp only [chkS] at h
    split at h <;> first | (cases h; done) | skip
    rename_i y p q pos e1
    simp only [Bool.and_eq_true] at h
    rw [asIte_eq e1]
    exact ss_ite (se c hn S.toSd tk h.1.1) (sss a hn S tk h.1.2) (sss b hn S tk h.2)
  | .whl c b, B, X, M, W, n, hn, S, tk, x, h => by
    simp only [chkS] at h
    split at h <;> first | (cases h; done) | skip
    rename_i y p pos e1
    simp only [Bool.and_eq_true] at h
    rw [asWhl_eq e1]
    exact ss_whl S.own (se c hn S.toSd tk h.1) (sss b hn S tk h.2)
  | .forr t it b, B, X, M, W, n, hn, S, tk, x, h => by
    simp only [chkS] at h
    split at h <;> first | (cases h; done) | skip
    rename_i tg iter p pos e1
    simp only [Bool.and_eq_true] at h
    obtain ⟨⟨⟨h1, h2⟩, h3⟩, h4⟩ := h
    rw [asFor_eq e1]
    exact ss_for (own := tgVs t) S.own S.calm (si it hn S.toSd tk tg h3) (sg t hn S.toSd tk (fun _ z => z) h2) (sss b hn S tk h4) (noSet_ok h1)
  | .rai c, B, X, M, W, n, hn, S, tk, x, h => by
    simp only [chkS] at h
    split at h <;> first | (cases h; done) | skip
    rename_i y rest e1
    obtain ⟨p1, m, j, p2, p3, p⟩ := rest
    simp only [Bool.and_eq_true, beq_iff_eq, decide_eq_true_eq] at h
    obtain ⟨⟨rfl, h2⟩, h3⟩ := h
    rw [asRai_eq e1]
    exact ss_rai S.calm tk S.xc (S.xs c h2) (S.gl h3).1 (S.gl h3).2
  | .tryo b cs k d, B, X, M, W, n, hn, S, tk, x, h => by
    simp only [chkS] at h
    split at h <;> first | (cases h; done) | skip
    rename_i body y np a rest e1
    obtain ⟨rp, pos', p⟩ := rest
    simp only [Bool.and_eq_true, beq_iff_eq, decide_eq_true_eq, List.all_eq_true] at h
    obtain ⟨⟨⟨⟨⟨rfl, h2⟩, h3⟩, h4⟩, h5⟩, h6⟩ := h
    split at h5 <;> first | (cases h5; done) | skip
    rename_i d' e2
    rw [D.eqb_eq _ _ h5] at e2
    rw [asTry_eq e1]
    exact ss_tryo S.st S.fr tk S.xc (fun c hc => S.xs c (h3 c hc)) (S.xs k h2) (S.gl h4).1 (S.gl h4).2 e2 fun W pn xe tk' own =>
      sss b (X := X.tr pn xe) hn ⟨⟨S.N, S.nd, S.names, S.kind, S.fn, S.calm, ⟨S.tp.kit, S.tp.blt, S.tp.fns⟩, S.room, S.units, S.tops, S.xc, S.xs, S.lam, S.tr⟩, S.st, S.fr, own⟩ tk' h6
  | .pas, B, X, M, W, n, hn, S, tk, x, h => by
    simp only [chkS] at h
    unfold isPas at h
    split at h <;> first | exact ss_pass | exact ss_doc | cases h
  | .brk, B, X, M, W, n, hn, S, tk, x, h => by
    simp only [chkS] at h
    cases x <;> first | exact ss_brk | cases h
  | .cnt, B, X, M, W, n, hn, S, tk, x, h => by
    simp only [chkS] at h
    cases x <;> first | exact ss_cnt | cases h
theorem sss {C : Ck} {F n0 : Nat} : ∀ (s : Ss) {B : Bk} {X : Cx} {M : Kit} {W : WX} {n : Nat} (hn : n ≤ n0) (S : Sd2 C B X M F n) (tk : L2N.Takes X W) {l : List Stmt}, chkSs C B s l = true → PSs X l (tS M W (fun env s' => denSs F (callT F C.G n0) n s env s'))
  | .nil, B, X, M, W, n, hn, S, tk, l, h => by
    cases l with
    | nil => exact ss_nil
    | cons _ _ => cases h
  | .cons s r, B, X, M, W, n, hn, S, tk, l, h => by
    cases l with
    | nil => cases h
    | cons x xs =>
      simp only [chkSs, Bool.and_eq_true] at h
      exact ss_cons (ss s hn S tk h.1) (sss r hn S tk h.2)
end
end Dn

end
section
set_option Elab.async false
set_option maxRecDepth 100000
set_option maxHeartbeats 4000000
set_option linter.unusedVariables false
/-! Dn14: checked defs, a law's end. -/
namespace Dn
open PySem PySem.Spec PyProof.Rows L2 LamX

/-- what is common to a law's defs -/
structure Gx where
  G : List Fn
  U : List Nat
  tops : List (Str × D)
  xs : List Nat
  /-- whether lambdas are tried -/
  tr : Bool
/-- a def that makes lambdas: its code object, the table -/
def LamAt (cs : List (Addr × Addr)) (T : List (Addr × Str)) (x : Str) (fd : FuncData) : Prop := ∃ c P, fd.code = .ref c ∧ (c, P) ∈ cs ∧ (P, (x ++ ".<locals>.") ++ "<lambda>") ∈ T ∧ ∀ p ∈ T, p.1 = P → p.2 = (x ++ ".<locals>.") ++ "<lambda>"
/-- a def stands in the written part, its text checked -/
structure DefAt (K : PySem.W.Frag) (mg : Str → Option Value) (Q : Gx) (cs : List (Addr × Addr)) (T : List (Addr × Str)) (fn : Fn) (f : Addr) (fd : FuncData) (ps : List Str) : Prop where
  ex : ∃ (st : Stmt) (N : List Str) (lam : Bool), L2.Fun K fn.name fn.name st f fd ∧ FnScope N ps (defScope st) ∧ ps.length = fn.np ∧ N.length = fn.nsl ∧ chkSs ⟨N, Q.G, Q.U, Q.tops, Q.xs, lam⟩ ⟨(defScope st).names, true⟩ fn.body (defBody st) = true ∧ (lam = true → Q.tr = true ∧ LamAt cs T fn.name fd)
  mgf : mg fn.name = some (.ref f)
  binds : Binds K fd ps []
structure Hd (K : PySem.W.Frag) (mg : Str → Option Value) (M : Kit) (Q : Gx) (cs : List (Addr × Addr)) : Prop where
  kit : M.K = K
  blt : ∀ x ∈ bltNames, mg x = none
  defs : ∀ (i : Nat) (fn : Fn), i ∈ Q.U → Q.G[i]? = some fn → ∃ f fd ps, DefAt K mg Q cs M.T fn f fd ps
  tops : ∀ p ∈ Q.tops, ∃ v u, mg p.1 = some u ∧ RelV v u ∧ ∀ Z, KD (M.at Z) p.2 v
  xc : Xc K mg M
  xs : ∀ c ∈ Q.xs, c ∈ M.xs
  tr : Q.tr = true → TryF K mg M
section
variable {P : Program} {w : World} {K : PySem.W.Frag} {mg : Str → Option Value} {base : Heap} {M : Kit} {Q : Gx} {cs : List (Addr × Addr)} {F : Nat}
theorem start_len {N : List Str} {vs : List V} (h : vs.length ≤ N.length) : (L2.start N vs).length = N.length := by
  unfold L2.start
  rw [List.length_append, List.length_map, List.length_replicate]
  omega
theorem startE_ok {H : Hp} {β : List Addr} {s : Sto} {fn : Fn} {N : List Str} {args : List D} {vs : List V} (hN : N.length = fn.nsl) (hl : args.length ≤ fn.nsl) (r : RDs M H β s args vs) : RE M H β s (startE fn args) (L2.start N vs) := by
  have e := r.length
  refine ⟨?_, fun i d h => ?_⟩
  · rw [start_len (by omega)]
    unfold startE
    rw [List.length_append, List.length_map, List.length_replicate]
    omega
  · unfold startE at h
    by_cases hi : i < args.length
    · rw [List.getElem?_append_left (by rw [List.length_map]; exact hi), List.getElem?_map] at h
      cases e1 : args[i]? with
      | none => rw [e1] at h; cases h
      | some x =>
        rw [e1] at h
        cases h
        obtain ⟨v, h1, h2⟩ := r.get e1
        refine ⟨v, ?_, h2⟩
        unfold L2.start
        rw [List.getElem?_append_left (by rw [List.length_map, ← e]; exact hi), List.getElem?_map, h1]
        rfl
    · rw [List.getElem?_append_right (by rw [List.length_map]; omega), List.getElem?_replicate] at h
      split at h <;> cases h
theorem po_pos {H : Hp} {β : List Addr} {s : Sto} {r : SR} {Q : VK} {E : XK} (h : Po M (RD M) H β s (match r with
    | .nx _ s1 => .ok .non s1
    | .rt d s1 => .ok d s1
    | .exc c fs _ s1 => .exc c fs s1
    | _ => .bad) Q fun cv H' => E cv none H') : PoS M (fun c d _ H => E c d H) { nx := fun _ H' => Q .non H', rt := Q } H β s r := by
  cases r with
  | nx e s1 => exact fun H' β' σ' re rs k => h H' β' _ rs k rfl
  | rt d s1 => exact h
  | exc c fs e s1 => exact ⟨h.1, fun H' β' σ' re rs k => h.2 H' β' rs k⟩
  | bk e s1 => exact h.elim
  | ct e s1 => exact h.elim
  | bad => exact h.elim
theorem level (hd : Hd K mg M Q cs) (hT : ∀ p ∈ cs, TabB base mg p.1 p.2) : ∀ (n : Nat) (i : Nat) (fn : Fn) (f : Addr) (fd : FuncData) (ps : List Str), Q.G[i]? = some fn → DefAt K mg Q cs M.T fn f fd ps → FnOk P w K mg base (L2N.CX P w) n f fd ps (spD (M.at []) F Q.G n i) := by
  intro n
  induction n using Nat.strongRecOn with
  | ind n ih =>
    intro i fn f fd ps hG da
    obtain ⟨st, N, lam, fu, S, hnp, hN, hchk, hlam⟩ := da.ex
    have bad0 : ∀ {Z args s H β} {Q' : VK} {Wx : Value → Hp → Prop}, Po (M.at Z) (RD (M.at Z)) H β s (callD F Q.G 0 i args s) Q' Wx → False := fun {Z args s H β Q' Wx} h => h
    have len : ∀ vs H Q' E, spD (M.at []) F Q.G n i vs H Q' E → vs.length = ps.length := fun vs H Q' E ⟨Z, args, s, β, R, r, q⟩ => by
      cases n with
      | zero => exact (bad0 (Z := Z) q).elim
      | succ n =>
        rw [callD_succ, hG] at q
        unfold runFn at q
        by_cases hl : args.length = fn.np
        · rw [← r.length, hl, hnp]
        · dsimp only at q
          rw [if_neg hl] at q
          exact q.elim
    cases n with
    | zero => exact ⟨len, fun A outer s H args us vs Q' E _ _ _ _ ⟨Z, as, st, β, R, r, q⟩ => (bad0 (Z := Z) q).elim⟩
    | succ n =>
      obtain ⟨oc, od, kV, doc, pm, an, cdv, ct, osl, rfl, lk, hcd⟩ := fu.ex
      refine fn_of lk hcd S len fun A outer s H vs Q' E hr ⟨Z, args, st', β, R, r, q⟩ => ?_
      rw [callD_succ, hG] at q
      unfold runFn at q
      dsimp only at q
      by_cases hl : args.length = fn.np
      · rw [if_pos hl] at q
        have pl : ps.length ≤ N.length := by
          have e := congrArg List.length S.pre
          rw [List.length_take] at e
          omega
        have sd : Sd2 ⟨N, Q.G, Q.U, Q.tops, Q.xs, lam⟩ ⟨(defScope st).names, true⟩ (cxOf (L2N.CX P w) P w K mg base N fn.name (defScope st) f cdv A outer s H E) (M.at Z) F n :=
          ⟨⟨rfl, S.nd, rfl, S.kind, fun _ _ => rfl, rfl, ⟨hd.kit, hd.blt, fun j fn' hU' hG' => by
              obtain ⟨f', fd', ps', da'⟩ := hd.defs j fn' hU' hG'
              obtain ⟨_, _, _, fu', _⟩ := da'.ex
              exact ⟨f', fd', ps', da'.mgf, fu'.kp, da'.binds, fun m hm => ih m (Nat.lt_succ_of_le hm) j fn' f' fd' ps' hG' da'⟩⟩, hr, (by have := hr.un; show (A.deeper _).units + 65 < cLine; omega), hd.tops, ⟨hd.xc.own, hd.xc.one⟩, hd.xs, fun hl _ => by
            obtain ⟨_, c, P, e1, e2, e3, e4⟩ := hlam hl
            exact ⟨c, P, e1, hT _ e2, e3, e4⟩, fun hl => by
            have t := hd.tr (hlam hl).1
            exact ⟨t.tr, t.kin, t.arm, t.kc⟩⟩, rfl, rfl, PassesOwn.leaving⟩
        have body := sss (n0 := n) (W := fun cls d _ H => E cls d H) fn.body (Nat.le_refl n) sd (L2N.takes_of rfl rfl rfl rfl) hchk
        exact ⟨_, body, startE fn args, st', β, startE_ok hN (by rw [hl, ← hnp, ← hN]; exact pl) r, R, po_pos (M := M.at Z) q⟩
      · rw [if_neg hl] at q
        exact q.elim
end
theorem cx_end {P : Program} {w : World} {H : Hp} {s : Shared} {e : Value} {s' : Shared} (h : L2N.CX P w [] H s (fun _ _ _ => False) e s') : False := by
  obtain ⟨_, _, _, _, _, _, _, _, _, _, _, _, z⟩ := h
  exact z
/-- the end of a law whose defs make no code objects -/
theorem law_end {l : PySem.W.OpenLaw} {n k F i : Nat} {q : Program} {loose : List Str} {XP : (Str → Option Value) → Heap → Prop} {YP : World → Heap → Prop} {d : DefRec} {K : Params → PySem.W.Frag} {Q : Gx} {fn : Fn} {x : Str}
    (hn : l.most = some n) (hn2 : n ≤ sizeLine) (hdf : d.params.defaults = []) (hr : Room k callerA) (hY : ∀ (w : World) (h : Heap), YP w h → (K w.params).In h) (hG : Q.G[i]? = some fn) (hname : fn.name = d.name)
    (A : ∀ (w : World) (mg : Str → Option Value) (h : Heap), (K w.params).In h → h.Ns mainGlobals mg → ∃ (M : Kit) (f : Addr) (fd : FuncData), M.T = [] ∧ Hd (K w.params) mg M Q [] ∧ DefAt (K w.params) mg Q [] M.T fn f fd [x] ∧ ∀ (s : Shared) (u : Value), BindsTo s fd ⟨[u], []⟩ [(x, u)])
    (law : ∀ ns : List Int, ns.length ≤ n → (∀ z ∈ ns, Builtin.Int.intBits z ≤ 1048576) → ∃ s, callD F Q.G k i [.rol (ns.map D.int)] [] = .ok (.bl true) s) :
    PySem.W.WalkO q loose XP YP l.row.toRowW d [] (fun f vs => PySem.call f vs) := by
  refine walk_ofTs (x := x) (k := k) (CX := fun w => L2N.CX l.prog w) hn hn2 hdf hr hY (fun w mg fa h Y KX G hmg => ?_) fun w H s e s' => cx_end
  obtain ⟨M, f, fd, hT, hd, da, hb⟩ := A w mg h KX G
  have e : fa = f := by
    have z := da.mgf
    rw [hname, hmg] at z
    injection z with z
    injection z
  subst e
  refine ⟨fd, [], spD (M.at []) F Q.G k i, fun p hp => (nomatch hp), fun p hp => (nomatch hp), fun p hp => (nomatch hp), hb, fun H a ns hl hbits _ hS => ?_, fun base _ _ hT' => level hd hT' k i fn fa fd [x] hG da⟩
  obtain ⟨s, hs⟩ := law ns hl hbits
  refine ⟨[], [.rol (ns.map D.int)], [], [], ⟨rfl, fun i a c h => by simp at h, fun i j a c c' h => by simp at h, by show Tabs M.T H; rw [hT]; exact fun p hp => (nomatch hp), fun a ha => (nomatch ha)⟩, ⟨?_, trivial⟩, ?_⟩
  · refine ⟨a, ns.map V.int, rfl, ?_, ?_⟩
    · rcases hS with hS | hS
      · exact .inl ⟨hS, fun ⟨i, c, h, _⟩ => by simp at h, fun z => nomatch z⟩
      · exact .inr (by have := hd.kit; show KLst M.K a _; rw [this]; exact hS)
    · clear hS hs hl hbits
      induction ns with
      | nil => trivial
      | cons z ns ih => exact ⟨rfl, ih⟩
  · rw [hs]
    exact fun H' β' v _ _ rv => rv

/-- the end of a law whose defs make lambdas: ts, the tables that stand empty -/
theorem law_endT {l : PySem.W.OpenLaw} {n k i : Nat} {q : Program} {loose : List Str} {XP : (Str → Option Value) → Heap → Prop} {YP : World → Heap → Prop} {d : DefRec} {K : Params → PySem.W.Frag} {Q : Gx} {fn : Fn} {x : Str} {ts : List Addr}
    (hn : l.most = some n) (hn2 : n ≤ sizeLine) (hdf : d.params.defaults = []) (hr : Room k callerA) (hY : ∀ (w : World) (h : Heap), YP w h → (K w.params).In h) (hY2 : ∀ (w : World) (h : Heap), YP w h → ∀ P ∈ ts, h.get? P = some { cls := .none, data := .fields #[] })
    (hG : Q.G[i]? = some fn) (hname : fn.name = d.name)
    (A : ∀ (w : World) (mg : Str → Option Value) (h : Heap) (ts' : List Addr), ts' = ts → (K w.params).In h → h.Ns mainGlobals mg → ∃ (M : Kit) (f : Addr) (fd : FuncData) (cs : List (Addr × Addr)), (∀ p ∈ cs, p.2 ∈ ts' ∧ (K w.params).lookup p.2 = none ∧ PySem.W.codeHdIn (K w.params) p.1 p.2 = true) ∧ (∀ t ∈ M.T, ∃ p ∈ cs, p.2 = t.1) ∧
      Hd (K w.params) mg M Q cs ∧ DefAt (K w.params) mg Q cs M.T fn f fd [x] ∧ ∀ (s : Shared) (u : Value), BindsTo s fd ⟨[u], []⟩ [(x, u)])
    (law : ∀ ns : List Int, ns.length ≤ n → (∀ z ∈ ns, Builtin.Int.intBits z ≤ 1048576) → ∃ s F, callD F Q.G k i [.rol (ns.map D.int)] [] = .ok (.bl true) s) :
    PySem.W.WalkO q loose XP YP l.row.toRowW d [] (fun f vs => PySem.call f vs) := by
  refine walk_ofTs (x := x) (k := k) (CX := fun w => L2N.CX l.prog w) hn hn2 hdf hr hY (fun w mg fa h Y KX G hmg => ?_) fun w H s e s' => cx_end
  obtain ⟨M, f, fd, cs, hcs, hT, hd, da, hb⟩ := A w mg h ts rfl KX G
  have e : fa = f := by
    have z := da.mgf
    rw [hname, hmg] at z
    injection z with z
    injection z
  subst e
  refine ⟨fd, cs, fun vs H Q' E => ∃ F, spD (M.at []) F Q.G k i vs H Q' E, fun p hp => hY2 w h Y _ (hcs p hp).1, fun p hp => (hcs p hp).2.1, fun p hp => PySem.W.codeHd_of_K KX (hcs p hp).2.2, hb, fun H a ns hl hbits hTb hS => ?_, fun base _ _ hT' => ?_⟩
  · obtain ⟨s, F, hs⟩ := law ns hl hbits
    refine ⟨F, [], [.rol (ns.map D.int)], [], [], ⟨rfl, fun i a c h => by simp at h, fun i j a c c' h => by simp at h, fun t ht => ?_, fun a ha => (nomatch ha)⟩, ⟨?_, trivial⟩, ?_⟩
    · obtain ⟨p, hp, e⟩ := hT t ht
      rw [← e]
      exact .nil (hTb p hp)
    · refine ⟨a, ns.map V.int, rfl, ?_, ?_⟩
      · rcases hS with hS | hS
        · exact .inl ⟨hS, fun ⟨i, c, h, _⟩ => by simp at h, fun z => nomatch z⟩
        · exact .inr (by have := hd.kit; show KLst M.K a _; rw [this]; exact hS)
      · clear hS hs hl hbits
        induction ns with
        | nil => trivial
        | cons z ns ih => exact ⟨rfl, ih⟩
    · rw [hs]
      exact fun H' β' v _ _ rv => rv
  · have lv := fun F => level (P := l.prog) (w := w) (F := F) (base := base) hd hT' k i fn fa fd [x] hG da
    exact ⟨fun vs H Q' E ⟨F, h⟩ => (lv F).len vs H Q' E h, fun A outer s H args us vs Q' E h1 h2 h3 h4 ⟨F, h⟩ => (lv F).run A outer s H args us vs Q' E h1 h2 h3 h4 h⟩

/-! ### the head's facts -/
theorem def_at {K : PySem.W.Frag} {h : Heap} {mg : Str → Option Value} {Q : Gx} {cs : List (Addr × Addr)} {T : List (Addr × Str)} {fn : Fn} {st : Stmt} {N ps : List Str} (S : FnScope N ps (defScope st)) (h1 : ps.length = fn.np) (h2 : N.length = fn.nsl)
    (hc : chkSs ⟨N, Q.G, Q.U, Q.tops, Q.xs, false⟩ ⟨(defScope st).names, true⟩ fn.body (defBody st) = true)
    (hb : ∀ (kV doc pm : Value) (an : Option Addr) (cdv ct : Value) (us : List Value), us.length = ps.length → bindArgs (PySem.W.fnOf fn.name fn.name (defArgs st) (defBody st) (defScope st) .none kV doc pm an cdv ct) ⟨us, []⟩ = pure (ps.zip us))
    (X : K.In h) (G : h.Ns mainGlobals mg) {f : Addr} {oc kV dc pm cd ct : Value} {od an : Option Addr} {sl : Array (Option Value)} (a : PySem.W.nsIn K mainGlobals fn.name = some (some (.ref f)))
    (l : K.lookup f = some ⟨oc, od, .func (PySem.W.fnOf fn.name fn.name (defArgs st) (defBody st) (defScope st) .none kV dc pm an cd ct), sl⟩) (c : PySem.W.codeIn K cd fn.name = true) (k : PySem.W.keepIn K (.ref f) = true) :
    DefAt K mg Q cs T fn f (PySem.W.fnOf fn.name fn.name (defArgs st) (defBody st) (defScope st) .none kV dc pm an cd ct) ps :=
  have F := L2.fun_mk (st := st) l c k
  ⟨⟨st, N, false, F, S, h1, h2, hc, fun z => nomatch z⟩, PySem.W.mg_of X G a, F.binds hb⟩
/-- a def that makes lambdas -/
theorem def_atL {K : PySem.W.Frag} {h : Heap} {mg : Str → Option Value} {Q : Gx} {cs : List (Addr × Addr)} {T : List (Addr × Str)} {fn : Fn} {st : Stmt} {N ps : List Str} (S : FnScope N ps (defScope st)) (h1 : ps.length = fn.np) (h2 : N.length = fn.nsl)
    (hc : chkSs ⟨N, Q.G, Q.U, Q.tops, Q.xs, true⟩ ⟨(defScope st).names, true⟩ fn.body (defBody st) = true)
    (hb : ∀ (kV doc pm : Value) (an : Option Addr) (cdv ct : Value) (us : List Value), us.length = ps.length → bindArgs (PySem.W.fnOf fn.name fn.name (defArgs st) (defBody st) (defScope st) .none kV doc pm an cdv ct) ⟨us, []⟩ = pure (ps.zip us))
    (X : K.In h) (G : h.Ns mainGlobals mg) {f c0 : Addr} {oc kV dc pm ct : Value} {od an : Option Addr} {sl : Array (Option Value)} (a : PySem.W.nsIn K mainGlobals fn.name = some (some (.ref f)))
    (l : K.lookup f = some ⟨oc, od, .func (PySem.W.fnOf fn.name fn.name (defArgs st) (defBody st) (defScope st) .none kV dc pm an (.ref c0) ct), sl⟩) (c : PySem.W.codeIn K (.ref c0) fn.name = true) (k : PySem.W.keepIn K (.ref f) = true)
    (tr : Q.tr = true) (lm : ∃ P, (c0, P) ∈ cs ∧ (P, (fn.name ++ ".<locals>.") ++ "<lambda>") ∈ T ∧ ∀ p ∈ T, p.1 = P → p.2 = (fn.name ++ ".<locals>.") ++ "<lambda>") :
    DefAt K mg Q cs T fn f (PySem.W.fnOf fn.name fn.name (defArgs st) (defBody st) (defScope st) .none kV dc pm an (.ref c0) ct) ps :=
  have F := L2.fun_mk (st := st) l c k
  let ⟨P, m1, m2, m3⟩ := lm
  ⟨⟨st, N, true, F, S, h1, h2, hc, fun _ => ⟨tr, c0, P, rfl, m1, m2, m3⟩⟩, PySem.W.mg_of X G a, F.binds hb⟩
/-- the used defs, one after another -/
inductive Defs (K : PySem.W.Frag) (mg : Str → Option Value) (Q : Gx) (cs : List (Addr × Addr)) (T : List (Addr × Str)) : List Nat → Prop
  | nil : Defs K mg Q cs T []
  | cons {i : Nat} {r : List Nat} {fn : Fn} {f : Addr} {fd : FuncData} {ps : List Str} (g : Q.G[i]? = some fn) (d : DefAt K mg Q cs T fn f fd ps) (t : Defs K mg Q cs T r) : Defs K mg Q cs T (i :: r)
theorem Defs.get {K : PySem.W.Frag} {mg : Str → Option Value} {Q : Gx} {cs : List (Addr × Addr)} {T : List (Addr × Str)} : ∀ {l : List Nat}, Defs K mg Q cs T l → ∀ (i : Nat) (fn : Fn), i ∈ l → Q.G[i]? = some fn → ∃ f fd ps, DefAt K mg Q cs T fn f fd ps
  | _, .nil, _, _, h, _ => nomatch h
  | _, .cons g d t, i, fn, h, e => by
    rcases List.mem_cons.mp h with rfl | h
    · rw [g] at e
      cases e
      exact ⟨_, _, _, d⟩
    · exact t.get i fn h e
theorem blt_ok {K : PySem.W.Frag} {h : Heap} {mg : Str → Option Value} (X : K.In h) (G : h.Ns mainGlobals mg) (z1 : PySem.W.nsIn K mainGlobals "len" = some none) (z2 : PySem.W.nsIn K mainGlobals "abs" = some none) (z3 : PySem.W.nsIn K mainGlobals "int" = some none)
    (z4 : PySem.W.nsIn K mainGlobals "list" = some none) (z5 : PySem.W.nsIn K mainGlobals "tuple" = some none) (z6 : PySem.W.nsIn K mainGlobals "any" = some none) (z7 : PySem.W.nsIn K mainGlobals "all" = some none) (z8 : PySem.W.nsIn K mainGlobals "isinstance" = some none)
    (z9 : PySem.W.nsIn K mainGlobals "range" = some none) (z10 : PySem.W.nsIn K mainGlobals "enumerate" = some none) (z11 : PySem.W.nsIn K mainGlobals "zip" = some none) (z12 : PySem.W.nsIn K mainGlobals "bool" = some none) (z13 : PySem.W.nsIn K mainGlobals "str" = some none) :
    ∀ x ∈ bltNames, mg x = none := fun x hx => by
  simp only [bltNames, List.mem_cons, List.not_mem_nil, or_false] at hx
  rcases hx with rfl | rfl | rfl | rfl | rfl | rfl | rfl | rfl | rfl | rfl | rfl | rfl | rfl
  · exact PySem.W.mg_none_of X G z1
  · exact PySem.W.mg_none_of X G z2
  · exact PySem.W.mg_none_of X G z3
  · exact PySem.W.mg_none_of X G z4
  · exact PySem.W.mg_none_of X G z5
  · exact PySem.W.mg_none_of X G z6
  · exact PySem.W.mg_none_of X G z7
  · exact PySem.W.mg_none_of X G z8
  · exact PySem.W.mg_none_of X G z9
  · exact PySem.W.mg_none_of X G z10
  · exact PySem.W.mg_none_of X G z11
  · exact PySem.W.mg_none_of X G z12
  · exact PySem.W.mg_none_of X G z13
/-- an error's class among the written part -/
structure XcAt (K : PySem.W.Frag) (mg : Str → Option Value) (c : Nat) (C : Addr) : Prop where
  m : mg (clsName c) = some (.ref C)
  x : PySem.W.excIn K C bmV "ValueError.__new__" = true
  k : PySem.W.keepIn K (.ref C) = true
  b : PySem.W.subIn K (.ref C) (.type "BaseException") = some true
  t : PySem.W.typeIn K (.ref C) = some (.type "type")
  i : PySem.W.isClsIn K C = true
theorem xc_at {K : PySem.W.Frag} {h : Heap} {mg : Str → Option Value} {c : Nat} (X : K.In h) (G : h.Ns mainGlobals mg) {C : Addr} (a : PySem.W.nsIn K mainGlobals (clsName c) = some (some (.ref C))) (x : PySem.W.excIn K C bmV "ValueError.__new__" = true) (k : PySem.W.keepIn K (.ref C) = true)
    (b : PySem.W.subIn K (.ref C) (.type "BaseException") = some true) (t : PySem.W.typeIn K (.ref C) = some (.type "type"))
    (i : PySem.W.isClsIn K C = true) : XcAt K mg c C := ⟨PySem.W.mg_of X G a, x, k, b, t, i⟩
theorem exm_is {K : PySem.W.Frag} {S S' : Addr} {r : Bool} (h1 : PySem.W.subIn K (.ref S') (.type "BaseException") = some true) (h2 : PySem.W.isClsIn K S' = true) (h3 : PySem.W.typeIn K (.ref S') = some (.type "type")) (h4 : PySem.W.subIn K (.ref S) (.ref S') = some r) :
    PySem.W.exmOne K (.ref S) (.ref S') = some r := by
  have g : (PySem.W.clsIn K S').isSome = true := h2
  simp only [PySem.W.exmOne, PySem.W.kitCls, h1, h3, g, h4, Bool.true_and]
  rfl
theorem lookup_nd {l : List (Nat × Addr)} (nd : (l.map (·.1)).Nodup) : ∀ p ∈ l, l.lookup p.1 = some p.2 := by
  induction l with
  | nil => exact fun p h => nomatch h
  | cons q r ih =>
    intro p hp
    rw [List.map_cons, List.nodup_cons] at nd
    obtain ⟨c, C⟩ := q
    rw [List.lookup_cons]
    rcases List.mem_cons.mp hp with rfl | hp
    · simp
    · have ne : (p.1 == c) = false := by
        rw [beq_eq_false_iff_ne]
        exact fun e => nd.1 (by rw [← e]; exact List.mem_map.mpr ⟨p, hp, rfl⟩)
      rw [ne]
      exact ih nd.2 p hp
def cvOf (l : List (Nat × Addr)) (c : Nat) : Value := match l.lookup c with
  | some a => .ref a
  | none => .none
theorem xc_mk {K : PySem.W.Frag} {h : Heap} {mg : Str → Option Value} (X : K.In h) (G : h.Ns mainGlobals mg) (l : List (Nat × Addr)) (nd : (l.map (·.1)).Nodup) (own : ∀ p ∈ l, XcAt K mg p.1 p.2)
    (one : ∀ p ∈ l, ∀ q ∈ l, PySem.W.subIn K (.ref p.2) (.ref q.2) = some (takesC q.1 p.1)) (T : List (Addr × Str) := []) : ∃ M : Kit, M.K = K ∧ M.T = T ∧ Xc K mg M ∧ M.xs = l.map (·.1) ∧ M.cv = cvOf l := by
  have at_ : ∀ c ∈ l.map (·.1), ∃ C, (c, C) ∈ l ∧ cvOf l c = .ref C := fun c hc => by
    obtain ⟨p, hp, rfl⟩ := List.mem_map.mp hc
    exact ⟨p.2, hp, by unfold cvOf; rw [lookup_nd nd p hp]⟩
  refine ⟨⟨K, T, cvOf l, l.map (·.1), []⟩, rfl, rfl, ⟨fun c hc => ?_, fun c hc k hk => ?_⟩, rfl, rfl⟩
  · obtain ⟨C, hp, e⟩ := at_ c hc
    have q := own _ hp
    exact ⟨C, e, q.m, q.x, q.k, q.b, q.t⟩
  · obtain ⟨C, hp, e⟩ := at_ c hc
    obtain ⟨C', hp', e'⟩ := at_ k hk
    have q := own _ hp'
    show PySem.W.exmOne K (cvOf l c) (cvOf l k) = _
    rw [e, e']
    exact exm_is q.b q.i q.t (one _ hp _ hp')
mutual
/-- a constant of the module, as the written part has it -/
inductive KV (K : PySem.W.Frag) : D → Value → Prop
  | int {i : Int} {t : Tok} : KV K (.int i) (.int i t)
  | str {x : Str} {t : Tok} : KV K (.str x) (.str x t)
  | tup {ds : List D} {its : Array Value} {n : Nat} {od : Option Addr} {sl : Array (Option Value)} {f : Addr} (l : K.lookup f = some ⟨.type "tuple", od, .seq its n, sl⟩) (h : KVs K ds its.toList) (z : its.size ≤ sizeLine) : KV K (.tup ds) (.ref f)
inductive KVs (K : PySem.W.Frag) : List D → List Value → Prop
  | nil : KVs K [] []
  | cons {d : D} {ds : List D} {v : Value} {vs : List Value} (h : KV K d v) (t : KVs K ds vs) : KVs K (d :: ds) (v :: vs)
end
mutual
theorem KV.rd {K : PySem.W.Frag} : ∀ {d : D} {u : Value}, KV K d u → ∃ v, RelV v u ∧ ∀ M : Kit, M.K = K → KD M d v
  | _, _, .int (i := i) (t := t) => ⟨.int i, ⟨t, rfl⟩, fun _ _ _ _ _ => rfl⟩
  | _, _, .str (x := x) (t := t) => ⟨.str x, ⟨t, rfl⟩, fun _ _ _ _ _ => rfl⟩
  | _, _, .tup (f := f) l h z => by
    obtain ⟨vs, r, q⟩ := KVs.rd h
    refine ⟨.ref f, rfl, fun M hM H β s => ⟨f, vs, rfl, .inr ⟨_, _, _, by rw [hM]; exact l, rfl, rfl, z, r⟩, q M hM H β s⟩⟩
theorem KVs.rd {K : PySem.W.Frag} : ∀ {ds : List D} {us : List Value}, KVs K ds us → ∃ vs, Vals vs us ∧ ∀ M : Kit, M.K = K → ∀ H β s, RDs M H β s ds vs
  | _, _, .nil => ⟨[], .nil, fun _ _ _ _ _ => trivial⟩
  | _, _, .cons h t => by
    obtain ⟨v, r, q⟩ := KV.rd h
    obtain ⟨vs, r2, q2⟩ := KVs.rd t
    exact ⟨v :: vs, .cons r r2, fun M hM H β s => ⟨q M hM H β s, q2 M hM H β s⟩⟩
end
/-- a constant's fact -/
def TopAt (K : PySem.W.Frag) (mg : Str → Option Value) (p : Str × D) : Prop := ∃ u, mg p.1 = some u ∧ KV K p.2 u
theorem top_tup {K : PySem.W.Frag} {h : Heap} {mg : Str → Option Value} (X : K.In h) (G : h.Ns mainGlobals mg) {x : Str} {ds : List D} {its : Array Value} {n : Nat} {od : Option Addr} {sl : Array (Option Value)} {f : Addr} (a : PySem.W.nsIn K mainGlobals x = some (some (.ref f)))
    (l : K.lookup f = some ⟨.type "tuple", od, .seq its n, sl⟩) (hh : KVs K ds its.toList) (z : its.size ≤ sizeLine) : TopAt K mg (x, .tup ds) := ⟨_, PySem.W.mg_of X G a, .tup l hh z⟩
theorem hd_mk {K : PySem.W.Frag} {mg : Str → Option Value} {M : Kit} {Q : Gx} {cs : List (Addr × Addr)} (eK : M.K = K) (bl : ∀ x ∈ bltNames, mg x = none) (ds : Defs K mg Q cs M.T Q.U) (ts : ∀ p ∈ Q.tops, TopAt K mg p) (xc : Xc K mg M) (ex : M.xs = Q.xs) (tr : Q.tr = true → TryF K mg M) : Hd K mg M Q cs :=
  ⟨eK, bl, fun i fn hi hg => ds.get i fn hi hg, fun p hp => by
    obtain ⟨u, h1, h2⟩ := ts p hp
    obtain ⟨v, r, q⟩ := h2.rd
    exact ⟨v, u, h1, r, fun Z => q (M.at Z) eK⟩, xc, fun c hc => by rw [ex]; exact hc, tr⟩
theorem xc_1 {K : PySem.W.Frag} {h : Heap} {mg : Str → Option Value} (X : K.In h) (G : h.Ns mainGlobals mg) (c1 : Nat) (x1 : Str) (h1 : clsName c1 = x1) (nd : [c1].Nodup) (n0 : 0 ∉ [c1]) {C1 : Addr}
    (a1 : PySem.W.nsIn K mainGlobals x1 = some (some (.ref C1))) (i1 : PySem.W.isClsIn K C1 = true) (e1 : PySem.W.excIn K C1 bmV "ValueError.__new__" = true) (k1 : PySem.W.keepIn K (.ref C1) = true) (b1 : PySem.W.subIn K (.ref C1) (.type "BaseException") = some true) (t1 : PySem.W.typeIn K (.ref C1) = some (.type "type"))
    (s1_1 : PySem.W.subIn K (.ref C1) (.ref C1) = some true) : ∃ M : Kit, M.K = K ∧ M.T = [] ∧ Xc K mg M ∧ M.xs = [c1] ∧ M.cv = cvOf [(c1, C1)] := by
  subst h1
  have tk : ∀ {c d : Nat}, c ∈ [c1] → takesC c d = (c == d) := fun {c d} hc => by
    unfold takesC
    have z : (c == 0) = false := by rw [beq_eq_false_iff_ne]; intro e; rw [e] at hc; exact n0 hc
    rw [z]; rfl
  exact xc_mk X G [(c1, C1)] (by simp) (List.forall_mem_cons.mpr ⟨xc_at X G a1 e1 k1 b1 t1 i1, (List.forall_mem_nil _)⟩)
    (List.forall_mem_cons.mpr ⟨(List.forall_mem_cons.mpr ⟨(by rw [tk (by simp), beq_self_eq_true]; exact s1_1), (List.forall_mem_nil _)⟩), (List.forall_mem_nil _)⟩)
theorem xc_2 {K : PySem.W.Frag} {h : Heap} {mg : Str → Option Value} (X : K.In h) (G : h.Ns mainGlobals mg) (c1 c2 : Nat) (x1 x2 : Str) (h1 : clsName c1 = x1) (h2 : clsName c2 = x2) (nd : [c1, c2].Nodup) (n0 : 0 ∉ [c1, c2]) {C1 C2 : Addr}
    (a1 : PySem.W.nsIn K mainGlobals x1 = some (some (.ref C1))) (i1 : PySem.W.isClsIn K C1 = true) (e1 : PySem.W.excIn K C1 bmV "ValueError.__new__" = true) (k1 : PySem.W.keepIn K (.ref C1) = true) (b1 : PySem.W.subIn K (.ref C1) (.type "BaseException") = some true) (t1 : PySem.W.typeIn K (.ref C1) = some (.type "type"))
    (a2 : PySem.W.nsIn K mainGlobals x2 = some (some (.ref C2))) (i2 : PySem.W.isClsIn K C2 = true) (e2 : PySem.W.excIn K C2 bmV "ValueError.__new__" = true) (k2 : PySem.W.keepIn K (.ref C2) = true) (b2 : PySem.W.subIn K (.ref C2) (.type "BaseException") = some true) (t2 : PySem.W.typeIn K (.ref C2) = some (.type "type"))
    (s1_1 : PySem.W.subIn K (.ref C1) (.ref C1) = some true)
    (s1_2 : PySem.W.subIn K (.ref C1) (.ref C2) = some false)
    (s2_1 : PySem.W.subIn K (.ref C2) (.ref C1) = some false)
    (s2_2 : PySem.W.subIn K (.ref C2) (.ref C2) = some true) : ∃ M : Kit, M.K = K ∧ M.T = [] ∧ Xc K mg M ∧ M.xs = [c1, c2] ∧ M.cv = cvOf [(c1, C1), (c2, C2)] := by
  subst h1
  subst h2
  have tk : ∀ {c d : Nat}, c ∈ [c1, c2] → takesC c d = (c == d) := fun {c d} hc => by
    unfold takesC
    have z : (c == 0) = false := by rw [beq_eq_false_iff_ne]; intro e; rw [e] at hc; exact n0 hc
    rw [z]; rfl
  simp only [List.nodup_cons, List.mem_cons, List.not_mem_nil, or_false, not_or] at nd
  exact xc_mk X G [(c1, C1), (c2, C2)] (by simp; omega) (List.forall_mem_cons.mpr ⟨xc_at X G a1 e1 k1 b1 t1 i1, (List.forall_mem_cons.mpr ⟨xc_at X G a2 e2 k2 b2 t2 i2, (List.forall_mem_nil _)⟩)⟩)
    (List.forall_mem_cons.mpr ⟨(List.forall_mem_cons.mpr ⟨(by rw [tk (by simp), beq_self_eq_true]; exact s1_1), (List.forall_mem_cons.mpr ⟨(by rw [tk (by simp), beq_eq_false_iff_ne.mpr (by omega)]; exact s1_2), (List.forall_mem_nil _)⟩)⟩), (List.forall_mem_cons.mpr ⟨(List.forall_mem_cons.mpr ⟨(by rw [tk (by simp), beq_eq_false_iff_ne.mpr (by omega)]; exact s2_1), (List.forall_mem_cons.mpr ⟨(by rw [tk (by simp), beq_self_eq_true]; exact s2_2), (List.forall_mem_nil _)⟩)⟩), (List.forall_mem_nil _)⟩)⟩)
theorem xc_3 {K : PySem.W.Frag} {h : Heap} {mg : Str → Option Value} (X : K.In h) (G : h.Ns mainGlobals mg) (c1 c2 c3 : Nat) (x1 x2 x3 : Str) (h1 : clsName c1 = x1) (h2 : clsName c2 = x2) (h3 : clsName c3 = x3) (nd : [c1, c2, c3].Nodup) (n0 : 0 ∉ [c1, c2, c3]) {C1 C2 C3 : Addr}
    (a1 : PySem.W.nsIn K mainGlobals x1 = some (some (.ref C1))) (i1 : PySem.W.isClsIn K C1 = true) (e1 : PySem.W.excIn K C1 bmV "ValueError.__new__" = true) (k1 : PySem.W.keepIn K (.ref C1) = true) (b1 : PySem.W.subIn K (.ref C1) (.type "BaseException") = some true) (t1 : PySem.W.typeIn K (.ref C1) = some (.type "type"))
    (a2 : PySem.W.nsIn K mainGlobals x2 = some (some (.ref C2))) (i2 : PySem.W.isClsIn K C2 = true) (e2 : PySem.W.excIn K C2 bmV "ValueError.__new__" = true) (k2 : PySem.W.keepIn K (.ref C2) = true) (b2 : PySem.W.subIn K (.ref C2) (.type "BaseException") = some true) (t2 : PySem.W.typeIn K (.ref C2) = some (.type "type"))
    (a3 : PySem.W.nsIn K mainGlobals x3 = some (some (.ref C3))) (i3 : PySem.W.isClsIn K C3 = true) (e3 : PySem.W.excIn K C3 bmV "ValueError.__new__" = true) (k3 : PySem.W.keepIn K (.ref C3) = true) (b3 : PySem.W.subIn K (.ref C3) (.type "BaseException") = some true) (t3 : PySem.W.typeIn K (.ref C3) = some (.type "type"))
    (s1_1 : PySem.W.subIn K (.ref C1) (.ref C1) = some true)
    (s1_2 : PySem.W.subIn K (.ref C1) (.ref C2) = some false)
    (s1_3 : PySem.W.subIn K (.ref C1) (.ref C3) = some false)
    (s2_1 : PySem.W.subIn K (.ref C2) (.ref C1) = some false)
    (s2_2 : PySem.W.subIn K (.ref C2) (.ref C2) = some true)
    (s2_3 : PySem.W.subIn K (.ref C2) (.ref C3) = some false)
    (s3_1 : PySem.W.subIn K (.ref C3) (.ref C1) = some false)
    (s3_2 : PySem.W.subIn K (.ref C3) (.ref C2) = some false)
    (s3_3 : PySem.W.subIn K (.ref C3) (.ref C3) = some true) : ∃ M : Kit, M.K = K ∧ M.T = [] ∧ Xc K mg M ∧ M.xs = [c1, c2, c3] ∧ M.cv = cvOf [(c1, C1), (c2, C2), (c3, C3)] := by
  subst h1
  subst h2
  subst h3
  have tk : ∀ {c d : Nat}, c ∈ [c1, c2, c3] → takesC c d = (c == d) := fun {c d} hc => by
    unfold takesC
    have z : (c == 0) = false := by rw [beq_eq_false_iff_ne]; intro e; rw [e] at hc; exact n0 hc
    rw [z]; rfl
  simp only [List.nodup_cons, List.mem_cons, List.not_mem_nil, or_false, not_or] at nd
  exact xc_mk X G [(c1, C1), (c2, C2), (c3, C3)] (by simp; omega) (List.forall_mem_cons.mpr ⟨xc_at X G a1 e1 k1 b1 t1 i1, (List.forall_mem_cons.mpr ⟨xc_at X G a2 e2 k2 b2 t2 i2, (List.forall_mem_cons.mpr ⟨xc_at X G a3 e3 k3 b3 t3 i3, (List.forall_mem_nil _)⟩)⟩)⟩)
    (List.forall_mem_cons.mpr ⟨(List.forall_mem_cons.mpr ⟨(by rw [tk (by simp), beq_self_eq_true]; exact s1_1), (List.forall_mem_cons.mpr ⟨(by rw [tk (by simp), beq_eq_false_iff_ne.mpr (by omega)]; exact s1_2), (List.forall_mem_cons.mpr ⟨(by rw [tk (by simp), beq_eq_false_iff_ne.mpr (by omega)]; exact s1_3), (List.forall_mem_nil _)⟩)⟩)⟩), (List.forall_mem_cons.mpr ⟨(List.forall_mem_cons.mpr ⟨(by rw [tk (by simp), beq_eq_false_iff_ne.mpr (by omega)]; exact s2_1), (List.forall_mem_cons.mpr ⟨(by rw [tk (by simp), beq_self_eq_true]; exact s2_2), (List.forall_mem_cons.mpr ⟨(by rw [tk (by simp), beq_eq_false_iff_ne.mpr (by omega)]; exact s2_3), (List.forall_mem_nil _)⟩)⟩)⟩), (List.forall_mem_cons.mpr ⟨(List.forall_mem_cons.mpr ⟨(by rw [tk (by simp), beq_eq_false_iff_ne.mpr (by omega)]; exact s3_1), (List.forall_mem_cons.mpr ⟨(by rw [tk (by simp), beq_eq_false_iff_ne.mpr (by omega)]; exact s3_2), (List.forall_mem_cons.mpr ⟨(by rw [tk (by simp), beq_self_eq_true]; exact s3_3), (List.forall_mem_nil _)⟩)⟩)⟩), (List.forall_mem_nil _)⟩)⟩)⟩)
end Dn

end
section
set_option Elab.async false
set_option maxRecDepth 100000
set_option maxHeartbeats 4000000
set_option linter.unusedVariables false
/-! Dn15: the head's facts of a law that tries lambdas. -/
namespace Dn
open PySem PySem.Spec PyProof.Rows L2 LamX
theorem try_at {K : PySem.W.Frag} {h : Heap} {mg : Str → Option Value} {st : Stmt} {N ps : List Str} {x : Str} (ok : List (Str × NameKind) → List Stmt → Bool) (S : FnScope N ps (defScope st)) (hc : ok (defScope st).names (defBody st) = true)
    (hb : ∀ (kV doc pm : Value) (an : Option Addr) (cdv ct : Value) (us : List Value), us.length = ps.length → bindArgs (PySem.W.fnOf x x (defArgs st) (defBody st) (defScope st) .none kV doc pm an cdv ct) ⟨us, []⟩ = pure (ps.zip us))
    (X : K.In h) (G : h.Ns mainGlobals mg) {f : Addr} {oc kV dc pm cd ct : Value} {od an : Option Addr} {sl : Array (Option Value)} (a : PySem.W.nsIn K mainGlobals x = some (some (.ref f)))
    (l : K.lookup f = some ⟨oc, od, .func (PySem.W.fnOf x x (defArgs st) (defBody st) (defScope st) .none kV dc pm an cd ct), sl⟩) (c : PySem.W.codeIn K cd x = true) (k : PySem.W.keepIn K (.ref f) = true) :
    ∃ g fd st, L2.Fun K x x st g fd ∧ FnScope N ps (defScope st) ∧ ok (defScope st).names (defBody st) = true ∧ mg x = some (.ref g) ∧ Binds K fd ps [] :=
  have F := L2.fun_mk (st := st) l c k
  ⟨f, _, st, F, S, hc, PySem.W.mg_of X G a, F.binds hb⟩
/-- a class of the text -/
structure ClsAt (K : PySem.W.Frag) (C : Addr) : Prop where
  i : PySem.W.isClsIn K C = true
  t : PySem.W.typeIn K (.ref C) = some (.type "type")
theorem cls_kit {K : PySem.W.Frag} {C : Addr} {t : Value} {b : Bool} (c : ClsAt K C) (s : PySem.W.subIn K t (.ref C) = some b) : PySem.W.kitCls K t (.ref C) = some b := by
  have g : (PySem.W.clsIn K C).isSome = true := c.i
  simp only [PySem.W.kitCls, c.t, g, Bool.true_and]
  exact s
/-- a refusal that is raised: what is told of its class -/
structure RaiAt (K : PySem.W.Frag) (mg : Str → Option Value) (all : List (Nat × Addr)) (C0 : Addr) (c : Nat) (C : Addr) : Prop where
  x : PySem.W.excIn K C bmV "ValueError.__new__" = true
  k : PySem.W.keepIn K (.ref C) = true
  b : PySem.W.subIn K (.ref C) (.type "BaseException") = some true
  sub : ∀ q ∈ all, PySem.W.subIn K (.ref C) (.ref q.2) = some (q.1 == c)
  arm : PySem.W.subIn K (.ref C) (.ref C0) = some true
  val : PySem.W.subIn K (.ref C) (.type "ValueError") = some true
  exc : L2.ExcC K C
theorem kit_try {K : PySem.W.Frag} {h : Heap} {mg : Str → Option Value} (X : K.In h) (G : h.Ns mainGlobals mg) (T : List (Addr × Str)) (l all : List (Nat × Addr)) {C0 : Addr}
    (a : ∀ q ∈ all, PySem.W.nsIn K mainGlobals (clsName q.1) = some (some (.ref q.2))) (a0 : PySem.W.nsIn K mainGlobals "ArmError" = some (some (.ref C0)))
    (c : ∀ q ∈ all, ClsAt K q.2) (c0 : ClsAt K C0) (b0 : PySem.W.subIn K (.ref C0) (.type "BaseException") = some true)
    (r : ∀ p ∈ l, RaiAt K mg all C0 p.1 p.2) (v : PySem.W.nsIn K mainGlobals "ValueError" = some none) (vm : PySem.W.kitMeta "ValueError" = true) (vi : PySem.W.nsIn K mainGlobals "isinstance" = some none) (vz : PySem.W.nsIn K mainGlobals "zip" = some none)
    (nd : (l.map (·.1)).Nodup) (hall : all.map (·.1) = [1, 2, 3, 4, 5, 6, 7, 8, 9, 10, 11, 12, 13, 14, 15, 16, 17]) (sub : ∀ p ∈ l, p ∈ all)
    (nda : (all.map (·.2)).Nodup)
    (tr : ∃ g fd st, L2.Fun K "_law_try" "_law_try" st g fd ∧ FnScope tryN ["door"] (defScope st) ∧ tryOk (defScope st).names (defBody st) = true ∧ mg "_law_try" = some (.ref g) ∧ Binds K fd ["door"] [])
    (kin : ∃ f fd st, L2.Fun K "_law_kin" "_law_kin" st f fd ∧ FnScope kinN ["e"] (defScope st) ∧ kinOk (defScope st).names (defBody st) = true ∧ mg "_law_kin" = some (.ref f) ∧ Binds K fd ["e"] []) :
    ∃ M : Kit, M.K = K ∧ M.T = T ∧ Xc K mg M ∧ M.xs = l.map (·.1) ∧ TryF K mg M := by
  have inj : ∀ (l : List (Nat × Addr)), (l.map (·.2)).Nodup → ∀ p ∈ l, ∀ q ∈ l, p.2 = q.2 → p = q := by
    intro l
    induction l with
    | nil => exact fun _ p hp => nomatch hp
    | cons x l ih =>
      intro nd p hp q hq e
      rw [List.map_cons, List.nodup_cons] at nd
      rcases List.mem_cons.mp hp with h1 | h1
      · rcases List.mem_cons.mp hq with h2 | h2
        · rw [h1, h2]
        · exact absurd (show x.2 ∈ l.map (·.2) from List.mem_map.mpr ⟨q, h2, by rw [← e, h1]⟩) nd.1
      · rcases List.mem_cons.mp hq with h2 | h2
        · exact absurd (show x.2 ∈ l.map (·.2) from List.mem_map.mpr ⟨p, h1, by rw [e, h2]⟩) nd.1
        · exact ih nd.2 p h1 q h2 e
  have num : ∀ q ∈ all, 0 < q.1 ∧ q.1 < 18 := fun q hq => by
    have z : q.1 ∈ all.map (·.1) := List.mem_map.mpr ⟨q, hq, rfl⟩
    rw [hall] at z
    simp only [List.mem_cons, List.not_mem_nil, or_false] at z
    omega
  obtain ⟨M, e1, e2, xc, e3, e4⟩ := xc_mk X G l nd (fun p hp => ⟨PySem.W.mg_of X G (a p (sub p hp)), (r p hp).x, (r p hp).k, (r p hp).b, (c p (sub p hp)).t, (c p (sub p hp)).i⟩)
    (fun p hp q hq => by
      rw [(r p hp).sub q (sub q hq)]
      have z : (q.1 == 0) = false := by rw [beq_eq_false_iff_ne]; have := (num q (sub q hq)).1; omega
      unfold takesC
      rw [z]; rfl) T
  have at_ : ∀ k ∈ M.xs, ∃ p ∈ l, p.1 = k ∧ M.cv k = .ref p.2 := fun k hk => by
    rw [e3] at hk
    obtain ⟨p, hp, rfl⟩ := List.mem_map.mp hk
    refine ⟨p, hp, rfl, ?_⟩
    rw [e4]
    unfold cvOf
    rw [lookup_nd nd p hp]
  refine ⟨M, e1, e2, xc, e3, tr, kin, ⟨C0, PySem.W.mg_of X G a0, fun k hk _ _ => ?_⟩, fun k hk _ _ => ?_⟩
  · obtain ⟨p, hp, rfl, e⟩ := at_ k hk
    rw [e]
    exact exm_is b0 c0.i c0.t (r p hp).arm
  · obtain ⟨p, hp, rfl, e⟩ := at_ k hk
    refine ⟨p.2, e, (r p hp).exc, fun j j1 j2 => ?_, PySem.W.mg_none_of X G v, ?_, PySem.W.mg_none_of X G vi, PySem.W.mg_none_of X G vz⟩
    · have hj : j ∈ all.map (·.1) := by rw [hall]; simp only [List.mem_cons, List.not_mem_nil, or_false]; omega
      obtain ⟨q, hq, rfl⟩ := List.mem_map.mp hj
      refine ⟨q.2, PySem.W.mg_of X G (a q hq), ?_⟩
      have kb : kinBit p.1 q.1 = (q.1 == p.1) := by
        unfold kinBit
        have z : (q.1 == 18) = false := by rw [beq_eq_false_iff_ne]; have := (num q hq).2; omega
        rw [z]; rfl
      rw [kb]
      unfold PySem.W.kitOne
      by_cases eq : p.2 = q.2
      · obtain rfl := inj all nda p (sub p hp) q hq eq
        simp
      · have z : ((Value.ref p.2 == Value.ref q.2) = true) = False := by
          simp only [eq_iff_iff, iff_false]
          intro z
          exact eq (Value.ref.inj (beq_iff_eq.mp z))
        rw [if_neg (by rw [z]; exact id)]
        exact cls_kit (c q hq) ((r p hp).sub q hq)
    · unfold PySem.W.kitOne PySem.W.kitCls
      rw [if_neg (by simp)]
      show (if PySem.W.kitMeta "ValueError" = true then _ else none) = _
      rw [if_pos vm]
      exact (r p hp).val
end Dn
namespace Dn
open PySem PySem.Spec PyProof.Rows L2 LamX
/-- a def that makes lambdas, as the written part has it -/
def LamDefAt (K : PySem.W.Frag) (ts : List Addr) (x : Str) (st : Stmt) (c P : Addr) : Prop := ∃ (f : Addr) (oc kV dc pm ct : Value) (od an : Option Addr) (sl : Array (Option Value)), PySem.W.nsIn K mainGlobals x = some (some (.ref f)) ∧
  K.lookup f = some ⟨oc, od, .func (PySem.W.fnOf x x (defArgs st) (defBody st) (defScope st) .none kV dc pm an (.ref c) ct), sl⟩ ∧ PySem.W.codeIn K (.ref c) x = true ∧ PySem.W.keepIn K (.ref f) = true ∧ PySem.W.codeHdIn K c P = true ∧ K.lookup P = none ∧ P ∈ ts
theorem lamdef_mk {K : PySem.W.Frag} {h : Heap} {ts : List Addr} {x : Str} {st : Stmt} {c P f : Addr} {oc kV dc pm ct oc2 : Value} {od an od2 : Option Addr} {sl sl2 : Array (Option Value)} {vs : Array Value} (X : K.In h) (a : PySem.W.nsIn K mainGlobals x = some (some (.ref f)))
    (l : K.lookup f = some ⟨oc, od, .func (PySem.W.fnOf x x (defArgs st) (defBody st) (defScope st) .none kV dc pm an (.ref c) ct), sl⟩) (cI : PySem.W.codeIn K (.ref c) x = true) (k : PySem.W.keepIn K (.ref f) = true)
    (l2 : K.lookup c = some ⟨oc2, od2, .fields vs, sl2⟩) (h11 : vs[11]? = some (.ref P)) (hd : PySem.W.codeHdIn K c P = true) (ln : K.lookup P = none) (m : P ∈ ts) : LamDefAt K ts x st c P := ⟨f, oc, kV, dc, pm, ct, od, an, sl, a, l, cI, k, hd, ln, m⟩
theorem lamdef {K : PySem.W.Frag} {h : Heap} {mg : Str → Option Value} {Q : Gx} {cs : List (Addr × Addr)} {T : List (Addr × Str)} {ts : List Addr} {fn : Fn} {st : Stmt} {N ps : List Str} {c P : Addr} (L : LamDefAt K ts fn.name st c P) (S : FnScope N ps (defScope st)) (h1 : ps.length = fn.np) (h2 : N.length = fn.nsl)
    (hc : chkSs ⟨N, Q.G, Q.U, Q.tops, Q.xs, true⟩ ⟨(defScope st).names, true⟩ fn.body (defBody st) = true)
    (hb : ∀ (kV doc pm : Value) (an : Option Addr) (cdv ct : Value) (us : List Value), us.length = ps.length → bindArgs (PySem.W.fnOf fn.name fn.name (defArgs st) (defBody st) (defScope st) .none kV doc pm an cdv ct) ⟨us, []⟩ = pure (ps.zip us))
    (X : K.In h) (G : h.Ns mainGlobals mg) (tr : Q.tr = true) (m1 : (c, P) ∈ cs) (m2 : (P, (fn.name ++ ".<locals>.") ++ "<lambda>") ∈ T) (m3 : ∀ p ∈ T, p.1 = P → p.2 = (fn.name ++ ".<locals>.") ++ "<lambda>") :
    ∃ f fd, DefAt K mg Q cs T fn f fd ps ∧ ∀ (s : Shared) (us : List Value), us.length = ps.length → BindsTo s fd ⟨us, []⟩ (ps.zip us) := by
  obtain ⟨f, oc, kV, dc, pm, ct, od, an, sl, a, l, cI, k, _⟩ := L
  exact ⟨f, _, def_atL S h1 h2 hc hb X G a l cI k tr ⟨P, m1, m2, m3⟩, fun s us hl => .of_eq (hb _ _ _ _ _ _ us hl)⟩
end Dn

namespace Dn
open PySem PySem.Spec PyProof.Rows L2 LamX
theorem kit_try2 {K : PySem.W.Frag} {h : Heap} {mg : Str → Option Value} (X : K.In h) (G : h.Ns mainGlobals mg) (T : List (Addr × Str)) (l : List Nat) {C0 C1 C2 C3 C4 C5 C6 C7 C8 C9 C10 C11 C12 C13 C14 C15 C16 C17 : Addr}
    (a0 : PySem.W.nsIn K mainGlobals "ArmError" = some (some (.ref C0)))
    (a1 : PySem.W.nsIn K mainGlobals "NoNumber" = some (some (.ref C1)))
    (a2 : PySem.W.nsIn K mainGlobals "NoField" = some (some (.ref C2)))
    (a3 : PySem.W.nsIn K mainGlobals "NoHeading" = some (some (.ref C3)))
    (a4 : PySem.W.nsIn K mainGlobals "Reached" = some (some (.ref C4)))
    (a5 : PySem.W.nsIn K mainGlobals "Endless" = some (some (.ref C5)))
    (a6 : PySem.W.nsIn K mainGlobals "NoWay" = some (some (.ref C6)))
    (a7 : PySem.W.nsIn K mainGlobals "NoPart" = some (some (.ref C7)))
    (a8 : PySem.W.nsIn K mainGlobals "NotRound" = some (some (.ref C8)))
    (a9 : PySem.W.nsIn K mainGlobals "NoArm" = some (some (.ref C9)))
    (a10 : PySem.W.nsIn K mainGlobals "NoPlace" = some (some (.ref C10)))
    (a11 : PySem.W.nsIn K mainGlobals "NoTurn" = some (some (.ref C11)))
    (a12 : PySem.W.nsIn K mainGlobals "Nowhere" = some (some (.ref C12)))
    (a13 : PySem.W.nsIn K mainGlobals "Stops" = some (some (.ref C13)))
    (a14 : PySem.W.nsIn K mainGlobals "Stuck" = some (some (.ref C14)))
    (a15 : PySem.W.nsIn K mainGlobals "NoJoint" = some (some (.ref C15)))
    (a16 : PySem.W.nsIn K mainGlobals "NoLimit" = some (some (.ref C16)))
    (a17 : PySem.W.nsIn K mainGlobals "Beyond" = some (some (.ref C17)))
    (c0 : ClsAt K C0) (b0 : PySem.W.subIn K (.ref C0) (.type "BaseException") = some true)
    (k1 : ClsAt K C1)
    (k2 : ClsAt K C2)
    (k3 : ClsAt K C3)
    (k4 : ClsAt K C4)
    (k5 : ClsAt K C5)
    (k6 : ClsAt K C6)
    (k7 : ClsAt K C7)
    (k8 : ClsAt K C8)
    (k9 : ClsAt K C9)
    (k10 : ClsAt K C10)
    (k11 : ClsAt K C11)
    (k12 : ClsAt K C12)
    (k13 : ClsAt K C13)
    (k14 : ClsAt K C14)
    (k15 : ClsAt K C15)
    (k16 : ClsAt K C16)
    (k17 : ClsAt K C17)
    (r : ∀ p ∈ ([(1, C1), (2, C2), (3, C3), (4, C4), (5, C5), (6, C6), (7, C7), (8, C8), (9, C9), (10, C10), (11, C11), (12, C12), (13, C13), (14, C14), (15, C15), (16, C16), (17, C17)] : List (Nat × Addr)).filter (fun q => l.contains q.1), RaiAt K mg [(1, C1), (2, C2), (3, C3), (4, C4), (5, C5), (6, C6), (7, C7), (8, C8), (9, C9), (10, C10), (11, C11), (12, C12), (13, C13), (14, C14), (15, C15), (16, C16), (17, C17)] C0 p.1 p.2) (v : PySem.W.nsIn K mainGlobals "ValueError" = some none) (vm : PySem.W.kitMeta "ValueError" = true) (vi : PySem.W.nsIn K mainGlobals "isinstance" = some none) (vz : PySem.W.nsIn K mainGlobals "zip" = some none)
    (nda : [C1, C2, C3, C4, C5, C6, C7, C8, C9, C10, C11, C12, C13, C14, C15, C16, C17].Nodup)
    (tr : ∃ g fd st, L2.Fun K "_law_try" "_law_try" st g fd ∧ FnScope tryN ["door"] (defScope st) ∧ tryOk (defScope st).names (defBody st) = true ∧ mg "_law_try" = some (.ref g) ∧ Binds K fd ["door"] [])
    (kin : ∃ f fd st, L2.Fun K "_law_kin" "_law_kin" st f fd ∧ FnScope kinN ["e"] (defScope st) ∧ kinOk (defScope st).names (defBody st) = true ∧ mg "_law_kin" = some (.ref f) ∧ Binds K fd ["e"] []) :
    ∃ M : Kit, M.K = K ∧ M.T = T ∧ Xc K mg M ∧ M.xs = [1, 2, 3, 4, 5, 6, 7, 8, 9, 10, 11, 12, 13, 14, 15, 16, 17].filter (fun q => l.contains q) ∧ TryF K mg M := by
  have nd : ((([(1, C1), (2, C2), (3, C3), (4, C4), (5, C5), (6, C6), (7, C7), (8, C8), (9, C9), (10, C10), (11, C11), (12, C12), (13, C13), (14, C14), (15, C15), (16, C16), (17, C17)] : List (Nat × Addr)).filter fun q => l.contains q.1).map (·.1)).Nodup := by
    refine ((List.filter_sublist (l := ([(1, C1), (2, C2), (3, C3), (4, C4), (5, C5), (6, C6), (7, C7), (8, C8), (9, C9), (10, C10), (11, C11), (12, C12), (13, C13), (14, C14), (15, C15), (16, C16), (17, C17)] : List (Nat × Addr))) (p := fun q : Nat × Addr => l.contains q.1)).map (·.1)).nodup ?_
    show ([1, 2, 3, 4, 5, 6, 7, 8, 9, 10, 11, 12, 13, 14, 15, 16, 17] : List Nat).Nodup
    decide
  obtain ⟨M, e1, e2, x, e3, t⟩ := kit_try (C0 := C0) X G T ([(1, C1), (2, C2), (3, C3), (4, C4), (5, C5), (6, C6), (7, C7), (8, C8), (9, C9), (10, C10), (11, C11), (12, C12), (13, C13), (14, C14), (15, C15), (16, C16), (17, C17)].filter fun q => l.contains q.1) [(1, C1), (2, C2), (3, C3), (4, C4), (5, C5), (6, C6), (7, C7), (8, C8), (9, C9), (10, C10), (11, C11), (12, C12), (13, C13), (14, C14), (15, C15), (16, C16), (17, C17)]
    (List.forall_mem_cons.mpr ⟨a1, (List.forall_mem_cons.mpr ⟨a2, (List.forall_mem_cons.mpr ⟨a3, (List.forall_mem_cons.mpr ⟨a4, (List.forall_mem_cons.mpr ⟨a5, (List.forall_mem_cons.mpr ⟨a6, (List.forall_mem_cons.mpr ⟨a7, (List.forall_mem_cons.mpr ⟨a8, (List.forall_mem_cons.mpr ⟨a9, (List.forall_mem_cons.mpr ⟨a10, (List.forall_mem_cons.mpr ⟨a11, (List.forall_mem_cons.mpr ⟨a12, (List.forall_mem_cons.mpr ⟨a13, (List.forall_mem_cons.mpr ⟨a14, (List.forall_mem_cons.mpr ⟨a15, (List.forall_mem_cons.mpr ⟨a16, (List.forall_mem_cons.mpr ⟨a17, (List.forall_mem_nil _)⟩)⟩)⟩)⟩)⟩)⟩)⟩)⟩)⟩)⟩)⟩)⟩)⟩)⟩)⟩)⟩)⟩) a0 (List.forall_mem_cons.mpr ⟨k1, (List.forall_mem_cons.mpr ⟨k2, (List.forall_mem_cons.mpr ⟨k3, (List.forall_mem_cons.mpr ⟨k4, (List.forall_mem_cons.mpr ⟨k5, (List.forall_mem_cons.mpr ⟨k6, (List.forall_mem_cons.mpr ⟨k7, (List.forall_mem_cons.mpr ⟨k8, (List.forall_mem_cons.mpr ⟨k9, (List.forall_mem_cons.mpr ⟨k10, (List.forall_mem_cons.mpr ⟨k11, (List.forall_mem_cons.mpr ⟨k12, (List.forall_mem_cons.mpr ⟨k13, (List.forall_mem_cons.mpr ⟨k14, (List.forall_mem_cons.mpr ⟨k15, (List.forall_mem_cons.mpr ⟨k16, (List.forall_mem_cons.mpr ⟨k17, (List.forall_mem_nil _)⟩)⟩)⟩)⟩)⟩)⟩)⟩)⟩)⟩)⟩)⟩)⟩)⟩)⟩)⟩)⟩)⟩) c0 b0 r v vm vi vz nd rfl (fun p hp => (List.mem_filter.mp hp).1) nda tr kin
  refine ⟨M, e1, e2, x, e3.trans ?_, t⟩
  rw [show [1, 2, 3, 4, 5, 6, 7, 8, 9, 10, 11, 12, 13, 14, 15, 16, 17] = ([(1, C1), (2, C2), (3, C3), (4, C4), (5, C5), (6, C6), (7, C7), (8, C8), (9, C9), (10, C10), (11, C11), (12, C12), (13, C13), (14, C14), (15, C15), (16, C16), (17, C17)] : List (Nat × Addr)).map (·.1) from rfl, List.filter_map]
  rfl
end Dn

end
section
set_option Elab.async false
set_option maxRecDepth 100000
set_option maxHeartbeats 4000000
/-! Tab: the defs of the laws as terms of the language (printed by gen.py). -/
namespace Dn
open PySem
def top_NOUGHT : D := .tup [.int 0, .int 1]
def top_ONE : D := .tup [.int 1, .int 1]
def top_ZERO : D := .tup [.tup [.int 0, .int 1], .int 0, .tup [.int 0, .int 1]]
def b_is_whole : Ss := (.cons (.ret (.and (.prim (.isi [.int]) (.cons (.var 0) .nil)) (.nt (.prim (.isi [.bool]) (.cons (.var 0) .nil))))) .nil)
def fn_is_whole : Fn := ⟨"is_whole", 1, 1, b_is_whole⟩
def b_divisor : Ss := (.cons (.par 0 1 (.prim .abs (.cons (.var 0) .nil)) (.prim .abs (.cons (.var 1) .nil))) (.cons (.whl (.cmp .ne (.var 1) (.cst (.int 0))) (.cons (.par 0 1 (.var 1) (.bin .mod (.var 0) (.var 1))) .nil)) (.cons (.ret (.var 0)) .nil)))
def fn_divisor : Fn := ⟨"divisor", 2, 2, b_divisor⟩
def b_is_fraction : Ss := (.cons (.ite (.or (.nt (.prim (.isi [.tuple]) (.cons (.var 0) .nil))) (.or (.cmp .ne (.prim .len (.cons (.var 0) .nil)) (.cst (.int 2))) (.or (.nt (.call 0 (.cons (.ix (.var 0) (.cst (.int 0))) .nil))) (.nt (.call 0 (.cons (.ix (.var 0) (.cst (.int 1))) .nil)))))) (.cons (.ret (.cst (.bl false))) .nil) .nil) (.cons (.ret (.and (.cmp .gt (.ix (.var 0) (.cst (.int 1))) (.cst (.int 0))) (.cmp .eq (.call 1 (.cons (.ix (.var 0) (.cst (.int 0))) (.cons (.ix (.var 0) (.cst (.int 1))) .nil))) (.cst (.int 1))))) .nil))
def fn_is_fraction : Fn := ⟨"is_fraction", 1, 1, b_is_fraction⟩
def b_fraction : Ss := (.cons (.ite (.cmp .eq (.var 1) (.cst (.int 0))) (.cons (.rai 1) .nil) .nil) (.cons (.set (.nm 2) (.call 1 (.cons (.var 0) (.cons (.var 1) .nil)))) (.cons (.ite (.cmp .lt (.var 1) (.cst (.int 0))) (.cons (.set (.nm 2) (.neg (.var 2))) .nil) .nil) (.cons (.ret (.tup (.cons (.bin .fdiv (.var 0) (.var 2)) (.cons (.bin .fdiv (.var 1) (.var 2)) .nil)))) .nil))))
def fn_fraction : Fn := ⟨"fraction", 2, 3, b_fraction⟩
def b_law_deck : Ss := (.cons (.ite (.cmp .ge (.var 0) (.bin .pow (.cst (.int 10)) (.cst (.int 18)))) (.cons (.ret (.lst true (.cons (.bin .sub (.var 0) (.bin .pow (.cst (.int 10)) (.cst (.int 18)))) (.cons (.bin .mod (.var 0) (.cst (.int 2147483579))) (.cons (.var 1) .nil))))) .nil) .nil) (.cons (.ret (.lst true (.cons (.cst (.int 0)) (.cons (.bin .mod (.var 0) (.cst (.int 2147483579))) (.cons (.var 1) .nil))))) .nil))
def fn_law_deck : Fn := ⟨"_law_deck", 2, 2, b_law_deck⟩
def b_law_pick : Ss := (.cons (.ite (.cmp .gt (.ix (.var 0) (.cst (.int 0))) (.cst (.int 1))) (.cons (.set (.nm 2) (.bin .mod (.ix (.var 0) (.cst (.int 0))) (.var 1))) (.cons (.set (.sub (.var 0) (.cst (.int 0))) (.bin .fdiv (.ix (.var 0) (.cst (.int 0))) (.var 1))) (.cons (.ret (.var 2)) .nil))) .nil) (.cons (.set (.sub (.var 0) (.cst (.int 2))) (.bin .add (.ix (.var 0) (.cst (.int 2))) (.cst (.int 1)))) (.cons (.set (.nm 3) (.bin .mod (.bin .pow (.bin .add (.ix (.var 0) (.cst (.int 1))) (.bin .mul (.cst (.int 15485867)) (.ix (.var 0) (.cst (.int 2))))) (.cst (.int 5))) (.cst (.int 2147483647)))) (.cons (.set (.nm 2) (.bin .fdiv (.bin .mod (.bin .pow (.bin .add (.var 3) (.bin .mul (.cst (.int 7919)) (.ix (.var 0) (.cst (.int 2))))) (.cst (.int 3))) (.cst (.int 2147483629))) (.cst (.int 32)))) (.cons (.ret (.bin .mod (.var 2) (.var 1))) .nil)))))
def fn_law_pick : Fn := ⟨"_law_pick", 2, 4, b_law_pick⟩
def b_law_whole : Ss := (.cons (.ret (.and (.prim (.isi [.int]) (.cons (.var 0) .nil)) (.nt (.prim (.isi [.bool]) (.cons (.var 0) .nil))))) .nil)
def fn_law_whole : Fn := ⟨"_law_whole", 1, 1, b_law_whole⟩
def b_law_one : Ss := (.cons (.ret (.ix (.var 1) (.call 5 (.cons (.var 0) (.cons (.prim .len (.cons (.var 1) .nil)) .nil))))) .nil)
def fn_law_one : Fn := ⟨"_law_one", 2, 2, b_law_one⟩
def b_law_sort : Ss := (.cons (.ite (.prim (.isi [.bool]) (.cons (.var 0) .nil)) (.cons (.ret (.cst (.str "truth"))) .nil) .nil) (.cons (.ite (.prim (.isi [.int]) (.cons (.var 0) .nil)) (.cons (.ret (.cst (.str "number"))) .nil) .nil) (.cons (.ite (.prim (.isi [.tuple]) (.cons (.var 0) .nil)) (.cons (.ret (.cst (.str "tuple"))) .nil) .nil) (.cons (.ret (.ife (.prim (.isi [.list]) (.cons (.var 0) .nil)) (.cst (.str "list")) (.cst (.str "other")))) .nil))))
def fn_law_sort : Fn := ⟨"_law_sort", 1, 1, b_law_sort⟩
def b_law_same : Ss := (.cons (.ite (.cmp .ne (.call 10 (.cons (.var 0) .nil)) (.call 10 (.cons (.var 1) .nil))) (.cons (.ret (.cst (.bl false))) .nil) .nil) (.cons (.ite (.nt (.prim (.isi [.tuple, .list]) (.cons (.var 0) .nil))) (.cons (.ret (.cmp .eq (.var 0) (.var 1))) .nil) .nil) (.cons (.ite (.cmp .ne (.prim .len (.cons (.var 0) .nil)) (.prim .len (.cons (.var 1) .nil))) (.cons (.ret (.cst (.bl false))) .nil) .nil) (.cons (.ret (.cmp .eq (.lc [2, 3] (.tup (.cons (.nm 2) (.cons (.nm 3) .nil))) (.enum (.var 0)) (.so (.nt (.call 11 (.cons (.var 3) (.cons (.ix (.var 1) (.var 2)) .nil))))) (.var 2)) (.lst false (.nil)))) .nil))))
def fn_law_same : Fn := ⟨"_law_same", 2, 4, b_law_same⟩
def b_law_odd : Ss := (.cons (.set (.nm 1) (.lst false (.cons (.cst (.non)) (.cons (.cst (.bl true)) (.cons (.cst (.bl false)) (.cons (.cst (.int 0)) (.cons (.cst (.int 1)) (.cons (.neg (.cst (.int 1))) (.cons (.cst (.int 7)) (.cons (.bin .pow (.cst (.int 10)) (.cst (.int 39))) (.cons (.cst (.str "")) (.cons (.cst (.str "a")) (.cons (.tup .nil) (.cons (.lst false (.nil)) (.cons (.tup (.cons (.tup .nil) .nil)) (.cons (.tup (.cons (.cst (.int 1)) (.cons (.cst (.int 2)) .nil))) (.cons (.tup (.cons (.cst (.int 2)) (.cons (.cst (.int 4)) .nil))) (.cons (.tup (.cons (.cst (.int 0)) (.cons (.cst (.int 1)) .nil))) (.cons (.tup (.cons (.cst (.int 1)) (.cons (.cst (.int 0)) .nil))) (.cons (.tup (.cons (.cst (.int 1)) (.cons (.neg (.cst (.int 1))) .nil))) .nil)))))))))))))))))))) (.cons (.set (.nm 1) (.bin .add (.var 1) (.lst false (.cons (.tup (.cons (.tup (.cons (.cst (.int 1)) (.cons (.cst (.int 1)) .nil))) (.cons (.cst (.int 0)) (.cons (.tup (.cons (.cst (.int 0)) (.cons (.cst (.int 1)) .nil))) .nil)))) (.cons (.tup (.cons (.tup (.cons (.cst (.int 0)) (.cons (.cst (.int 1)) .nil))) (.cons (.cst (.int 1)) (.cons (.tup (.cons (.cst (.int 2)) (.cons (.cst (.int 1)) .nil))) .nil)))) (.cons (.tup (.cons (.tup (.cons (.cst (.int 0)) (.cons (.cst (.int 1)) .nil))) (.cons (.cst (.int 1)) (.cons (.tup (.cons (.cst (.int 4)) (.cons (.cst (.int 1)) .nil))) .nil)))) (.cons (.tup (.cons (.cst (.str "turn")) (.cons (.tup (.cons (.cst (.int 1)) (.cons (.cst (.int 1)) .nil))) (.cons (.cst (.non)) .nil)))) (.cons (.tup (.cons (.cst (.bl true)) (.cons (.cst (.int 1)) .nil))) .nil)))))))) (.cons (.ret (.call 7 (.cons (.var 0) (.cons (.var 1) .nil)))) .nil)))
def fn_law_odd : Fn := ⟨"_law_odd", 1, 2, b_law_odd⟩
def b_law_spoilt : Ss := (.cons (.ite (.or (.nt (.prim (.isi [.tuple, .list]) (.cons (.var 1) .nil))) (.or (.cmp .eq (.prim .len (.cons (.var 1) .nil)) (.cst (.int 0))) (.cmp .eq (.call 5 (.cons (.var 0) (.cons (.cst (.int 6)) .nil))) (.cst (.int 0))))) (.cons (.ite (.and (.call 6 (.cons (.var 1) .nil)) (.cmp .eq (.call 5 (.cons (.var 0) (.cons (.cst (.int 2)) .nil))) (.cst (.int 0)))) (.cons (.ret (.bin .add (.var 1) (.call 7 (.cons (.var 0) (.cons (.lst false (.cons (.cst (.int 1)) (.cons (.neg (.cst (.int 1))) (.cons (.cst (.int 2)) (.cons (.bin .mul (.neg (.cst (.int 2))) (.var 1)) .nil))))) .nil))))) .nil) .nil) (.cons (.ret (.call 12 (.cons (.var 0) .nil))) .nil)) .nil) (.cons (.set (.nm 2) (.prim .listm (.cons (.var 1) .nil))) (.cons (.set (.nm 3) (.call 5 (.cons (.var 0) (.cons (.prim .len (.cons (.var 2) .nil)) .nil)))) (.cons (.set (.nm 4) (.call 5 (.cons (.var 0) (.cons (.cst (.int 10)) .nil)))) (.cons (.ite (.cmp .eq (.var 4) (.cst (.int 0))) (.cons (.set (.nm 2) (.bin .add (.sl (.var 2) .no (.so (.var 3))) (.sl (.var 2) (.so (.bin .add (.var 3) (.cst (.int 1)))) .no))) .nil) (.cons (.ite (.cmp .eq (.var 4) (.cst (.int 1))) (.cons (.set (.nm 2) (.bin .add (.bin .add (.sl (.var 2) .no (.so (.var 3))) (.sl (.var 2) (.so (.var 3)) (.so (.bin .add (.var 3) (.cst (.int 1)))))) (.sl (.var 2) (.so (.var 3)) .no))) .nil) (.cons (.ite (.cmp .eq (.var 4) (.cst (.int 2))) (.cons (.set (.nm 2) (.bin .add (.sl (.var 2) (.so (.var 3)) .no) (.sl (.var 2) .no (.so (.var 3))))) .nil) (.cons (.ite (.cmp .eq (.var 4) (.cst (.int 3))) (.cons (.ret (.ife (.prim (.isi [.tuple]) (.cons (.var 1) .nil)) (.prim .list (.cons (.var 1) .nil)) (.prim .tuple (.cons (.var 1) .nil)))) .nil) (.cons (.set (.sub (.var 2) (.var 3)) (.call 13 (.cons (.var 0) (.cons (.ix (.var 2) (.var 3)) .nil)))) .nil)) .nil)) .nil)) .nil)) (.cons (.ret (.ife (.prim (.isi [.tuple]) (.cons (.var 1) .nil)) (.prim .tuple (.cons (.var 2) .nil)) (.frz (.var 2)))) .nil))))))
def fn_law_spoilt : Fn := ⟨"_law_spoilt", 2, 5, b_law_spoilt⟩
def b_law_frac : Ss := (.cons (.par 2 3 (.prim .abs (.cons (.var 0) .nil)) (.prim .abs (.cons (.var 1) .nil))) (.cons (.whl (.cmp .gt (.var 3) (.cst (.int 0))) (.cons (.set (.nm 4) (.bin .mod (.var 2) (.var 3))) (.cons (.set (.nm 2) (.var 3)) (.cons (.set (.nm 3) (.var 4)) .nil)))) (.cons (.set (.nm 5) (.ife (.cmp .gt (.var 1) (.cst (.int 0))) (.cst (.int 1)) (.neg (.cst (.int 1))))) (.cons (.ret (.tup (.cons (.bin .fdiv (.bin .mul (.var 5) (.var 0)) (.var 2)) (.cons (.bin .fdiv (.bin .mul (.var 5) (.var 1)) (.var 2)) .nil)))) .nil))))
def fn_law_frac : Fn := ⟨"_law_frac", 2, 6, b_law_frac⟩
def b_law_some_fraction : Ss := (.cons (.set (.nm 1) (.call 5 (.cons (.var 0) (.cons (.cst (.int 8)) .nil)))) (.cons (.ite (.cmp .lt (.var 1) (.cst (.int 4))) (.cons (.ret (.tup (.cons (.bin .sub (.call 5 (.cons (.var 0) (.cons (.cst (.int 13)) .nil))) (.cst (.int 6))) (.cons (.cst (.int 1)) .nil)))) .nil) .nil) (.cons (.ite (.cmp .lt (.var 1) (.cst (.int 7))) (.cons (.ret (.call 14 (.cons (.bin .sub (.call 5 (.cons (.var 0) (.cons (.cst (.int 41)) .nil))) (.cst (.int 20))) (.cons (.bin .add (.cst (.int 1)) (.call 5 (.cons (.var 0) (.cons (.cst (.int 12)) .nil)))) .nil)))) .nil) .nil) (.cons (.ret (.call 14 (.cons (.bin .sub (.call 5 (.cons (.var 0) (.cons (.cst (.int 1999999)) .nil))) (.cst (.int 999999))) (.cons (.bin .add (.cst (.int 1)) (.call 5 (.cons (.var 0) (.cons (.cst (.int 999999)) .nil)))) .nil)))) .nil))))
def fn_law_some_fraction : Fn := ⟨"_law_some_fraction", 1, 2, b_law_some_fraction⟩
def b_law_is_fraction : Ss := (.cons (.ite (.or (.nt (.prim (.isi [.tuple]) (.cons (.var 0) .nil))) (.or (.cmp .ne (.prim .len (.cons (.var 0) .nil)) (.cst (.int 2))) (.or (.nt (.call 6 (.cons (.ix (.var 0) (.cst (.int 0))) .nil))) (.nt (.call 6 (.cons (.ix (.var 0) (.cst (.int 1))) .nil)))))) (.cons (.ret (.cst (.bl false))) .nil) .nil) (.cons (.ret (.and (.cmp .gt (.ix (.var 0) (.cst (.int 1))) (.cst (.int 0))) (.cmp .eq (.call 14 (.cons (.ix (.var 0) (.cst (.int 0))) (.cons (.ix (.var 0) (.cst (.int 1))) .nil))) (.var 0)))) .nil))
def fn_law_is_fraction : Fn := ⟨"_law_is_fraction", 1, 1, b_law_is_fraction⟩
def b_law_k01 : Ss := (.cons (.forr (.nm 1) (.seq (.sl (.bin .add (.lst false (.cons (.cst (.int 0)) .nil)) (.var 0)) .no (.so (.cst (.int 12))))) (.cons (.set (.nm 2) (.call 4 (.cons (.var 1) (.cons (.cst (.int 1)) .nil)))) (.cons (.set (.nm 3) (.lst false (.nil))) (.cons (.forr (.nm 4) (.rng (.cst (.int 5))) (.cons (.set (.nm 5) (.call 15 (.cons (.var 2) .nil))) (.cons (.set (.tup (.cons (.nm 6) (.cons (.nm 7) .nil))) (.tup (.cons (.bin .sub (.call 5 (.cons (.var 2) (.cons (.cst (.int 999999)) .nil))) (.cst (.int 499999))) (.cons (.call 7 (.cons (.var 2) (.cons (.lst false (.cons (.cst (.int 1)) (.cons (.neg (.cst (.int 1))) (.cons (.cst (.int 2)) (.cons (.neg (.cst (.int 6))) (.cons (.cst (.int 12)) (.cons (.cst (.int 999983)) (.cons (.cst (.int 0)) .nil)))))))) .nil))) .nil)))) (.cons (.set (.nm 3) (.bin .add (.var 3) (.lst false (.cons (.var 5) (.cons (.call 13 (.cons (.var 2) (.cons (.var 5) .nil))) (.cons (.call 12 (.cons (.var 2) .nil)) (.cons (.tup (.cons (.var 6) (.cons (.var 7) .nil))) (.cons (.tup (.cons (.bin .mul (.cst (.int 2)) (.ix (.var 5) (.cst (.int 0)))) (.cons (.bin .mul (.cst (.int 2)) (.ix (.var 5) (.cst (.int 1)))) .nil))) .nil)))))))) (.cons (.set (.nm 8) (.tryl [1] (.call 3 (.cons (.var 6) (.cons (.var 7) .nil))))) (.cons (.ite (.cmp .ne (.var 8) (.ife (.cmp .ne (.var 7) (.cst (.int 0))) (.tup (.cons (.cst (.str "told")) (.cons (.call 14 (.cons (.var 6) (.cons (.var 7) .nil))) .nil))) (.cst (.str "NoNumber+")))) (.cons (.ret (.cst (.bl false))) .nil) .nil) .nil)))))) (.cons (.forr (.nm 9) (.seq (.var 3)) (.cons (.ite (.nt (.call 11 (.cons (.call 2 (.cons (.var 9) .nil)) (.cons (.call 16 (.cons (.var 9) .nil)) .nil)))) (.cons (.ret (.cst (.bl false))) .nil) .nil) .nil)) .nil))))) (.cons (.ret (.and (.cmp .eq (.call 3 (.cons (.cst (.int 0)) (.cons (.neg (.cst (.int 5))) .nil))) (.tup (.cons (.cst (.int 0)) (.cons (.cst (.int 1)) .nil)))) (.cmp .eq (.call 3 (.cons (.neg (.cst (.int 4))) (.cons (.neg (.cst (.int 6))) .nil))) (.tup (.cons (.cst (.int 2)) (.cons (.cst (.int 3)) .nil)))))) .nil))
def fn_law_k01 : Fn := ⟨"law", 1, 10, b_law_k01⟩
def b_plus : Ss := (.cons (.ret (.call 3 (.cons (.bin .add (.bin .mul (.ix (.var 0) (.cst (.int 0))) (.ix (.var 1) (.cst (.int 1)))) (.bin .mul (.ix (.var 1) (.cst (.int 0))) (.ix (.var 0) (.cst (.int 1))))) (.cons (.bin .mul (.ix (.var 0) (.cst (.int 1))) (.ix (.var 1) (.cst (.int 1)))) .nil)))) .nil)
def fn_plus : Fn := ⟨"plus", 2, 2, b_plus⟩
def b_by : Ss := (.cons (.ret (.call 3 (.cons (.bin .mul (.ix (.var 0) (.cst (.int 0))) (.ix (.var 1) (.cst (.int 0)))) (.cons (.bin .mul (.ix (.var 0) (.cst (.int 1))) (.ix (.var 1) (.cst (.int 1)))) .nil)))) .nil)
def fn_by : Fn := ⟨"by", 2, 2, b_by⟩
def b_over : Ss := (.cons (.ret (.call 3 (.cons (.bin .mul (.ix (.var 0) (.cst (.int 0))) (.ix (.var 1) (.cst (.int 1)))) (.cons (.bin .mul (.ix (.var 0) (.cst (.int 1))) (.ix (.var 1) (.cst (.int 0)))) .nil)))) .nil)
def fn_over : Fn := ⟨"over", 2, 2, b_over⟩
def b_is_below : Ss := (.cons (.ret (.cmp .lt (.bin .mul (.ix (.var 0) (.cst (.int 0))) (.ix (.var 1) (.cst (.int 1)))) (.bin .mul (.ix (.var 1) (.cst (.int 0))) (.ix (.var 0) (.cst (.int 1)))))) .nil)
def fn_is_below : Fn := ⟨"is_below", 2, 2, b_is_below⟩
def b_sign_of : Ss := (.cons (.ret (.bin .sub (.prim .int (.cons (.cmp .gt (.ix (.var 0) (.cst (.int 0))) (.cst (.int 0))) .nil)) (.prim .int (.cons (.cmp .lt (.ix (.var 0) (.cst (.int 0))) (.cst (.int 0))) .nil)))) .nil)
def fn_sign_of : Fn := ⟨"sign_of", 1, 1, b_sign_of⟩
def b_whole_root : Ss := (.cons (.ite (.cmp .lt (.var 0) (.cst (.int 2))) (.cons (.ret (.var 0)) .nil) .nil) (.cons (.set (.nm 1) (.bin .shl (.cst (.int 1)) (.bin .fdiv (.bin .add (.bits (.var 0)) (.cst (.int 1))) (.cst (.int 2))))) (.cons (.whl (.cst (.bl true)) (.cons (.set (.nm 2) (.bin .fdiv (.bin .add (.var 1) (.bin .fdiv (.var 0) (.var 1))) (.cst (.int 2)))) (.cons (.ite (.cmp .ge (.var 2) (.var 1)) (.cons (.ret (.var 1)) .nil) .nil) (.cons (.set (.nm 1) (.var 2)) .nil)))) .nil)))
def fn_whole_root : Fn := ⟨"whole_root", 1, 3, b_whole_root⟩
def b_square_root : Ss := (.cons (.ite (.cmp .lt (.ix (.var 0) (.cst (.int 0))) (.cst (.int 0))) (.cons (.ret (.cst (.non))) .nil) .nil) (.cons (.par 1 2 (.call 23 (.cons (.ix (.var 0) (.cst (.int 0))) .nil)) (.call 23 (.cons (.ix (.var 0) (.cst (.int 1))) .nil))) (.cons (.ret (.ife (.and (.cmp .eq (.bin .mul (.var 1) (.var 1)) (.ix (.var 0) (.cst (.int 0)))) (.cmp .eq (.bin .mul (.var 2) (.var 2)) (.ix (.var 0) (.cst (.int 1))))) (.tup (.cons (.var 1) (.cons (.var 2) .nil))) (.cst (.non)))) .nil)))
def fn_square_root : Fn := ⟨"square_root", 1, 3, b_square_root⟩
def b_is_number : Ss := (.cons (.ite (.or (.nt (.prim (.isi [.tuple]) (.cons (.var 0) .nil))) (.or (.cmp .ne (.prim .len (.cons (.var 0) .nil)) (.cst (.int 3))) (.or (.nt (.call 2 (.cons (.ix (.var 0) (.cst (.int 0))) .nil))) (.nt (.call 2 (.cons (.ix (.var 0) (.cst (.int 2))) .nil)))))) (.cons (.ret (.cst (.bl false))) .nil) .nil) (.cons (.ite (.or (.nt (.call 0 (.cons (.ix (.var 0) (.cst (.int 1))) .nil))) (.cmp .nin (.ix (.var 0) (.cst (.int 1))) (.tup (.cons (.neg (.cst (.int 1))) (.cons (.cst (.int 0)) (.cons (.cst (.int 1)) .nil)))))) (.cons (.ret (.cst (.bl false))) .nil) .nil) (.cons (.ite (.cmp .eq (.ix (.var 0) (.cst (.int 1))) (.cst (.int 0))) (.cons (.ret (.cmp .eq (.ix (.var 0) (.cst (.int 2))) (.top "NOUGHT" top_NOUGHT))) .nil) .nil) (.cons (.ret (.and (.cmp .gt (.ix (.ix (.var 0) (.cst (.int 2))) (.cst (.int 0))) (.cst (.int 0))) (.cmp .is (.call 24 (.cons (.ix (.var 0) (.cst (.int 2))) .nil)) (.cst (.non))))) .nil))))
def fn_is_number : Fn := ⟨"is_number", 1, 1, b_is_number⟩
def b_plain : Ss := (.cons (.ret (.tup (.cons (.var 0) (.cons (.cst (.int 0)) (.cons (.top "NOUGHT" top_NOUGHT) .nil))))) .nil)
def fn_plain : Fn := ⟨"plain", 1, 1, b_plain⟩
def b_number : Ss := (.cons (.set (.nm 3) (.call 19 (.cons (.call 19 (.cons (.var 1) (.cons (.var 1) .nil))) (.cons (.var 2) .nil)))) (.cons (.set (.nm 4) (.call 24 (.cons (.var 3) .nil))) (.cons (.ite (.cmp .isn (.var 4) (.cst (.non))) (.cons (.ret (.call 26 (.cons (.call 18 (.cons (.var 0) (.cons (.call 19 (.cons (.tup (.cons (.call 22 (.cons (.var 1) .nil)) (.cons (.cst (.int 1)) .nil))) (.cons (.var 4) .nil))) .nil))) .nil))) .nil) .nil) (.cons (.ret (.tup (.cons (.var 0) (.cons (.call 22 (.cons (.var 1) .nil)) (.cons (.var 3) .nil))))) .nil))))
def fn_number : Fn := ⟨"number", 3, 5, b_number⟩
def b_in_field : Ss := (.cons (.set (.tup (.cons (.nm 2) (.cons (.nm 3) (.cons (.nm 4) .nil)))) (.var 0)) (.cons (.ite (.cmp .eq (.var 3) (.cst (.int 0))) (.cons (.ret (.tup (.cons (.var 2) (.cons (.top "NOUGHT" top_NOUGHT) .nil)))) .nil) .nil) (.cons (.set (.nm 5) (.call 24 (.cons (.call 20 (.cons (.var 4) (.cons (.var 1) .nil))) .nil))) (.cons (.ite (.cmp .is (.var 5) (.cst (.non))) (.cons (.rai 2) .nil) .nil) (.cons (.ret (.tup (.cons (.var 2) (.cons (.call 19 (.cons (.tup (.cons (.var 3) (.cons (.cst (.int 1)) .nil))) (.cons (.var 5) .nil))) .nil)))) .nil)))))
def fn_in_field : Fn := ⟨"in_field", 2, 6, b_in_field⟩
def b_field_of : Ss := (.cons (.forr (.nm 1) (.seq (.var 0)) (.cons (.ite (.cmp .ne (.ix (.var 1) (.cst (.int 1))) (.cst (.int 0))) (.cons (.ret (.ix (.var 1) (.cst (.int 2)))) .nil) .nil) .nil)) (.cons (.ret (.tup (.cons (.cst (.int 1)) (.cons (.cst (.int 1)) .nil)))) .nil))
def fn_field_of : Fn := ⟨"field_of", 1, 2, b_field_of⟩
def b_added : Ss := (.cons (.set (.nm 2) (.call 29 (.cons (.tup (.cons (.var 0) (.cons (.var 1) .nil))) .nil))) (.cons (.set (.tup (.cons (.tup (.cons (.nm 3) (.cons (.nm 4) .nil))) (.cons (.tup (.cons (.nm 5) (.cons (.nm 6) .nil))) .nil))) (.tup (.cons (.call 28 (.cons (.var 0) (.cons (.var 2) .nil))) (.cons (.call 28 (.cons (.var 1) (.cons (.var 2) .nil))) .nil)))) (.cons (.ret (.call 27 (.cons (.call 18 (.cons (.var 3) (.cons (.var 5) .nil))) (.cons (.call 18 (.cons (.var 4) (.cons (.var 6) .nil))) (.cons (.var 2) .nil))))) .nil)))
def fn_added : Fn := ⟨"added", 2, 7, b_added⟩
def b_times : Ss := (.cons (.set (.nm 2) (.call 29 (.cons (.tup (.cons (.var 0) (.cons (.var 1) .nil))) .nil))) (.cons (.set (.tup (.cons (.tup (.cons (.nm 3) (.cons (.nm 4) .nil))) (.cons (.tup (.cons (.nm 5) (.cons (.nm 6) .nil))) .nil))) (.tup (.cons (.call 28 (.cons (.var 0) (.cons (.var 2) .nil))) (.cons (.call 28 (.cons (.var 1) (.cons (.var 2) .nil))) .nil)))) (.cons (.ret (.call 27 (.cons (.call 18 (.cons (.call 19 (.cons (.var 3) (.cons (.var 5) .nil))) (.cons (.call 19 (.cons (.call 19 (.cons (.var 4) (.cons (.var 6) .nil))) (.cons (.var 2) .nil))) .nil))) (.cons (.call 18 (.cons (.call 19 (.cons (.var 3) (.cons (.var 6) .nil))) (.cons (.call 19 (.cons (.var 4) (.cons (.var 5) .nil))) .nil))) (.cons (.var 2) .nil))))) .nil)))
def fn_times : Fn := ⟨"times", 2, 7, b_times⟩
def b_is_pair : Ss := (.cons (.ret (.and (.prim (.isi [.tuple]) (.cons (.var 0) .nil)) (.and (.cmp .eq (.prim .len (.cons (.var 0) .nil)) (.cst (.int 2))) (.and (.call 25 (.cons (.ix (.var 0) (.cst (.int 0))) .nil)) (.call 25 (.cons (.ix (.var 0) (.cst (.int 1))) .nil)))))) .nil)
def fn_is_pair : Fn := ⟨"is_pair", 1, 1, b_is_pair⟩
def b_is_turn : Ss := (.cons (.ite (.nt (.call 32 (.cons (.var 0) .nil))) (.cons (.ret (.cst (.bl false))) .nil) .nil) (.cons (.tryo (.cons (.set (.nm 1) (.call 30 (.cons (.call 31 (.cons (.ix (.var 0) (.cst (.int 0))) (.cons (.ix (.var 0) (.cst (.int 0))) .nil))) (.cons (.call 31 (.cons (.ix (.var 0) (.cst (.int 1))) (.cons (.ix (.var 0) (.cst (.int 1))) .nil))) .nil)))) (.cons (.ex (.call 31 (.cons (.ix (.var 0) (.cst (.int 0))) (.cons (.ix (.var 0) (.cst (.int 1))) .nil)))) .nil)) [2] 2 (.bl false)) (.cons (.ret (.cmp .eq (.var 1) (.call 26 (.cons (.tup (.cons (.cst (.int 1)) (.cons (.cst (.int 1)) .nil))) .nil)))) .nil)))
def fn_is_turn : Fn := ⟨"is_turn", 1, 2, b_is_turn⟩
def b_is_even : Ss := (.cons (.ret (.and (.call 33 (.cons (.var 0) .nil)) (.and (.cmp .eq (.ix (.ix (.var 0) (.cst (.int 0))) (.cst (.int 1))) (.cst (.int 0))) (.cmp .eq (.ix (.ix (.var 0) (.cst (.int 1))) (.cst (.int 1))) (.cst (.int 0)))))) .nil)
def fn_is_even : Fn := ⟨"is_even", 1, 1, b_is_even⟩
def b_is_arc : Ss := (.cons (.ite (.or (.nt (.prim (.isi [.tuple]) (.cons (.var 0) .nil))) (.or (.cmp .ne (.prim .len (.cons (.var 0) .nil)) (.cst (.int 2))) (.or (.nt (.call 34 (.cons (.ix (.var 0) (.cst (.int 0))) .nil))) (.nt (.call 34 (.cons (.ix (.var 0) (.cst (.int 1))) .nil)))))) (.cons (.ret (.cst (.bl false))) .nil) .nil) (.cons (.ret (.cmp .ne (.ix (.var 0) (.cst (.int 0))) (.ix (.var 0) (.cst (.int 1))))) .nil))
def fn_is_arc : Fn := ⟨"is_arc", 1, 1, b_is_arc⟩
def b_even_turn : Ss := (.cons (.set (.nm 2) (.bin .add (.bin .mul (.var 0) (.var 0)) (.bin .mul (.var 1) (.var 1)))) (.cons (.ret (.tup (.cons (.call 26 (.cons (.call 3 (.cons (.bin .sub (.bin .mul (.var 0) (.var 0)) (.bin .mul (.var 1) (.var 1))) (.cons (.var 2) .nil))) .nil)) (.cons (.call 26 (.cons (.call 3 (.cons (.bin .mul (.bin .mul (.cst (.int 2)) (.var 0)) (.var 1)) (.cons (.var 2) .nil))) .nil)) .nil)))) .nil))
def fn_even_turn : Fn := ⟨"even_turn", 2, 3, b_even_turn⟩
def b_is_joint : Ss := (.cons (.ite (.or (.nt (.prim (.isi [.tuple]) (.cons (.var 0) .nil))) (.or (.cmp .eq (.var 0) (.tup .nil)) (.nt (.prim (.isi [.str]) (.cons (.ix (.var 0) (.cst (.int 0))) .nil))))) (.cons (.ret (.cst (.bl false))) .nil) .nil) (.cons (.ite (.and (.cmp .eq (.ix (.var 0) (.cst (.int 0))) (.cst (.str "turn"))) (.cmp .eq (.prim .len (.cons (.var 0) .nil)) (.cst (.int 3)))) (.cons (.ret (.and (.call 2 (.cons (.ix (.var 0) (.cst (.int 1))) .nil)) (.and (.cmp .gt (.ix (.ix (.var 0) (.cst (.int 1))) (.cst (.int 0))) (.cst (.int 0))) (.or (.cmp .is (.ix (.var 0) (.cst (.int 2))) (.cst (.non))) (.call 35 (.cons (.ix (.var 0) (.cst (.int 2))) .nil)))))) .nil) .nil) (.cons (.ite (.or (.cmp .ne (.ix (.var 0) (.cst (.int 0))) (.cst (.str "slide"))) (.or (.cmp .ne (.prim .len (.cons (.var 0) .nil)) (.cst (.int 4))) (.nt (.call 34 (.cons (.ix (.var 0) (.cst (.int 1))) .nil))))) (.cons (.ret (.cst (.bl false))) .nil) .nil) (.cons (.ret (.and (.call 2 (.cons (.ix (.var 0) (.cst (.int 2))) .nil)) (.and (.call 2 (.cons (.ix (.var 0) (.cst (.int 3))) .nil)) (.call 21 (.cons (.ix (.var 0) (.cst (.int 2))) (.cons (.ix (.var 0) (.cst (.int 3))) .nil)))))) .nil))))
def fn_is_joint : Fn := ⟨"is_joint", 1, 1, b_is_joint⟩
def b_is_arm : Ss := (.cons (.ite (.or (.nt (.prim (.isi [.tuple]) (.cons (.var 0) .nil))) (.or (.cmp .nin (.prim .len (.cons (.var 0) .nil)) (.tup (.cons (.cst (.int 2)) (.cons (.cst (.int 3)) .nil)))) (.nt (.prim .all (.cons (.lc [1] (.nm 1) (.seq (.var 0)) .no (.call 37 (.cons (.var 1) .nil))) .nil))))) (.cons (.ret (.cst (.bl false))) .nil) .nil) (.cons (.ret (.or (.cmp .eq (.prim .len (.cons (.var 0) .nil)) (.cst (.int 2))) (.prim .any (.cons (.lc [1] (.nm 1) (.seq (.var 0)) .no (.cmp .eq (.ix (.var 1) (.cst (.int 0))) (.cst (.str "turn")))) .nil)))) .nil))
def fn_is_arm : Fn := ⟨"is_arm", 1, 2, b_is_arm⟩
def b_law_plus : Ss := (.cons (.ret (.call 14 (.cons (.bin .add (.bin .mul (.ix (.var 0) (.cst (.int 0))) (.ix (.var 1) (.cst (.int 1)))) (.bin .mul (.ix (.var 1) (.cst (.int 0))) (.ix (.var 0) (.cst (.int 1))))) (.cons (.bin .mul (.ix (.var 0) (.cst (.int 1))) (.ix (.var 1) (.cst (.int 1)))) .nil)))) .nil)
def fn_law_plus : Fn := ⟨"_law_plus", 2, 2, b_law_plus⟩
def b_law_plain : Ss := (.cons (.ret (.tup (.cons (.var 0) (.cons (.cst (.int 0)) (.cons (.tup (.cons (.cst (.int 0)) (.cons (.cst (.int 1)) .nil))) .nil))))) .nil)
def fn_law_plain : Fn := ⟨"_law_plain", 1, 1, b_law_plain⟩
def b_law_turn : Ss := (.cons (.par 1 2 (.call 5 (.cons (.var 0) (.cons (.cst (.int 5)) .nil))) (.bin .sub (.call 5 (.cons (.var 0) (.cons (.cst (.int 9)) .nil))) (.cst (.int 4)))) (.cons (.ite (.and (.cmp .eq (.var 1) (.cst (.int 0))) (.cmp .eq (.var 2) (.cst (.int 0)))) (.cons (.set (.nm 1) (.cst (.int 1))) .nil) .nil) (.cons (.set (.nm 3) (.bin .add (.bin .mul (.var 1) (.var 1)) (.bin .mul (.var 2) (.var 2)))) (.cons (.set (.nm 4) (.call 14 (.cons (.bin .sub (.bin .mul (.var 1) (.var 1)) (.bin .mul (.var 2) (.var 2))) (.cons (.var 3) .nil)))) (.cons (.ret (.tup (.cons (.call 40 (.cons (.var 4) .nil)) (.cons (.call 40 (.cons (.call 14 (.cons (.bin .mul (.bin .mul (.cst (.int 2)) (.var 1)) (.var 2)) (.cons (.var 3) .nil))) .nil)) .nil)))) .nil)))))
def fn_law_turn : Fn := ⟨"_law_turn", 1, 5, b_law_turn⟩
def b_law_arc : Ss := (.cons (.par 1 2 (.call 41 (.cons (.var 0) .nil)) (.call 41 (.cons (.var 0) .nil))) (.cons (.ret (.ife (.cmp .ne (.var 1) (.var 2)) (.tup (.cons (.var 1) (.cons (.var 2) .nil))) (.cst (.non)))) .nil))
def fn_law_arc : Fn := ⟨"_law_arc", 1, 3, b_law_arc⟩
def b_law_small : Ss := (.cons (.ret (.call 14 (.cons (.bin .sub (.call 5 (.cons (.var 0) (.cons (.cst (.int 33)) .nil))) (.cst (.int 16))) (.cons (.call 7 (.cons (.var 0) (.cons (.lst false (.cons (.cst (.int 4)) (.cons (.cst (.int 4)) (.cons (.cst (.int 3)) (.cons (.cst (.int 5)) .nil))))) .nil))) .nil)))) .nil)
def fn_law_small : Fn := ⟨"_law_small", 1, 1, b_law_small⟩
def b_law_joint : Ss := (.cons (.ite (.cmp .eq (.var 1) (.cst (.str "T"))) (.cons (.set (.nm 3) (.call 14 (.cons (.bin .add (.cst (.int 1)) (.call 5 (.cons (.var 0) (.cons (.cst (.int 8)) .nil)))) (.cons (.call 7 (.cons (.var 0) (.cons (.lst false (.cons (.cst (.int 1)) (.cons (.cst (.int 1)) (.cons (.cst (.int 2)) (.cons (.cst (.int 3)) .nil))))) .nil))) .nil)))) (.cons (.ret (.tup (.cons (.cst (.str "turn")) (.cons (.var 3) (.cons (.ife (.var 2) (.call 42 (.cons (.var 0) .nil)) (.cst (.non))) .nil))))) .nil)) .nil) (.cons (.set (.nm 4) (.call 43 (.cons (.var 0) .nil))) (.cons (.set (.nm 5) (.ife (.var 2) (.call 14 (.cons (.bin .add (.cst (.int 1)) (.call 5 (.cons (.var 0) (.cons (.cst (.int 24)) .nil)))) (.cons (.cst (.int 4)) .nil))) (.tup (.cons (.cst (.int 100)) (.cons (.cst (.int 1)) .nil))))) (.cons (.set (.nm 4) (.ife (.var 2) (.var 4) (.tup (.cons (.neg (.cst (.int 50))) (.cons (.cst (.int 1)) .nil))))) (.cons (.ret (.tup (.cons (.cst (.str "slide")) (.cons (.call 41 (.cons (.var 0) .nil)) (.cons (.var 4) (.cons (.call 39 (.cons (.var 4) (.cons (.var 5) .nil))) .nil)))))) .nil)))))
def fn_law_joint : Fn := ⟨"_law_joint", 3, 6, b_law_joint⟩
def b_law_sorts : Ss := (.cons (.ite (.cmp .eq (.var 0) (.cst (.int 2))) (.cons (.ret (.lst false (.cons (.cst (.str "TT")) (.cons (.cst (.str "TS")) (.cons (.cst (.str "ST")) (.cons (.cst (.str "SS")) .nil)))))) .nil) .nil) (.cons (.ret (.lst false (.cons (.cst (.str "TTT")) (.cons (.cst (.str "TTS")) (.cons (.cst (.str "TST")) (.cons (.cst (.str "STT")) (.cons (.cst (.str "TSS")) (.cons (.cst (.str "STS")) (.cons (.cst (.str "SST")) .nil))))))))) .nil))
def fn_law_sorts : Fn := ⟨"_law_sorts", 1, 1, b_law_sorts⟩
def b_law_arm : Ss := (.cons (.set (.nm 3) (.call 7 (.cons (.var 0) (.cons (.call 45 (.cons (.var 1) .nil)) .nil)))) (.cons (.set (.nm 4) (.lst true (.nil))) (.cons (.forr (.nm 5) (.seq (.var 3)) (.cons (.ex (.app (.var 4) (.call 44 (.cons (.var 0) (.cons (.var 5) (.cons (.and (.cmp .gt (.var 2) (.cst (.int 0))) (.cmp .eq (.call 5 (.cons (.var 0) (.cons (.cst (.int 2)) .nil))) (.cst (.int 0)))) .nil)))))) .nil)) (.cons (.ret (.prim .tuple (.cons (.var 4) .nil))) .nil))))
def fn_law_arm : Fn := ⟨"_law_arm", 3, 6, b_law_arm⟩
def b_law_is_joint : Ss := (.cons (.ite (.or (.nt (.prim (.isi [.tuple]) (.cons (.var 0) .nil))) (.or (.cmp .eq (.var 0) (.tup .nil)) (.nt (.prim (.isi [.str]) (.cons (.ix (.var 0) (.cst (.int 0))) .nil))))) (.cons (.ret (.cst (.bl false))) .nil) .nil) (.cons (.ite (.and (.cmp .eq (.ix (.var 0) (.cst (.int 0))) (.cst (.str "turn"))) (.cmp .eq (.prim .len (.cons (.var 0) .nil)) (.cst (.int 3)))) (.cons (.ret (.and (.call 2 (.cons (.ix (.var 0) (.cst (.int 1))) .nil)) (.and (.cmp .gt (.ix (.ix (.var 0) (.cst (.int 1))) (.cst (.int 0))) (.cst (.int 0))) (.or (.cmp .is (.ix (.var 0) (.cst (.int 2))) (.cst (.non))) (.call 35 (.cons (.ix (.var 0) (.cst (.int 2))) .nil)))))) .nil) .nil) (.cons (.ite (.or (.cmp .ne (.ix (.var 0) (.cst (.int 0))) (.cst (.str "slide"))) (.or (.cmp .ne (.prim .len (.cons (.var 0) .nil)) (.cst (.int 4))) (.or (.nt (.call 33 (.cons (.ix (.var 0) (.cst (.int 1))) .nil))) (.nt (.call 2 (.cons (.ix (.var 0) (.cst (.int 2))) .nil)))))) (.cons (.ret (.cst (.bl false))) .nil) .nil) (.cons (.ite (.or (.cmp .ne (.lc [1] (.nm 1) (.seq (.ix (.var 0) (.cst (.int 1)))) (.so (.cmp .ne (.ix (.var 1) (.cst (.int 1))) (.cst (.int 0)))) (.var 1)) (.lst false (.nil))) (.nt (.call 2 (.cons (.ix (.var 0) (.cst (.int 3))) .nil)))) (.cons (.ret (.cst (.bl false))) .nil) .nil) (.cons (.ret (.cmp .lt (.bin .mul (.ix (.ix (.var 0) (.cst (.int 2))) (.cst (.int 0))) (.ix (.ix (.var 0) (.cst (.int 3))) (.cst (.int 1)))) (.bin .mul (.ix (.ix (.var 0) (.cst (.int 3))) (.cst (.int 0))) (.ix (.ix (.var 0) (.cst (.int 2))) (.cst (.int 1)))))) .nil)))))
def fn_law_is_joint : Fn := ⟨"_law_is_joint", 1, 2, b_law_is_joint⟩
def b_law_is_arm : Ss := (.cons (.ite (.or (.nt (.prim (.isi [.tuple]) (.cons (.var 0) .nil))) (.cmp .nin (.prim .len (.cons (.var 0) .nil)) (.tup (.cons (.cst (.int 2)) (.cons (.cst (.int 3)) .nil))))) (.cons (.ret (.cst (.bl false))) .nil) .nil) (.cons (.ite (.cmp .ne (.lc [1] (.nm 1) (.seq (.var 0)) (.so (.nt (.call 47 (.cons (.var 1) .nil)))) (.var 1)) (.lst false (.nil))) (.cons (.ret (.cst (.bl false))) .nil) .nil) (.cons (.ret (.or (.cmp .eq (.prim .len (.cons (.var 0) .nil)) (.cst (.int 2))) (.cmp .inn (.cst (.str "turn")) (.lc [2] (.nm 2) (.seq (.var 0)) .no (.ix (.var 2) (.cst (.int 0))))))) .nil)))
def fn_law_is_arm : Fn := ⟨"_law_is_arm", 1, 3, b_law_is_arm⟩
def b_law_k08 : Ss := (.cons (.par 1 2 (.tup (.cons (.cst (.str "turn")) (.cons (.tup (.cons (.cst (.int 1)) (.cons (.cst (.int 1)) .nil))) (.cons (.cst (.non)) .nil)))) (.tup (.cons (.cst (.str "slide")) (.cons (.call 36 (.cons (.cst (.int 1)) (.cons (.cst (.int 0)) .nil))) (.cons (.tup (.cons (.cst (.int 0)) (.cons (.cst (.int 1)) .nil))) (.cons (.tup (.cons (.cst (.int 1)) (.cons (.cst (.int 1)) .nil))) .nil)))))) (.cons (.set (.nm 3) (.lst false (.cons (.tup (.cons (.var 2) (.cons (.var 2) (.cons (.var 2) .nil)))) (.cons (.tup (.cons (.var 1) .nil)) (.cons (.tup (.cons (.var 1) (.cons (.var 1) (.cons (.var 1) (.cons (.var 1) .nil))))) (.cons (.tup (.cons (.var 2) (.cons (.var 2) .nil))) (.cons (.tup .nil) (.cons (.lst false (.cons (.var 1) (.cons (.var 1) .nil))) (.cons (.var 1) .nil))))))))) (.cons (.set (.nm 3) (.bin .add (.var 3) (.lst false (.cons (.tup (.cons (.var 1) (.cons (.tup (.cons (.cst (.str "turn")) (.cons (.tup (.cons (.cst (.int 0)) (.cons (.cst (.int 1)) .nil))) (.cons (.cst (.non)) .nil)))) .nil))) (.cons (.tup (.cons (.var 1) (.cons (.bin .add (.sl (.var 2) .no (.so (.cst (.int 3)))) (.tup (.cons (.tup (.cons (.cst (.int 0)) (.cons (.cst (.int 1)) .nil))) .nil))) .nil))) (.cons (.tup (.cons (.var 1) (.cons (.tup (.cons (.cst (.str "turn")) (.cons (.tup (.cons (.neg (.cst (.int 1))) (.cons (.cst (.int 2)) .nil))) (.cons (.cst (.non)) .nil)))) .nil))) .nil)))))) (.cons (.forr (.nm 4) (.seq (.sl (.bin .add (.lst false (.cons (.cst (.int 0)) .nil)) (.var 0)) .no (.so (.cst (.int 10))))) (.cons (.set (.nm 5) (.call 4 (.cons (.var 4) (.cons (.cst (.int 8)) .nil)))) (.cons (.forr (.nm 6) (.rng (.cst (.int 4))) (.cons (.set (.nm 7) (.call 46 (.cons (.var 5) (.cons (.bin .add (.cst (.int 2)) (.call 5 (.cons (.var 5) (.cons (.cst (.int 2)) .nil)))) (.cons (.cst (.int 1)) .nil))))) (.cons (.set (.nm 8) (.call 13 (.cons (.var 5) (.cons (.var 7) .nil)))) (.cons (.set (.nm 3) (.bin .add (.var 3) (.lst false (.cons (.var 7) (.cons (.var 8) (.cons (.call 13 (.cons (.var 5) (.cons (.var 8) .nil))) (.cons (.call 13 (.cons (.var 5) (.cons (.var 7) .nil))) (.cons (.prim .list (.cons (.var 7) .nil)) (.cons (.call 12 (.cons (.var 5) .nil)) .nil))))))))) .nil)))) .nil))) (.cons (.ret (.cmp .eq (.lc [9] (.nm 9) (.seq (.var 3)) (.so (.nt (.call 11 (.cons (.call 38 (.cons (.var 9) .nil)) (.cons (.call 48 (.cons (.var 9) .nil)) .nil))))) (.var 9)) (.lst false (.nil)))) .nil)))))
def fn_law_k08 : Fn := ⟨"law", 1, 10, b_law_k08⟩
def b_root : Ss := (.cons (.ite (.cmp .lt (.ix (.var 0) (.cst (.int 0))) (.cst (.int 0))) (.cons (.rai 1) .nil) .nil) (.cons (.ret (.call 27 (.cons (.top "NOUGHT" top_NOUGHT) (.cons (.tup (.cons (.cst (.int 1)) (.cons (.cst (.int 1)) .nil))) (.cons (.var 0) .nil))))) .nil))
def fn_root : Fn := ⟨"root", 1, 1, b_root⟩
def b_law_by : Ss := (.cons (.ret (.call 14 (.cons (.bin .mul (.ix (.var 0) (.cst (.int 0))) (.ix (.var 1) (.cst (.int 0)))) (.cons (.bin .mul (.ix (.var 0) (.cst (.int 1))) (.ix (.var 1) (.cst (.int 1)))) .nil)))) .nil)
def fn_law_by : Fn := ⟨"_law_by", 2, 2, b_law_by⟩
def b_law_root_of : Ss := (.cons (.set (.tup (.cons (.nm 1) (.cons (.nm 2) .nil))) (.tup (.cons (.cst (.int 0)) (.cons (.cst (.int 1)) .nil)))) (.cons (.whl (.cmp .lt (.bin .mul (.var 2) (.var 2)) (.var 0)) (.cons (.set (.nm 2) (.bin .mul (.cst (.int 2)) (.var 2))) .nil)) (.cons (.whl (.cmp .lt (.var 1) (.var 2)) (.cons (.set (.nm 3) (.bin .fdiv (.bin .add (.var 1) (.var 2)) (.cst (.int 2)))) (.cons (.ite (.cmp .lt (.bin .mul (.var 3) (.var 3)) (.var 0)) (.cons (.set (.nm 1) (.bin .add (.var 3) (.cst (.int 1)))) .nil) (.cons (.set (.nm 2) (.var 3)) .nil)) .nil))) (.cons (.ret (.ife (.cmp .eq (.bin .mul (.var 1) (.var 1)) (.var 0)) (.var 1) (.cst (.non)))) .nil))))
def fn_law_root_of : Fn := ⟨"_law_root_of", 1, 4, b_law_root_of⟩
def b_law_is_square : Ss := (.cons (.ret (.and (.cmp .ge (.ix (.var 0) (.cst (.int 0))) (.cst (.int 0))) (.and (.cmp .isn (.call 52 (.cons (.ix (.var 0) (.cst (.int 0))) .nil)) (.cst (.non))) (.cmp .isn (.call 52 (.cons (.ix (.var 0) (.cst (.int 1))) .nil)) (.cst (.non)))))) .nil)
def fn_law_is_square : Fn := ⟨"_law_is_square", 1, 1, b_law_is_square⟩
def b_law_number : Ss := (.cons (.set (.nm 3) (.call 51 (.cons (.call 51 (.cons (.var 1) (.cons (.var 1) .nil))) (.cons (.var 2) .nil)))) (.cons (.ite (.call 53 (.cons (.var 3) .nil)) (.cons (.set (.nm 4) (.tup (.cons (.call 52 (.cons (.ix (.var 3) (.cst (.int 0))) .nil)) (.cons (.call 52 (.cons (.ix (.var 3) (.cst (.int 1))) .nil)) .nil)))) (.cons (.set (.nm 5) (.ife (.cmp .ge (.ix (.var 1) (.cst (.int 0))) (.cst (.int 0))) (.cst (.int 1)) (.neg (.cst (.int 1))))) (.cons (.ret (.call 40 (.cons (.call 39 (.cons (.var 0) (.cons (.call 51 (.cons (.tup (.cons (.var 5) (.cons (.cst (.int 1)) .nil))) (.cons (.var 4) .nil))) .nil))) .nil))) .nil))) .nil) (.cons (.ret (.tup (.cons (.var 0) (.cons (.ife (.cmp .gt (.ix (.var 1) (.cst (.int 0))) (.cst (.int 0))) (.cst (.int 1)) (.neg (.cst (.int 1)))) (.cons (.var 3) .nil))))) .nil)))
def fn_law_number : Fn := ⟨"_law_number", 3, 6, b_law_number⟩
def b_law_some_number : Ss := (.cons (.set (.nm 2) (.call 7 (.cons (.var 0) (.cons (.lst false (.cons (.tup (.cons (.cst (.int 0)) (.cons (.cst (.int 1)) .nil))) (.cons (.tup (.cons (.cst (.int 1)) (.cons (.cst (.int 1)) .nil))) (.cons (.tup (.cons (.neg (.cst (.int 1))) (.cons (.cst (.int 1)) .nil))) (.cons (.call 15 (.cons (.var 0) .nil)) .nil))))) .nil)))) (.cons (.ret (.call 54 (.cons (.call 15 (.cons (.var 0) .nil)) (.cons (.var 2) (.cons (.var 1) .nil))))) .nil))
def fn_law_some_number : Fn := ⟨"_law_some_number", 2, 3, b_law_some_number⟩
def b_law_some_under : Ss := (.cons (.ret (.call 7 (.cons (.var 0) (.cons (.lst false (.cons (.tup (.cons (.cst (.int 2)) (.cons (.cst (.int 1)) .nil))) (.cons (.tup (.cons (.cst (.int 3)) (.cons (.cst (.int 1)) .nil))) (.cons (.tup (.cons (.cst (.int 1)) (.cons (.cst (.int 2)) .nil))) (.cons (.tup (.cons (.cst (.int 5)) (.cons (.cst (.int 4)) .nil))) (.cons (.tup (.cons (.cst (.int 8)) (.cons (.cst (.int 1)) .nil))) (.cons (.tup (.cons (.cst (.int 7)) (.cons (.cst (.int 9)) .nil))) (.cons (.tup (.cons (.cst (.int 4)) (.cons (.cst (.int 1)) .nil))) (.cons (.tup (.cons (.cst (.int 1)) (.cons (.cst (.int 1)) .nil))) (.cons (.tup (.cons (.cst (.int 24)) (.cons (.cst (.int 1)) .nil))) (.cons (.tup (.cons (.cst (.int 3)) (.cons (.cst (.int 8)) .nil))) .nil))))))))))) .nil)))) .nil)
def fn_law_some_under : Fn := ⟨"_law_some_under", 1, 1, b_law_some_under⟩
def b_law_is_number : Ss := (.cons (.ite (.or (.nt (.prim (.isi [.tuple]) (.cons (.var 0) .nil))) (.cmp .ne (.prim .len (.cons (.var 0) .nil)) (.cst (.int 3)))) (.cons (.ret (.cst (.bl false))) .nil) .nil) (.cons (.forr (.nm 1) (.seq (.tup (.cons (.ix (.var 0) (.cst (.int 0))) (.cons (.ix (.var 0) (.cst (.int 2))) .nil)))) (.cons (.ite (.or (.nt (.prim (.isi [.tuple]) (.cons (.var 1) .nil))) (.or (.cmp .ne (.prim .len (.cons (.var 1) .nil)) (.cst (.int 2))) (.or (.nt (.call 6 (.cons (.ix (.var 1) (.cst (.int 0))) .nil))) (.nt (.call 6 (.cons (.ix (.var 1) (.cst (.int 1))) .nil)))))) (.cons (.ret (.cst (.bl false))) .nil) .nil) (.cons (.ite (.or (.cmp .lt (.ix (.var 1) (.cst (.int 1))) (.cst (.int 1))) (.cmp .ne (.call 14 (.cons (.ix (.var 1) (.cst (.int 0))) (.cons (.ix (.var 1) (.cst (.int 1))) .nil))) (.var 1))) (.cons (.ret (.cst (.bl false))) .nil) .nil) .nil))) (.cons (.ite (.or (.nt (.call 6 (.cons (.ix (.var 0) (.cst (.int 1))) .nil))) (.cmp .nin (.ix (.var 0) (.cst (.int 1))) (.tup (.cons (.neg (.cst (.int 1))) (.cons (.cst (.int 0)) (.cons (.cst (.int 1)) .nil)))))) (.cons (.ret (.cst (.bl false))) .nil) .nil) (.cons (.ite (.cmp .eq (.ix (.var 0) (.cst (.int 1))) (.cst (.int 0))) (.cons (.ret (.cmp .eq (.ix (.var 0) (.cst (.int 2))) (.tup (.cons (.cst (.int 0)) (.cons (.cst (.int 1)) .nil))))) .nil) .nil) (.cons (.ret (.and (.cmp .gt (.ix (.ix (.var 0) (.cst (.int 2))) (.cst (.int 0))) (.cst (.int 0))) (.nt (.call 53 (.cons (.ix (.var 0) (.cst (.int 2))) .nil))))) .nil)))))
def fn_law_is_number : Fn := ⟨"_law_is_number", 1, 2, b_law_is_number⟩
def b_law_k02 : Ss := (.cons (.set (.nm 1) (.lst false (.cons (.tup (.cons (.tup (.cons (.cst (.int 1)) (.cons (.cst (.int 1)) .nil))) (.cons (.cst (.int 0)) (.cons (.tup (.cons (.cst (.int 1)) (.cons (.cst (.int 1)) .nil))) .nil)))) (.cons (.tup (.cons (.tup (.cons (.cst (.int 1)) (.cons (.cst (.int 1)) .nil))) (.cons (.cst (.int 1)) (.cons (.tup (.cons (.cst (.int 0)) (.cons (.cst (.int 1)) .nil))) .nil)))) (.cons (.tup (.cons (.tup (.cons (.cst (.int 1)) (.cons (.cst (.int 1)) .nil))) (.cons (.cst (.int 1)) (.cons (.tup (.cons (.cst (.int 4)) (.cons (.cst (.int 9)) .nil))) .nil)))) (.cons (.tup (.cons (.tup (.cons (.cst (.int 1)) (.cons (.cst (.int 1)) .nil))) (.cons (.neg (.cst (.int 1))) (.cons (.tup (.cons (.neg (.cst (.int 2))) (.cons (.cst (.int 1)) .nil))) .nil)))) (.cons (.tup (.cons (.tup (.cons (.cst (.int 1)) (.cons (.cst (.int 1)) .nil))) (.cons (.cst (.int 2)) (.cons (.tup (.cons (.cst (.int 2)) (.cons (.cst (.int 1)) .nil))) .nil)))) .nil))))))) (.cons (.set (.nm 1) (.bin .add (.var 1) (.lst false (.cons (.tup (.cons (.tup (.cons (.cst (.int 1)) (.cons (.cst (.int 1)) .nil))) (.cons (.cst (.bl true)) (.cons (.tup (.cons (.cst (.int 2)) (.cons (.cst (.int 1)) .nil))) .nil)))) (.cons (.tup (.cons (.tup (.cons (.cst (.int 1)) (.cons (.cst (.int 1)) .nil))) (.cons (.cst (.int 1)) (.cons (.tup (.cons (.cst (.int 8)) (.cons (.cst (.int 18)) .nil))) .nil)))) (.cons (.tup (.cons (.tup (.cons (.cst (.int 1)) (.cons (.cst (.int 1)) .nil))) (.cons (.cst (.int 1)) (.cons (.tup (.cons (.cst (.int 8)) (.cons (.cst (.int 9)) .nil))) .nil)))) (.cons (.tup (.cons (.tup (.cons (.cst (.int 2)) (.cons (.cst (.int 2)) .nil))) (.cons (.cst (.int 0)) (.cons (.tup (.cons (.cst (.int 0)) (.cons (.cst (.int 1)) .nil))) .nil)))) .nil))))))) (.cons (.forr (.nm 2) (.seq (.sl (.bin .add (.lst false (.cons (.cst (.int 0)) .nil)) (.var 0)) .no (.so (.cst (.int 12))))) (.cons (.set (.nm 3) (.call 4 (.cons (.var 2) (.cons (.cst (.int 2)) .nil)))) (.cons (.forr (.nm 4) (.rng (.cst (.int 4))) (.cons (.set (.nm 5) (.call 55 (.cons (.var 3) (.cons (.call 56 (.cons (.var 3) .nil)) .nil)))) (.cons (.set (.nm 6) (.call 13 (.cons (.var 3) (.cons (.var 5) .nil)))) (.cons (.set (.nm 1) (.bin .add (.var 1) (.lst false (.cons (.var 5) (.cons (.var 6) (.cons (.call 13 (.cons (.var 3) (.cons (.var 6) .nil))) (.cons (.prim .list (.cons (.var 5) .nil)) (.cons (.call 12 (.cons (.var 3) .nil)) .nil)))))))) (.cons (.set (.nm 7) (.call 15 (.cons (.var 3) .nil))) (.cons (.ite (.nt (.call 11 (.cons (.call 26 (.cons (.var 7) .nil)) (.cons (.call 40 (.cons (.var 7) .nil)) .nil)))) (.cons (.ret (.cst (.bl false))) .nil) .nil) (.cons (.set (.nm 8) (.ife (.cmp .ge (.ix (.var 7) (.cst (.int 0))) (.cst (.int 0))) (.tup (.cons (.cst (.str "told")) (.cons (.call 54 (.cons (.tup (.cons (.cst (.int 0)) (.cons (.cst (.int 1)) .nil))) (.cons (.tup (.cons (.cst (.int 1)) (.cons (.cst (.int 1)) .nil))) (.cons (.var 7) .nil)))) .nil))) (.cst (.str "NoNumber+")))) (.cons (.ite (.cmp .ne (.tryl [1] (.call 50 (.cons (.var 7) .nil))) (.var 8)) (.cons (.ret (.cst (.bl false))) .nil) .nil) .nil)))))))) .nil))) (.cons (.ret (.cmp .eq (.lc [9] (.nm 9) (.seq (.var 1)) (.so (.nt (.call 11 (.cons (.call 25 (.cons (.var 9) .nil)) (.cons (.call 57 (.cons (.var 9) .nil)) .nil))))) (.var 9)) (.lst false (.nil)))) .nil))))
def fn_law_k02 : Fn := ⟨"law", 1, 10, b_law_k02⟩
def b_minus : Ss := (.cons (.ret (.call 3 (.cons (.bin .sub (.bin .mul (.ix (.var 0) (.cst (.int 0))) (.ix (.var 1) (.cst (.int 1)))) (.bin .mul (.ix (.var 1) (.cst (.int 0))) (.ix (.var 0) (.cst (.int 1))))) (.cons (.bin .mul (.ix (.var 0) (.cst (.int 1))) (.ix (.var 1) (.cst (.int 1)))) .nil)))) .nil)
def fn_minus : Fn := ⟨"minus", 2, 2, b_minus⟩
def b_contrary : Ss := (.cons (.ret (.tup (.cons (.call 59 (.cons (.top "NOUGHT" top_NOUGHT) (.cons (.ix (.var 0) (.cst (.int 0))) .nil))) (.cons (.neg (.ix (.var 0) (.cst (.int 1)))) (.cons (.ix (.var 0) (.cst (.int 2))) .nil))))) .nil)
def fn_contrary : Fn := ⟨"contrary", 1, 1, b_contrary⟩
def b_shared : Ss := (.cons (.set (.nm 2) (.call 29 (.cons (.tup (.cons (.var 0) (.cons (.var 1) .nil))) .nil))) (.cons (.par 3 4 (.ix (.call 28 (.cons (.var 0) (.cons (.var 2) .nil))) (.cst (.int 0))) (.call 28 (.cons (.var 1) (.cons (.var 2) .nil)))) (.cons (.ite (.cmp .eq (.var 1) (.top "ZERO" top_ZERO)) (.cons (.rai 1) .nil) .nil) (.cons (.set (.nm 5) (.call 59 (.cons (.call 19 (.cons (.ix (.var 4) (.cst (.int 0))) (.cons (.ix (.var 4) (.cst (.int 0))) .nil))) (.cons (.call 19 (.cons (.call 19 (.cons (.ix (.var 4) (.cst (.int 1))) (.cons (.ix (.var 4) (.cst (.int 1))) .nil))) (.cons (.var 2) .nil))) .nil)))) (.cons (.set (.nm 6) (.call 27 (.cons (.call 20 (.cons (.ix (.var 4) (.cst (.int 0))) (.cons (.var 5) .nil))) (.cons (.call 20 (.cons (.call 59 (.cons (.top "NOUGHT" top_NOUGHT) (.cons (.ix (.var 4) (.cst (.int 1))) .nil))) (.cons (.var 5) .nil))) (.cons (.var 2) .nil))))) (.cons (.ret (.call 31 (.cons (.var 0) (.cons (.var 6) .nil)))) .nil))))))
def fn_shared : Fn := ⟨"shared", 2, 7, b_shared⟩
def b_law_minus : Ss := (.cons (.ret (.call 14 (.cons (.bin .sub (.bin .mul (.ix (.var 0) (.cst (.int 0))) (.ix (.var 1) (.cst (.int 1)))) (.bin .mul (.ix (.var 1) (.cst (.int 0))) (.ix (.var 0) (.cst (.int 1))))) (.cons (.bin .mul (.ix (.var 0) (.cst (.int 1))) (.ix (.var 1) (.cst (.int 1)))) .nil)))) .nil)
def fn_law_minus : Fn := ⟨"_law_minus", 2, 2, b_law_minus⟩
def b_law_over : Ss := (.cons (.ret (.call 14 (.cons (.bin .mul (.ix (.var 0) (.cst (.int 0))) (.ix (.var 1) (.cst (.int 1)))) (.cons (.bin .mul (.ix (.var 0) (.cst (.int 1))) (.ix (.var 1) (.cst (.int 0)))) .nil)))) .nil)
def fn_law_over : Fn := ⟨"_law_over", 2, 2, b_law_over⟩
def b_law_split : Ss := (.cons (.ite (.cmp .eq (.ix (.var 0) (.cst (.int 1))) (.cst (.int 0))) (.cons (.ret (.tup (.cons (.ix (.var 0) (.cst (.int 0))) (.cons (.tup (.cons (.cst (.int 0)) (.cons (.cst (.int 1)) .nil))) .nil)))) .nil) .nil) (.cons (.set (.nm 2) (.call 63 (.cons (.ix (.var 0) (.cst (.int 2))) (.cons (.var 1) .nil)))) (.cons (.set (.nm 3) (.tup (.cons (.call 52 (.cons (.ix (.var 2) (.cst (.int 0))) .nil)) (.cons (.call 52 (.cons (.ix (.var 2) (.cst (.int 1))) .nil)) .nil)))) (.cons (.ret (.tup (.cons (.ix (.var 0) (.cst (.int 0))) (.cons (.call 51 (.cons (.tup (.cons (.ix (.var 0) (.cst (.int 1))) (.cons (.cst (.int 1)) .nil))) (.cons (.var 3) .nil))) .nil)))) .nil))))
def fn_law_split : Fn := ⟨"_law_split", 2, 4, b_law_split⟩
def b_law_field_of : Ss := (.cons (.ite (.or (.cmp .eq (.ix (.var 0) (.cst (.int 1))) (.cst (.int 0))) (.cmp .eq (.ix (.var 1) (.cst (.int 1))) (.cst (.int 0)))) (.cons (.ret (.ife (.or (.cmp .ne (.ix (.var 0) (.cst (.int 1))) (.cst (.int 0))) (.cmp .ne (.ix (.var 1) (.cst (.int 1))) (.cst (.int 0)))) (.ix (.ife (.cmp .ne (.ix (.var 0) (.cst (.int 1))) (.cst (.int 0))) (.var 0) (.var 1)) (.cst (.int 2))) (.tup (.cons (.cst (.int 2)) (.cons (.cst (.int 1)) .nil))))) .nil) .nil) (.cons (.ret (.ife (.call 53 (.cons (.call 63 (.cons (.ix (.var 0) (.cst (.int 2))) (.cons (.ix (.var 1) (.cst (.int 2))) .nil))) .nil)) (.ix (.var 0) (.cst (.int 2))) (.cst (.non)))) .nil))
def fn_law_field_of : Fn := ⟨"_law_field_of", 2, 2, b_law_field_of⟩
def b_law_due : Ss := (.cons (.set (.nm 3) (.call 65 (.cons (.var 0) (.cons (.var 1) .nil)))) (.cons (.ite (.cmp .is (.var 3) (.cst (.non))) (.cons (.ret (.cst (.str "NoField+"))) .nil) .nil) (.cons (.set (.tup (.cons (.tup (.cons (.nm 4) (.cons (.nm 5) .nil))) (.cons (.tup (.cons (.nm 6) (.cons (.nm 7) .nil))) .nil))) (.tup (.cons (.call 64 (.cons (.var 0) (.cons (.var 3) .nil))) (.cons (.call 64 (.cons (.var 1) (.cons (.var 3) .nil))) .nil)))) (.cons (.ite (.cmp .eq (.var 2) (.cst (.str "added"))) (.cons (.ret (.tup (.cons (.cst (.str "told")) (.cons (.call 54 (.cons (.call 39 (.cons (.var 4) (.cons (.var 6) .nil))) (.cons (.call 39 (.cons (.var 5) (.cons (.var 7) .nil))) (.cons (.var 3) .nil)))) .nil)))) .nil) .nil) (.cons (.ite (.cmp .eq (.var 2) (.cst (.str "shared"))) (.cons (.set (.nm 8) (.call 62 (.cons (.call 51 (.cons (.var 6) (.cons (.var 6) .nil))) (.cons (.call 51 (.cons (.call 51 (.cons (.var 7) (.cons (.var 7) .nil))) (.cons (.var 3) .nil))) .nil)))) (.cons (.ite (.and (.cmp .eq (.var 6) (.tup (.cons (.cst (.int 0)) (.cons (.cst (.int 1)) .nil)))) (.cmp .eq (.var 7) (.tup (.cons (.cst (.int 0)) (.cons (.cst (.int 1)) .nil))))) (.cons (.ret (.cst (.str "NoNumber+"))) .nil) .nil) (.cons (.par 6 7 (.call 63 (.cons (.var 6) (.cons (.var 8) .nil))) (.call 63 (.cons (.tup (.cons (.bin .sub (.cst (.int 0)) (.ix (.var 7) (.cst (.int 0)))) (.cons (.ix (.var 7) (.cst (.int 1))) .nil))) (.cons (.var 8) .nil)))) .nil))) .nil) (.cons (.set (.nm 9) (.call 39 (.cons (.call 51 (.cons (.var 4) (.cons (.var 6) .nil))) (.cons (.call 51 (.cons (.call 51 (.cons (.var 5) (.cons (.var 7) .nil))) (.cons (.var 3) .nil))) .nil)))) (.cons (.ret (.tup (.cons (.cst (.str "told")) (.cons (.call 54 (.cons (.var 9) (.cons (.call 39 (.cons (.call 51 (.cons (.var 4) (.cons (.var 7) .nil))) (.cons (.call 51 (.cons (.var 5) (.cons (.var 6) .nil))) .nil))) (.cons (.var 3) .nil)))) .nil)))) .nil)))))))
def fn_law_due : Fn := ⟨"_law_due", 3, 10, b_law_due⟩
def b_law_k03 : Ss := (.cons (.forr (.nm 1) (.seq (.sl (.bin .add (.lst false (.cons (.cst (.int 0)) .nil)) (.var 0)) .no (.so (.cst (.int 10))))) (.cons (.set (.nm 2) (.call 4 (.cons (.var 1) (.cons (.cst (.int 3)) .nil)))) (.cons (.forr (.nm 3) (.rng (.cst (.int 6))) (.cons (.set (.nm 4) (.call 56 (.cons (.var 2) .nil))) (.cons (.set (.nm 5) (.call 55 (.cons (.var 2) (.cons (.var 4) .nil)))) (.cons (.set (.nm 6) (.call 51 (.cons (.var 4) (.cons (.call 7 (.cons (.var 2) (.cons (.lst false (.cons (.tup (.cons (.cst (.int 1)) (.cons (.cst (.int 1)) .nil))) (.cons (.tup (.cons (.cst (.int 4)) (.cons (.cst (.int 1)) .nil))) (.cons (.tup (.cons (.cst (.int 9)) (.cons (.cst (.int 25)) .nil))) (.cons (.tup (.cons (.cst (.int 1)) (.cons (.cst (.int 4)) .nil))) .nil))))) .nil))) .nil)))) (.cons (.set (.nm 7) (.call 55 (.cons (.var 2) (.cons (.call 7 (.cons (.var 2) (.cons (.lst false (.cons (.var 6) (.cons (.var 6) (.cons (.var 6) (.cons (.call 56 (.cons (.var 2) .nil)) .nil))))) .nil))) .nil)))) (.cons (.set (.nm 7) (.call 7 (.cons (.var 2) (.cons (.lst false (.cons (.var 7) (.cons (.var 7) (.cons (.var 7) (.cons (.call 40 (.cons (.tup (.cons (.cst (.int 0)) (.cons (.cst (.int 1)) .nil))) .nil)) (.cons (.var 5) .nil)))))) .nil)))) (.cons (.ite (.cmp .ne (.tryl [1, 2] (.call 30 (.cons (.var 5) (.cons (.var 7) .nil)))) (.call 66 (.cons (.var 5) (.cons (.var 7) (.cons (.cst (.str "added")) .nil))))) (.cons (.ret (.cst (.bl false))) .nil) .nil) (.cons (.ite (.cmp .ne (.tryl [1, 2] (.call 31 (.cons (.var 5) (.cons (.var 7) .nil)))) (.call 66 (.cons (.var 5) (.cons (.var 7) (.cons (.cst (.str "times")) .nil))))) (.cons (.ret (.cst (.bl false))) .nil) .nil) (.cons (.ite (.cmp .ne (.tryl [1, 2] (.call 61 (.cons (.var 5) (.cons (.var 7) .nil)))) (.call 66 (.cons (.var 5) (.cons (.var 7) (.cons (.cst (.str "shared")) .nil))))) (.cons (.ret (.cst (.bl false))) .nil) .nil) (.cons (.ite (.nt (.call 11 (.cons (.call 60 (.cons (.var 5) .nil)) (.cons (.tup (.cons (.tup (.cons (.bin .sub (.cst (.int 0)) (.ix (.ix (.var 5) (.cst (.int 0))) (.cst (.int 0)))) (.cons (.ix (.ix (.var 5) (.cst (.int 0))) (.cst (.int 1))) .nil))) (.cons (.bin .sub (.cst (.int 0)) (.ix (.var 5) (.cst (.int 1)))) (.cons (.ix (.var 5) (.cst (.int 2))) .nil)))) .nil)))) (.cons (.ret (.cst (.bl false))) .nil) .nil) .nil)))))))))) .nil))) (.cons (.ret (.cst (.bl true))) .nil))
def fn_law_k03 : Fn := ⟨"law", 1, 8, b_law_k03⟩
def b_sign_of_two : Ss := (.cons (.par 3 4 (.call 22 (.cons (.var 0) .nil)) (.ife (.cmp .gt (.ix (.var 2) (.cst (.int 0))) (.cst (.int 0))) (.call 22 (.cons (.var 1) .nil)) (.cst (.int 0)))) (.cons (.ite (.or (.cmp .eq (.var 3) (.var 4)) (.cmp .eq (.var 4) (.cst (.int 0)))) (.cons (.ret (.var 3)) .nil) .nil) (.cons (.ite (.cmp .eq (.var 3) (.cst (.int 0))) (.cons (.ret (.var 4)) .nil) .nil) (.cons (.set (.nm 5) (.call 59 (.cons (.call 19 (.cons (.var 0) (.cons (.var 0) .nil))) (.cons (.call 19 (.cons (.call 19 (.cons (.var 1) (.cons (.var 1) .nil))) (.cons (.var 2) .nil))) .nil)))) (.cons (.ret (.bin .mul (.var 3) (.call 22 (.cons (.var 5) .nil)))) .nil)))))
def fn_sign_of_two : Fn := ⟨"sign_of_two", 3, 6, b_sign_of_two⟩
def b_less : Ss := (.cons (.set (.nm 2) (.call 59 (.cons (.ix (.var 0) (.cst (.int 0))) (.cons (.ix (.var 1) (.cst (.int 0))) .nil)))) (.cons (.set (.nm 3) (.call 68 (.cons (.var 2) (.cons (.tup (.cons (.ix (.var 0) (.cst (.int 1))) (.cons (.cst (.int 1)) .nil))) (.cons (.ix (.var 0) (.cst (.int 2))) .nil))))) (.cons (.ite (.or (.cmp .ne (.var 3) (.ix (.var 1) (.cst (.int 1)))) (.cmp .eq (.var 3) (.cst (.int 0)))) (.cons (.ret (.cmp .lt (.var 3) (.ix (.var 1) (.cst (.int 1))))) .nil) .nil) (.cons (.set (.nm 4) (.call 59 (.cons (.call 18 (.cons (.call 19 (.cons (.var 2) (.cons (.var 2) .nil))) (.cons (.call 19 (.cons (.tup (.cons (.bin .mul (.ix (.var 0) (.cst (.int 1))) (.ix (.var 0) (.cst (.int 1)))) (.cons (.cst (.int 1)) .nil))) (.cons (.ix (.var 0) (.cst (.int 2))) .nil))) .nil))) (.cons (.ix (.var 1) (.cst (.int 2))) .nil)))) (.cons (.set (.nm 5) (.call 68 (.cons (.var 4) (.cons (.call 19 (.cons (.tup (.cons (.bin .mul (.cst (.int 2)) (.ix (.var 0) (.cst (.int 1)))) (.cons (.cst (.int 1)) .nil))) (.cons (.var 2) .nil))) (.cons (.ix (.var 0) (.cst (.int 2))) .nil))))) (.cons (.ret (.cmp .lt (.bin .mul (.var 3) (.var 5)) (.cst (.int 0)))) .nil))))))
def fn_less : Fn := ⟨"less", 2, 6, b_less⟩
def b_law_k04 : Ss := (.cons (.forr (.nm 1) (.seq (.sl (.bin .add (.lst false (.cons (.cst (.int 0)) .nil)) (.var 0)) .no (.so (.cst (.int 10))))) (.cons (.set (.nm 2) (.call 4 (.cons (.var 1) (.cons (.cst (.int 4)) .nil)))) (.cons (.set (.nm 3) (.call 56 (.cons (.var 2) .nil))) (.cons (.set (.nm 4) (.call 55 (.cons (.var 2) (.cons (.var 3) .nil)))) (.cons (.set (.nm 5) (.call 55 (.cons (.var 2) (.cons (.call 51 (.cons (.var 3) (.cons (.tup (.cons (.cst (.int 9)) (.cons (.cst (.int 4)) .nil))) .nil))) .nil)))) (.cons (.set (.nm 6) (.call 55 (.cons (.var 2) (.cons (.var 3) .nil)))) (.cons (.ite (.or (.cmp .ne (.call 30 (.cons (.var 4) (.cons (.var 5) .nil))) (.call 30 (.cons (.var 5) (.cons (.var 4) .nil)))) (.cmp .ne (.call 31 (.cons (.var 4) (.cons (.var 5) .nil))) (.call 31 (.cons (.var 5) (.cons (.var 4) .nil))))) (.cons (.ret (.cst (.bl false))) .nil) .nil) (.cons (.ite (.or (.cmp .ne (.call 30 (.cons (.call 30 (.cons (.var 4) (.cons (.var 5) .nil))) (.cons (.var 6) .nil))) (.call 30 (.cons (.var 4) (.cons (.call 30 (.cons (.var 5) (.cons (.var 6) .nil))) .nil)))) (.cmp .ne (.call 31 (.cons (.call 31 (.cons (.var 4) (.cons (.var 5) .nil))) (.cons (.var 6) .nil))) (.call 31 (.cons (.var 4) (.cons (.call 31 (.cons (.var 5) (.cons (.var 6) .nil))) .nil))))) (.cons (.ret (.cst (.bl false))) .nil) .nil) (.cons (.ite (.cmp .ne (.call 31 (.cons (.var 4) (.cons (.call 30 (.cons (.var 5) (.cons (.var 6) .nil))) .nil))) (.call 30 (.cons (.call 31 (.cons (.var 4) (.cons (.var 5) .nil))) (.cons (.call 31 (.cons (.var 4) (.cons (.var 6) .nil))) .nil)))) (.cons (.ret (.cst (.bl false))) .nil) .nil) (.cons (.ite (.or (.cmp .ne (.call 30 (.cons (.call 30 (.cons (.var 4) (.cons (.var 5) .nil))) (.cons (.call 60 (.cons (.var 5) .nil)) .nil))) (.var 4)) (.cmp .ne (.call 60 (.cons (.call 60 (.cons (.var 4) .nil)) .nil)) (.var 4))) (.cons (.ret (.cst (.bl false))) .nil) .nil) (.cons (.ite (.and (.cmp .ne (.var 5) (.call 40 (.cons (.tup (.cons (.cst (.int 0)) (.cons (.cst (.int 1)) .nil))) .nil))) (.cmp .ne (.call 31 (.cons (.call 61 (.cons (.var 4) (.cons (.var 5) .nil))) (.cons (.var 5) .nil))) (.var 4))) (.cons (.ret (.cst (.bl false))) .nil) .nil) (.cons (.set (.nm 7) (.call 15 (.cons (.var 2) .nil))) (.cons (.set (.nm 7) (.tup (.cons (.prim .abs (.cons (.ix (.var 7) (.cst (.int 0))) .nil)) (.cons (.ix (.var 7) (.cst (.int 1))) .nil)))) (.cons (.ite (.or (.cmp .ne (.call 31 (.cons (.call 50 (.cons (.var 7) .nil)) (.cons (.call 50 (.cons (.var 7) .nil)) .nil))) (.call 26 (.cons (.var 7) .nil))) (.call 69 (.cons (.call 50 (.cons (.var 7) .nil)) (.cons (.call 26 (.cons (.tup (.cons (.cst (.int 0)) (.cons (.cst (.int 1)) .nil))) .nil)) .nil)))) (.cons (.ret (.cst (.bl false))) .nil) .nil) .nil)))))))))))))) (.cons (.ret (.cst (.bl true))) .nil))
def fn_law_k04 : Fn := ⟨"law", 1, 8, b_law_k04⟩
def b_law_between : Ss := (.cons (.set (.nm 2) (.bin .fdiv (.bin .mul (.ix (.ix (.var 0) (.cst (.int 0))) (.cst (.int 0))) (.var 1)) (.ix (.ix (.var 0) (.cst (.int 0))) (.cst (.int 1))))) (.cons (.ite (.cmp .eq (.ix (.var 0) (.cst (.int 1))) (.cst (.int 0))) (.cons (.ret (.tup (.cons (.var 2) (.cons (.bin .add (.var 2) (.cst (.int 1))) .nil)))) .nil) .nil) (.cons (.set (.nm 3) (.bin .fdiv (.bin .mul (.bin .mul (.ix (.ix (.var 0) (.cst (.int 2))) (.cst (.int 0))) (.var 1)) (.var 1)) (.ix (.ix (.var 0) (.cst (.int 2))) (.cst (.int 1))))) (.cons (.set (.tup (.cons (.nm 4) (.cons (.nm 5) .nil))) (.tup (.cons (.cst (.int 0)) (.cons (.cst (.int 1)) .nil)))) (.cons (.whl (.cmp .le (.bin .mul (.var 5) (.var 5)) (.var 3)) (.cons (.set (.nm 5) (.bin .mul (.cst (.int 2)) (.var 5))) .nil)) (.cons (.whl (.cmp .gt (.bin .sub (.var 5) (.var 4)) (.cst (.int 1))) (.cons (.set (.nm 6) (.bin .fdiv (.bin .add (.var 4) (.var 5)) (.cst (.int 2)))) (.cons (.ite (.cmp .le (.bin .mul (.var 6) (.var 6)) (.var 3)) (.cons (.set (.nm 4) (.var 6)) .nil) (.cons (.set (.nm 5) (.var 6)) .nil)) .nil))) (.cons (.ite (.cmp .gt (.ix (.var 0) (.cst (.int 1))) (.cst (.int 0))) (.cons (.ret (.tup (.cons (.bin .add (.var 2) (.var 4)) (.cons (.bin .add (.bin .add (.var 2) (.var 4)) (.cst (.int 2))) .nil)))) .nil) .nil) (.cons (.ret (.tup (.cons (.bin .sub (.bin .sub (.var 2) (.var 4)) (.cst (.int 1))) (.cons (.bin .add (.bin .sub (.var 2) (.var 4)) (.cst (.int 1))) .nil)))) .nil))))))))
def fn_law_between : Fn := ⟨"_law_between", 2, 7, b_law_between⟩
def b_law_less : Ss := (.cons (.set (.nm 2) (.cst (.int 1))) (.cons (.forr (.nm 3) (.rng (.cst (.int 400))) (.cons (.par 4 5 (.call 71 (.cons (.var 0) (.cons (.var 2) .nil))) (.call 71 (.cons (.var 1) (.cons (.var 2) .nil)))) (.cons (.ite (.cmp .lt (.ix (.var 4) (.cst (.int 1))) (.ix (.var 5) (.cst (.int 0)))) (.cons (.ret (.cst (.bl true))) .nil) .nil) (.cons (.ite (.cmp .lt (.ix (.var 5) (.cst (.int 1))) (.ix (.var 4) (.cst (.int 0)))) (.cons (.ret (.cst (.bl false))) .nil) .nil) (.cons (.set (.nm 2) (.bin .mul (.var 2) (.cst (.int 16)))) .nil))))) (.cons (.ret (.cst (.non))) .nil)))
def fn_law_less : Fn := ⟨"_law_less", 2, 6, b_law_less⟩
def b_law_k05 : Ss := (.cons (.forr (.nm 1) (.seq (.sl (.bin .add (.lst false (.cons (.cst (.int 0)) .nil)) (.var 0)) .no (.so (.cst (.int 10))))) (.cons (.set (.nm 2) (.call 4 (.cons (.var 1) (.cons (.cst (.int 5)) .nil)))) (.cons (.forr (.nm 3) (.rng (.cst (.int 5))) (.cons (.set (.nm 4) (.call 55 (.cons (.var 2) (.cons (.call 56 (.cons (.var 2) .nil)) .nil)))) (.cons (.set (.nm 5) (.call 55 (.cons (.var 2) (.cons (.call 56 (.cons (.var 2) .nil)) .nil)))) (.cons (.set (.nm 6) (.call 71 (.cons (.var 4) (.cons (.bin .pow (.cst (.int 10)) (.cst (.int 6))) .nil)))) (.cons (.set (.nm 5) (.call 7 (.cons (.var 2) (.cons (.lst false (.cons (.var 5) (.cons (.var 5) (.cons (.call 40 (.cons (.call 14 (.cons (.ix (.var 6) (.cst (.int 0))) (.cons (.bin .pow (.cst (.int 10)) (.cst (.int 6))) .nil))) .nil)) (.cons (.var 4) .nil))))) .nil)))) (.cons (.ite (.nt (.call 11 (.cons (.call 69 (.cons (.var 4) (.cons (.var 5) .nil))) (.cons (.ife (.cmp .ne (.var 4) (.var 5)) (.call 72 (.cons (.var 4) (.cons (.var 5) .nil))) (.cst (.bl false))) .nil)))) (.cons (.ret (.cst (.bl false))) .nil) .nil) (.cons (.ite (.nt (.call 11 (.cons (.call 69 (.cons (.var 5) (.cons (.var 4) .nil))) (.cons (.ife (.cmp .ne (.var 4) (.var 5)) (.call 72 (.cons (.var 5) (.cons (.var 4) .nil))) (.cst (.bl false))) .nil)))) (.cons (.ret (.cst (.bl false))) .nil) .nil) .nil))))))) .nil))) (.cons (.ret (.and (.cmp .is (.call 69 (.cons (.call 26 (.cons (.tup (.cons (.cst (.int 1)) (.cons (.cst (.int 3)) .nil))) .nil)) (.cons (.call 26 (.cons (.tup (.cons (.cst (.int 1)) (.cons (.cst (.int 2)) .nil))) .nil)) .nil))) (.cst (.bl true))) (.cmp .is (.call 69 (.cons (.call 50 (.cons (.tup (.cons (.cst (.int 2)) (.cons (.cst (.int 1)) .nil))) .nil)) (.cons (.call 50 (.cons (.tup (.cons (.cst (.int 2)) (.cons (.cst (.int 1)) .nil))) .nil)) .nil))) (.cst (.bl false))))) .nil))
def fn_law_k05 : Fn := ⟨"law", 1, 7, b_law_k05⟩
def b_less_by : Ss := (.cons (.ret (.call 30 (.cons (.var 0) (.cons (.call 60 (.cons (.var 1) .nil)) .nil)))) .nil)
def fn_less_by : Fn := ⟨"less_by", 2, 2, b_less_by⟩
def b_turned : Ss := (.cons (.set (.nm 2) (.call 74 (.cons (.call 31 (.cons (.ix (.var 0) (.cst (.int 0))) (.cons (.ix (.var 1) (.cst (.int 0))) .nil))) (.cons (.call 31 (.cons (.ix (.var 0) (.cst (.int 1))) (.cons (.ix (.var 1) (.cst (.int 1))) .nil))) .nil)))) (.cons (.ret (.tup (.cons (.var 2) (.cons (.call 30 (.cons (.call 31 (.cons (.ix (.var 0) (.cst (.int 0))) (.cons (.ix (.var 1) (.cst (.int 1))) .nil))) (.cons (.call 31 (.cons (.ix (.var 0) (.cst (.int 1))) (.cons (.ix (.var 1) (.cst (.int 0))) .nil))) .nil))) .nil)))) .nil))
def fn_turned : Fn := ⟨"turned", 2, 3, b_turned⟩
def b_turned_back : Ss := (.cons (.ret (.tup (.cons (.ix (.var 0) (.cst (.int 0))) (.cons (.call 60 (.cons (.ix (.var 0) (.cst (.int 1))) .nil)) .nil)))) .nil)
def fn_turned_back : Fn := ⟨"turned_back", 1, 1, b_turned_back⟩
def b_law_turned : Ss := (.cons (.set (.nm 2) (.call 30 (.cons (.call 31 (.cons (.ix (.var 0) (.cst (.int 0))) (.cons (.ix (.var 1) (.cst (.int 0))) .nil))) (.cons (.call 60 (.cons (.call 31 (.cons (.ix (.var 0) (.cst (.int 1))) (.cons (.ix (.var 1) (.cst (.int 1))) .nil))) .nil)) .nil)))) (.cons (.ret (.tup (.cons (.var 2) (.cons (.call 30 (.cons (.call 31 (.cons (.ix (.var 0) (.cst (.int 0))) (.cons (.ix (.var 1) (.cst (.int 1))) .nil))) (.cons (.call 31 (.cons (.ix (.var 0) (.cst (.int 1))) (.cons (.ix (.var 1) (.cst (.int 0))) .nil))) .nil))) .nil)))) .nil))
def fn_law_turned : Fn := ⟨"_law_turned", 2, 3, b_law_turned⟩
def b_law_contrary : Ss := (.cons (.ret (.tup (.cons (.ix (.var 0) (.cst (.int 0))) (.cons (.call 60 (.cons (.ix (.var 0) (.cst (.int 1))) .nil)) .nil)))) .nil)
def fn_law_contrary : Fn := ⟨"_law_contrary", 1, 1, b_law_contrary⟩
def b_law_rooted : Ss := (.cons (.set (.nm 1) (.call 14 (.cons (.bin .sub (.call 5 (.cons (.var 0) (.cons (.cst (.int 15)) .nil))) (.cst (.int 7))) (.cons (.cst (.int 8)) .nil)))) (.cons (.set (.nm 2) (.call 7 (.cons (.var 0) (.cons (.lst false (.cons (.tup (.cons (.cst (.int 1)) (.cons (.cst (.int 1)) .nil))) (.cons (.tup (.cons (.neg (.cst (.int 1))) (.cons (.cst (.int 1)) .nil))) .nil))) .nil)))) (.cons (.set (.nm 3) (.call 54 (.cons (.tup (.cons (.cst (.int 0)) (.cons (.cst (.int 1)) .nil))) (.cons (.var 2) (.cons (.call 62 (.cons (.tup (.cons (.cst (.int 1)) (.cons (.cst (.int 1)) .nil))) (.cons (.call 51 (.cons (.var 1) (.cons (.var 1) .nil))) .nil))) .nil))))) (.cons (.set (.nm 1) (.call 40 (.cons (.var 1) .nil))) (.cons (.ret (.call 7 (.cons (.var 0) (.cons (.lst false (.cons (.tup (.cons (.var 1) (.cons (.var 3) .nil))) (.cons (.tup (.cons (.var 3) (.cons (.var 1) .nil))) .nil))) .nil)))) .nil)))))
def fn_law_rooted : Fn := ⟨"_law_rooted", 1, 4, b_law_rooted⟩
def b_law_is_turn : Ss := (.cons (.ite (.or (.nt (.prim (.isi [.tuple]) (.cons (.var 0) .nil))) (.cmp .ne (.prim .len (.cons (.var 0) .nil)) (.cst (.int 2)))) (.cons (.ret (.cst (.bl false))) .nil) .nil) (.cons (.ite (.or (.nt (.call 25 (.cons (.ix (.var 0) (.cst (.int 0))) .nil))) (.nt (.call 25 (.cons (.ix (.var 0) (.cst (.int 1))) .nil)))) (.cons (.ret (.cst (.bl false))) .nil) .nil) (.cons (.set (.tup (.cons (.nm 1) (.cons (.nm 2) .nil))) (.var 0)) (.cons (.set (.nm 3) (.tryl [1, 2] (.call 30 (.cons (.call 31 (.cons (.var 1) (.cons (.var 1) .nil))) (.cons (.call 31 (.cons (.var 2) (.cons (.var 2) .nil))) .nil))))) (.cons (.set (.nm 4) (.tryl [1, 2] (.call 31 (.cons (.ix (.var 0) (.cst (.int 0))) (.cons (.ix (.var 0) (.cst (.int 1))) .nil))))) (.cons (.ret (.and (.cmp .eq (.var 3) (.tup (.cons (.cst (.str "told")) (.cons (.call 40 (.cons (.tup (.cons (.cst (.int 1)) (.cons (.cst (.int 1)) .nil))) .nil)) .nil)))) (.nt (.prim (.isi [.str]) (.cons (.var 4) .nil))))) .nil))))))
def fn_law_is_turn : Fn := ⟨"_law_is_turn", 1, 5, b_law_is_turn⟩
def b_law_is_arc : Ss := (.cons (.ite (.or (.nt (.prim (.isi [.tuple]) (.cons (.var 0) .nil))) (.cmp .ne (.prim .len (.cons (.var 0) .nil)) (.cst (.int 2)))) (.cons (.ret (.cst (.bl false))) .nil) .nil) (.cons (.ite (.or (.nt (.call 80 (.cons (.ix (.var 0) (.cst (.int 0))) .nil))) (.nt (.call 80 (.cons (.ix (.var 0) (.cst (.int 1))) .nil)))) (.cons (.ret (.cst (.bl false))) .nil) .nil) (.cons (.set (.nm 1) (.bin .add (.ix (.var 0) (.cst (.int 0))) (.ix (.var 0) (.cst (.int 1))))) (.cons (.set (.nm 2) (.lc [3] (.nm 3) (.seq (.var 1)) (.so (.cmp .ne (.ix (.var 3) (.cst (.int 1))) (.cst (.int 0)))) (.var 3))) (.cons (.ret (.and (.cmp .ne (.ix (.var 0) (.cst (.int 0))) (.ix (.var 0) (.cst (.int 1)))) (.cmp .eq (.var 2) (.lst false (.nil))))) .nil)))))
def fn_law_is_arc : Fn := ⟨"_law_is_arc", 1, 4, b_law_is_arc⟩
def b_law_k06 : Ss := (.cons (.forr (.nm 1) (.seq (.sl (.bin .add (.lst false (.cons (.cst (.int 0)) .nil)) (.var 0)) .no (.so (.cst (.int 10))))) (.cons (.set (.nm 2) (.call 4 (.cons (.var 1) (.cons (.cst (.int 6)) .nil)))) (.cons (.set (.nm 3) (.lst true (.nil))) (.cons (.forr (.nm 4) (.rng (.cst (.int 4))) (.cons (.set (.tup (.cons (.nm 5) (.cons (.nm 6) .nil))) (.tup (.cons (.call 79 (.cons (.var 2) .nil)) (.cons (.call 79 (.cons (.var 2) .nil)) .nil)))) (.cons (.set (.nm 7) (.call 41 (.cons (.var 2) .nil))) (.cons (.set (.nm 8) (.call 13 (.cons (.var 2) (.cons (.var 5) .nil)))) (.cons (.set (.nm 3) (.bin .catc (.var 3) (.lst false (.cons (.var 5) (.cons (.var 8) (.cons (.call 13 (.cons (.var 2) (.cons (.var 8) .nil))) (.cons (.var 7) .nil))))))) (.cons (.ex (.app (.var 3) (.call 13 (.cons (.var 2) (.cons (.var 7) .nil))))) (.cons (.ex (.app (.var 3) (.tup (.cons (.ix (.var 5) (.cst (.int 0))) (.cons (.ix (.var 6) (.cst (.int 1))) .nil))))) (.cons (.set (.nm 3) (.bin .catc (.var 3) (.lst false (.cons (.tup (.cons (.var 7) (.cons (.var 7) .nil))) (.cons (.tup (.cons (.var 7) (.cons (.var 5) .nil))) (.cons (.lst false (.cons (.var 7) (.cons (.var 5) .nil))) .nil)))))) (.cons (.ex (.app (.var 3) (.tup (.cons (.var 7) (.cons (.call 41 (.cons (.var 2) .nil)) .nil))))) (.cons (.ex (.app (.var 3) (.call 13 (.cons (.var 2) (.cons (.tup (.cons (.var 7) (.cons (.var 6) .nil))) .nil))))) (.cons (.ite (.cmp .ne (.call 75 (.cons (.var 5) (.cons (.var 7) .nil))) (.call 77 (.cons (.var 5) (.cons (.var 7) .nil)))) (.cons (.ret (.cst (.bl false))) .nil) .nil) (.cons (.ite (.cmp .ne (.call 76 (.cons (.var 5) .nil)) (.call 78 (.cons (.var 5) .nil))) (.cons (.ret (.cst (.bl false))) .nil) .nil) (.cons (.set (.nm 9) (.tryl [1, 2] (.call 77 (.cons (.var 5) (.cons (.var 6) .nil))))) (.cons (.ite (.cmp .ne (.tryl [1, 2] (.call 75 (.cons (.var 5) (.cons (.var 6) .nil)))) (.var 9)) (.cons (.ret (.cst (.bl false))) .nil) .nil) (.cons (.ite (.cmp .ne (.call 75 (.cons (.var 5) (.cons (.call 76 (.cons (.var 5) .nil)) .nil))) (.call 36 (.cons (.cst (.int 1)) (.cons (.cst (.int 0)) .nil)))) (.cons (.ret (.cst (.bl false))) .nil) .nil) (.cons (.par 10 11 (.bin .add (.cst (.int 1)) (.call 5 (.cons (.var 2) (.cons (.cst (.int 9)) .nil)))) (.bin .sub (.call 5 (.cons (.var 2) (.cons (.cst (.int 19)) .nil))) (.cst (.int 9)))) (.cons (.set (.nm 12) (.bin .add (.bin .mul (.var 10) (.var 10)) (.bin .mul (.var 11) (.var 11)))) (.cons (.set (.nm 13) (.call 14 (.cons (.bin .sub (.bin .mul (.var 10) (.var 10)) (.bin .mul (.var 11) (.var 11))) (.cons (.var 12) .nil)))) (.cons (.set (.nm 14) (.call 14 (.cons (.bin .mul (.bin .mul (.cst (.int 2)) (.var 10)) (.var 11)) (.cons (.var 12) .nil)))) (.cons (.ite (.nt (.call 11 (.cons (.call 36 (.cons (.var 10) (.cons (.var 11) .nil))) (.cons (.tup (.cons (.call 40 (.cons (.var 13) .nil)) (.cons (.call 40 (.cons (.var 14) .nil)) .nil))) .nil)))) (.cons (.ret (.cst (.bl false))) .nil) .nil) .nil)))))))))))))))))))) (.cons (.forr (.nm 15) (.seq (.var 3)) (.cons (.set (.nm 9) (.lst false (.cons (.call 80 (.cons (.var 15) .nil)) (.cons (.call 81 (.cons (.var 15) .nil)) .nil)))) (.cons (.ite (.nt (.call 11 (.cons (.lst false (.cons (.call 33 (.cons (.var 15) .nil)) (.cons (.call 35 (.cons (.var 15) .nil)) .nil))) (.cons (.var 9) .nil)))) (.cons (.ret (.cst (.bl false))) .nil) .nil) .nil))) .nil))))) (.cons (.ret (.cst (.bl true))) .nil))
def fn_law_k06 : Fn := ⟨"law", 1, 16, b_law_k06⟩
def b_sign : Ss := (.cons (.ret (.call 68 (.cons (.ix (.var 0) (.cst (.int 0))) (.cons (.tup (.cons (.ix (.var 0) (.cst (.int 1))) (.cons (.cst (.int 1)) .nil))) (.cons (.ix (.var 0) (.cst (.int 2))) .nil))))) .nil)
def fn_sign : Fn := ⟨"sign", 1, 1, b_sign⟩
def b_crossed : Ss := (.cons (.ret (.call 74 (.cons (.call 31 (.cons (.ix (.var 0) (.cst (.int 0))) (.cons (.ix (.var 1) (.cst (.int 1))) .nil))) (.cons (.call 31 (.cons (.ix (.var 0) (.cst (.int 1))) (.cons (.ix (.var 1) (.cst (.int 0))) .nil))) .nil)))) .nil)
def fn_crossed : Fn := ⟨"crossed", 2, 2, b_crossed⟩
def b_is_ahead : Ss := (.cons (.par 2 3 (.call 86 (.cons (.var 0) .nil)) (.call 86 (.cons (.var 1) .nil))) (.cons (.ite (.cmp .ne (.var 2) (.var 3)) (.cons (.ret (.cmp .lt (.var 2) (.var 3))) .nil) .nil) (.cons (.ret (.cmp .gt (.call 83 (.cons (.call 84 (.cons (.var 0) (.cons (.var 1) .nil))) .nil)) (.cst (.int 0)))) .nil)))
def fn_is_ahead : Fn := ⟨"is_ahead", 2, 4, b_is_ahead⟩
def b_half : Ss := (.cons (.set (.nm 1) (.call 83 (.cons (.ix (.var 0) (.cst (.int 1))) .nil))) (.cons (.ret (.ife (.or (.cmp .gt (.var 1) (.cst (.int 0))) (.and (.cmp .eq (.var 1) (.cst (.int 0))) (.cmp .gt (.call 83 (.cons (.ix (.var 0) (.cst (.int 0))) .nil)) (.cst (.int 0))))) (.cst (.int 0)) (.cst (.int 1)))) .nil))
def fn_half : Fn := ⟨"half", 1, 2, b_half⟩
def b_in_arc : Ss := (.cons (.set (.nm 2) (.call 76 (.cons (.ix (.var 0) (.cst (.int 0))) .nil))) (.cons (.par 3 4 (.call 75 (.cons (.var 2) (.cons (.ix (.var 0) (.cst (.int 1))) .nil))) (.call 75 (.cons (.var 2) (.cons (.var 1) .nil)))) (.cons (.ret (.nt (.call 85 (.cons (.var 3) (.cons (.var 4) .nil))))) .nil)))
def fn_in_arc : Fn := ⟨"in_arc", 2, 5, b_in_arc⟩
def b_law_sign : Ss := (.cons (.set (.nm 1) (.call 40 (.cons (.tup (.cons (.cst (.int 0)) (.cons (.cst (.int 1)) .nil))) .nil))) (.cons (.ret (.bin .sub (.prim .int (.cons (.call 69 (.cons (.var 1) (.cons (.var 0) .nil))) .nil)) (.prim .int (.cons (.call 69 (.cons (.var 0) (.cons (.var 1) .nil))) .nil)))) .nil))
def fn_law_sign : Fn := ⟨"_law_sign", 1, 2, b_law_sign⟩
def b_law_cross : Ss := (.cons (.ret (.call 30 (.cons (.call 31 (.cons (.ix (.var 0) (.cst (.int 0))) (.cons (.ix (.var 1) (.cst (.int 1))) .nil))) (.cons (.call 60 (.cons (.call 31 (.cons (.ix (.var 0) (.cst (.int 1))) (.cons (.ix (.var 1) (.cst (.int 0))) .nil))) .nil)) .nil)))) .nil)
def fn_law_cross : Fn := ⟨"_law_cross", 2, 2, b_law_cross⟩
def b_law_half : Ss := (.cons (.set (.nm 1) (.call 88 (.cons (.ix (.var 0) (.cst (.int 1))) .nil))) (.cons (.ret (.ife (.or (.cmp .gt (.var 1) (.cst (.int 0))) (.and (.cmp .eq (.var 1) (.cst (.int 0))) (.cmp .gt (.call 88 (.cons (.ix (.var 0) (.cst (.int 0))) .nil)) (.cst (.int 0))))) (.cst (.int 0)) (.cst (.int 1)))) .nil))
def fn_law_half : Fn := ⟨"_law_half", 1, 2, b_law_half⟩
def b_law_ahead : Ss := (.cons (.ite (.cmp .ne (.call 90 (.cons (.var 0) .nil)) (.call 90 (.cons (.var 1) .nil))) (.cons (.ret (.cmp .lt (.call 90 (.cons (.var 0) .nil)) (.call 90 (.cons (.var 1) .nil)))) .nil) .nil) (.cons (.ret (.cmp .gt (.call 88 (.cons (.call 89 (.cons (.var 0) (.cons (.var 1) .nil))) .nil)) (.cst (.int 0)))) .nil))
def fn_law_ahead : Fn := ⟨"_law_ahead", 2, 2, b_law_ahead⟩
def b_law_in_arc : Ss := (.cons (.set (.nm 2) (.call 78 (.cons (.ix (.var 0) (.cst (.int 0))) .nil))) (.cons (.ret (.nt (.call 91 (.cons (.call 77 (.cons (.var 2) (.cons (.ix (.var 0) (.cst (.int 1))) .nil))) (.cons (.call 77 (.cons (.var 2) (.cons (.var 1) .nil))) .nil))))) .nil))
def fn_law_in_arc : Fn := ⟨"_law_in_arc", 2, 3, b_law_in_arc⟩
def b_law_near : Ss := (.cons (.ret (.call 77 (.cons (.var 1) (.cons (.call 7 (.cons (.var 0) (.cons (.lst false (.cons (.call 36 (.cons (.cst (.int 500)) (.cons (.cst (.int 1)) .nil))) (.cons (.call 36 (.cons (.cst (.int 500)) (.cons (.neg (.cst (.int 1))) .nil))) (.cons (.call 36 (.cons (.cst (.int 40)) (.cons (.cst (.int 3)) .nil))) .nil)))) .nil))) .nil)))) .nil)
def fn_law_near : Fn := ⟨"_law_near", 2, 2, b_law_near⟩
def b_law_k07 : Ss := (.cons (.forr (.nm 1) (.seq (.sl (.bin .add (.lst false (.cons (.cst (.int 0)) .nil)) (.var 0)) .no (.so (.cst (.int 10))))) (.cons (.set (.nm 2) (.call 4 (.cons (.var 1) (.cons (.cst (.int 7)) .nil)))) (.cons (.forr (.nm 3) (.rng (.cst (.int 4))) (.cons (.set (.nm 4) (.call 42 (.cons (.var 2) .nil))) (.cons (.ite (.cmp .isn (.var 4) (.cst (.non))) (.cons (.set (.nm 5) (.lst false (.cons (.ix (.var 4) (.cst (.int 0))) (.cons (.ix (.var 4) (.cst (.int 1))) (.cons (.call 41 (.cons (.var 2) .nil)) (.cons (.call 79 (.cons (.var 2) .nil)) (.cons (.call 93 (.cons (.var 2) (.cons (.ix (.var 4) (.cst (.int 0))) .nil))) .nil))))))) (.cons (.forr (.nm 6) (.seq (.bin .add (.var 5) (.lst false (.cons (.call 93 (.cons (.var 2) (.cons (.ix (.var 4) (.cst (.int 1))) .nil))) .nil)))) (.cons (.set (.nm 7) (.call 87 (.cons (.var 4) (.cons (.var 6) .nil)))) (.cons (.ite (.nt (.call 11 (.cons (.var 7) (.cons (.call 92 (.cons (.var 4) (.cons (.var 6) .nil))) .nil)))) (.cons (.ret (.cst (.bl false))) .nil) .nil) (.cons (.set (.nm 8) (.call 87 (.cons (.tup (.cons (.ix (.var 4) (.cst (.int 1))) (.cons (.ix (.var 4) (.cst (.int 0))) .nil))) (.cons (.var 6) .nil)))) (.cons (.ite (.or (.and (.nt (.var 7)) (.nt (.var 8))) (.and (.var 7) (.and (.var 8) (.cmp .nin (.var 6) (.var 4))))) (.cons (.ret (.cst (.bl false))) .nil) .nil) (.cons (.set (.nm 9) (.call 41 (.cons (.var 2) .nil))) (.cons (.set (.nm 10) (.tup (.cons (.call 77 (.cons (.ix (.var 4) (.cst (.int 0))) (.cons (.var 9) .nil))) (.cons (.call 77 (.cons (.ix (.var 4) (.cst (.int 1))) (.cons (.var 9) .nil))) .nil)))) (.cons (.ite (.cmp .ne (.call 87 (.cons (.var 10) (.cons (.call 77 (.cons (.var 6) (.cons (.var 9) .nil))) .nil))) (.var 7)) (.cons (.ret (.cst (.bl false))) .nil) .nil) .nil)))))))) .nil)) .nil) .nil))) .nil))) (.cons (.ret (.cst (.bl true))) .nil))
def fn_law_k07 : Fn := ⟨"law", 1, 11, b_law_k07⟩
def b_keeps : Ss := (.cons (.ite (.cmp .eq (.ix (.var 0) (.cst (.int 0))) (.cst (.str "turn"))) (.cons (.ret (.or (.cmp .is (.ix (.var 0) (.cst (.int 2))) (.cst (.non))) (.call 87 (.cons (.ix (.var 0) (.cst (.int 2))) (.cons (.var 1) .nil))))) .nil) .nil) (.cons (.ret (.and (.nt (.call 69 (.cons (.var 1) (.cons (.call 26 (.cons (.ix (.var 0) (.cst (.int 2))) .nil)) .nil)))) (.nt (.call 69 (.cons (.call 26 (.cons (.ix (.var 0) (.cst (.int 3))) .nil)) (.cons (.var 1) .nil)))))) .nil))
def fn_keeps : Fn := ⟨"keeps", 2, 2, b_keeps⟩
def b_numbers_in : Ss := (.cons (.set (.nm 1) (.lst true (.nil))) (.cons (.forr (.nm 2) (.seq (.var 0)) (.cons (.aug 1 .add (.ife (.cmp .eq (.prim .len (.cons (.var 2) .nil)) (.cst (.int 2))) (.prim .listm (.cons (.var 2) .nil)) (.lst true (.cons (.var 2) .nil)))) .nil)) (.cons (.ret (.frz (.var 1))) .nil)))
def fn_numbers_in : Fn := ⟨"numbers_in", 1, 3, b_numbers_in⟩
def b_are_one_field : Ss := (.cons (.tryo (.cons (.forr (.nm 1) (.seq (.var 0)) (.cons (.forr (.nm 2) (.seq (.var 0)) (.cons (.ex (.call 31 (.cons (.var 1) (.cons (.var 2) .nil)))) .nil)) .nil)) .nil) [2] 2 (.bl false)) (.cons (.ret (.cst (.bl true))) .nil))
def fn_are_one_field : Fn := ⟨"are_one_field", 1, 3, b_are_one_field⟩
def b_is_standing : Ss := (.cons (.ite (.or (.nt (.prim (.isi [.tuple]) (.cons (.var 1) .nil))) (.cmp .ne (.prim .len (.cons (.var 1) .nil)) (.prim .len (.cons (.var 0) .nil)))) (.cons (.ret (.cst (.bl false))) .nil) .nil) (.cons (.forr (.tup (.cons (.nm 2) (.cons (.nm 3) .nil))) (.zip (.var 0) (.var 1)) (.cons (.ite (.nt (.ife (.cmp .eq (.ix (.var 2) (.cst (.int 0))) (.cst (.str "turn"))) (.call 33 (.cons (.var 3) .nil)) (.call 25 (.cons (.var 3) .nil)))) (.cons (.ret (.cst (.bl false))) .nil) .nil) .nil)) (.cons (.ret (.and (.call 97 (.cons (.call 96 (.cons (.var 1) .nil)) .nil)) (.prim .all (.cons (.lc [2, 3] (.tup (.cons (.nm 2) (.cons (.nm 3) .nil))) (.zip (.var 0) (.var 1)) .no (.call 95 (.cons (.var 2) (.cons (.var 3) .nil)))) .nil)))) .nil)))
def fn_is_standing : Fn := ⟨"is_standing", 2, 4, b_is_standing⟩
def b_law_even_standing : Ss := (.cons (.set (.nm 2) (.lst true (.nil))) (.cons (.forr (.nm 3) (.seq (.var 1)) (.cons (.ite (.cmp .eq (.ix (.var 3) (.cst (.int 0))) (.cst (.str "turn"))) (.cons (.ex (.app (.var 2) (.call 41 (.cons (.var 0) .nil)))) .nil) (.cons (.set (.nm 4) (.call 14 (.cons (.call 5 (.cons (.var 0) (.cons (.cst (.int 9)) .nil))) (.cons (.cst (.int 8)) .nil)))) (.cons (.set (.nm 5) (.call 39 (.cons (.ix (.var 3) (.cst (.int 2))) (.cons (.call 51 (.cons (.call 62 (.cons (.ix (.var 3) (.cst (.int 3))) (.cons (.ix (.var 3) (.cst (.int 2))) .nil))) (.cons (.var 4) .nil))) .nil)))) (.cons (.ex (.app (.var 2) (.call 40 (.cons (.var 5) .nil)))) .nil)))) .nil)) (.cons (.ret (.prim .tuple (.cons (.var 2) .nil))) .nil)))
def fn_law_even_standing : Fn := ⟨"_law_even_standing", 2, 6, b_law_even_standing⟩
def b_law_keeps : Ss := (.cons (.ite (.cmp .eq (.ix (.var 0) (.cst (.int 0))) (.cst (.str "turn"))) (.cons (.ret (.or (.cmp .is (.ix (.var 0) (.cst (.int 2))) (.cst (.non))) (.call 92 (.cons (.ix (.var 0) (.cst (.int 2))) (.cons (.var 1) .nil))))) .nil) .nil) (.cons (.ret (.and (.nt (.call 69 (.cons (.var 1) (.cons (.call 40 (.cons (.ix (.var 0) (.cst (.int 2))) .nil)) .nil)))) (.nt (.call 69 (.cons (.call 40 (.cons (.ix (.var 0) (.cst (.int 3))) .nil)) (.cons (.var 1) .nil)))))) .nil))
def fn_law_keeps : Fn := ⟨"_law_keeps", 2, 2, b_law_keeps⟩
def b_law_within : Ss := (.cons (.forr (.tup (.cons (.nm 2) (.cons (.nm 3) .nil))) (.zip (.var 0) (.var 1)) (.cons (.ite (.nt (.call 100 (.cons (.var 2) (.cons (.var 3) .nil)))) (.cons (.ret (.cst (.bl false))) .nil) .nil) .nil)) (.cons (.ret (.cst (.bl true))) .nil))
def fn_law_within : Fn := ⟨"_law_within", 2, 4, b_law_within⟩
def b_law_is_standing : Ss := (.cons (.ite (.or (.nt (.prim (.isi [.tuple]) (.cons (.var 1) .nil))) (.cmp .ne (.prim .len (.cons (.var 1) .nil)) (.prim .len (.cons (.var 0) .nil)))) (.cons (.ret (.cst (.bl false))) .nil) .nil) (.cons (.set (.nm 2) (.lst false (.nil))) (.cons (.forr (.tup (.cons (.nm 3) (.cons (.nm 4) .nil))) (.zip (.var 0) (.var 1)) (.cons (.ite (.nt (.ife (.cmp .eq (.ix (.var 3) (.cst (.int 0))) (.cst (.str "turn"))) (.call 33 (.cons (.var 4) .nil)) (.call 25 (.cons (.var 4) .nil)))) (.cons (.ret (.cst (.bl false))) .nil) .nil) (.cons (.set (.nm 2) (.bin .add (.var 2) (.ife (.cmp .eq (.ix (.var 3) (.cst (.int 0))) (.cst (.str "turn"))) (.prim .list (.cons (.var 4) .nil)) (.lst false (.cons (.var 4) .nil))))) .nil))) (.cons (.set (.nm 5) (.lc [6] (.nm 6) (.seq (.var 2)) (.so (.cmp .ne (.ix (.var 6) (.cst (.int 1))) (.cst (.int 0)))) (.ix (.var 6) (.cst (.int 2))))) (.cons (.ite (.cmp .ne (.lc [7] (.nm 7) (.seq (.var 5)) (.so (.nt (.call 53 (.cons (.call 63 (.cons (.var 7) (.cons (.ix (.var 5) (.cst (.int 0))) .nil))) .nil)))) (.var 7)) (.lst false (.nil))) (.cons (.ret (.cst (.bl false))) .nil) .nil) (.cons (.ret (.call 101 (.cons (.var 0) (.cons (.var 1) .nil)))) .nil))))))
def fn_law_is_standing : Fn := ⟨"_law_is_standing", 2, 8, b_law_is_standing⟩
def b_law_some_standing : Ss := (.cons (.set (.nm 2) (.call 7 (.cons (.var 0) (.cons (.lst false (.cons (.tup (.cons (.cst (.int 3)) (.cons (.cst (.int 4)) .nil))) (.cons (.tup (.cons (.cst (.int 15)) (.cons (.cst (.int 16)) .nil))) (.cons (.tup (.cons (.cst (.int 3)) (.cons (.cst (.int 1)) .nil))) .nil)))) .nil)))) (.cons (.set (.nm 3) (.lst true (.nil))) (.cons (.forr (.nm 4) (.seq (.var 1)) (.cons (.ite (.cmp .eq (.ix (.var 4) (.cst (.int 0))) (.cst (.str "turn"))) (.cons (.set (.nm 5) (.ife (.cmp .is (.ix (.var 4) (.cst (.int 2))) (.cst (.non))) (.lst false (.nil)) (.prim .list (.cons (.ix (.var 4) (.cst (.int 2))) .nil)))) (.cons (.ex (.app (.var 3) (.call 7 (.cons (.var 0) (.cons (.bin .add (.var 5) (.lst false (.cons (.call 41 (.cons (.var 0) .nil)) (.cons (.call 79 (.cons (.var 0) .nil)) (.cons (.call 36 (.cons (.cst (.int 1)) (.cons (.cst (.int 0)) .nil))) .nil))))) .nil))))) .nil)) (.cons (.set (.nm 6) (.call 54 (.cons (.call 43 (.cons (.var 0) .nil)) (.cons (.call 7 (.cons (.var 0) (.cons (.lst false (.cons (.tup (.cons (.cst (.int 0)) (.cons (.cst (.int 1)) .nil))) (.cons (.tup (.cons (.cst (.int 0)) (.cons (.cst (.int 1)) .nil))) (.cons (.tup (.cons (.cst (.int 1)) (.cons (.cst (.int 4)) .nil))) .nil)))) .nil))) (.cons (.var 2) .nil))))) (.cons (.ex (.app (.var 3) (.call 7 (.cons (.var 0) (.cons (.lst false (.cons (.call 40 (.cons (.ix (.var 4) (.cst (.int 2))) .nil)) (.cons (.call 40 (.cons (.ix (.var 4) (.cst (.int 3))) .nil)) (.cons (.var 6) (.cons (.var 6) .nil))))) .nil))))) .nil))) .nil)) (.cons (.ret (.prim .tuple (.cons (.var 3) .nil))) .nil))))
def fn_law_some_standing : Fn := ⟨"_law_some_standing", 2, 7, b_law_some_standing⟩
def b_law_k09 : Ss := (.cons (.forr (.nm 1) (.seq (.sl (.bin .add (.lst false (.cons (.cst (.int 0)) .nil)) (.var 0)) .no (.so (.cst (.int 8))))) (.cons (.set (.nm 2) (.call 4 (.cons (.var 1) (.cons (.cst (.int 9)) .nil)))) (.cons (.forr (.nm 3) (.rng (.cst (.int 4))) (.cons (.set (.nm 4) (.call 46 (.cons (.var 2) (.cons (.bin .add (.cst (.int 2)) (.call 5 (.cons (.var 2) (.cons (.cst (.int 2)) .nil)))) (.cons (.cst (.int 1)) .nil))))) (.cons (.set (.nm 5) (.call 99 (.cons (.var 2) (.cons (.var 4) .nil)))) (.cons (.set (.nm 6) (.lst true (.cons (.var 5) (.cons (.call 13 (.cons (.var 2) (.cons (.var 5) .nil))) (.cons (.rev (.var 5) (.neg (.cst (.int 1)))) (.cons (.sl (.var 5) (.so (.cst (.int 1))) .no) (.cons (.prim .list (.cons (.var 5) .nil)) (.cons (.call 12 (.cons (.var 2) .nil)) .nil)))))))) (.cons (.forr (.nm 7) (.rng (.cst (.int 3))) (.cons (.ex (.app (.var 6) (.call 103 (.cons (.var 2) (.cons (.var 4) .nil))))) .nil)) (.cons (.forr (.nm 8) (.seq (.var 6)) (.cons (.ite (.nt (.call 11 (.cons (.call 98 (.cons (.var 4) (.cons (.var 8) .nil))) (.cons (.call 102 (.cons (.var 4) (.cons (.var 8) .nil))) .nil)))) (.cons (.ret (.cst (.bl false))) .nil) .nil) .nil)) .nil)))))) .nil))) (.cons (.ret (.cst (.bl true))) .nil))
def fn_law_k09 : Fn := ⟨"law", 1, 9, b_law_k09⟩
def b_even : Ss := (.cons (.ret (.tup (.cons (.ix (.ix (.var 0) (.cst (.int 0))) (.cst (.int 0))) (.cons (.ix (.ix (.var 0) (.cst (.int 1))) (.cst (.int 0))) .nil)))) .nil)
def fn_even : Fn := ⟨"even", 1, 1, b_even⟩
def b_cross : Ss := (.cons (.ret (.call 59 (.cons (.call 19 (.cons (.ix (.var 0) (.cst (.int 0))) (.cons (.ix (.var 1) (.cst (.int 1))) .nil))) (.cons (.call 19 (.cons (.ix (.var 0) (.cst (.int 1))) (.cons (.ix (.var 1) (.cst (.int 0))) .nil))) .nil)))) .nil)
def fn_cross : Fn := ⟨"cross", 2, 2, b_cross⟩
def b_spun : Ss := (.cons (.ret (.tup (.cons (.call 59 (.cons (.call 19 (.cons (.ix (.var 0) (.cst (.int 0))) (.cons (.ix (.var 1) (.cst (.int 0))) .nil))) (.cons (.call 19 (.cons (.ix (.var 0) (.cst (.int 1))) (.cons (.ix (.var 1) (.cst (.int 1))) .nil))) .nil))) (.cons (.call 18 (.cons (.call 19 (.cons (.ix (.var 0) (.cst (.int 0))) (.cons (.ix (.var 1) (.cst (.int 1))) .nil))) (.cons (.call 19 (.cons (.ix (.var 0) (.cst (.int 1))) (.cons (.ix (.var 1) (.cst (.int 0))) .nil))) .nil))) .nil)))) .nil)
def fn_spun : Fn := ⟨"spun", 2, 2, b_spun⟩
def b_back : Ss := (.cons (.ret (.tup (.cons (.ix (.var 0) (.cst (.int 0))) (.cons (.call 59 (.cons (.top "NOUGHT" top_NOUGHT) (.cons (.ix (.var 0) (.cst (.int 1))) .nil))) .nil)))) .nil)
def fn_back : Fn := ⟨"back", 1, 1, b_back⟩
def b_is_between : Ss := (.cons (.ret (.and (.nt (.call 110 (.cons (.ix (.var 0) (.cst (.int 2))) (.cons (.var 1) .nil)))) (.nt (.call 110 (.cons (.var 1) (.cons (.ix (.var 0) (.cst (.int 3))) .nil)))))) .nil)
def fn_is_between : Fn := ⟨"is_between", 2, 2, b_is_between⟩
def b_over_by : Ss := (.cons (.ret (.cmp .gt (.bin .mul (.ix (.var 0) (.cst (.int 0))) (.ix (.var 1) (.cst (.int 1)))) (.bin .mul (.ix (.var 1) (.cst (.int 0))) (.ix (.var 0) (.cst (.int 1)))))) .nil)
def fn_over_by : Fn := ⟨"over_by", 2, 2, b_over_by⟩
def b_within : Ss := (.cons (.set (.nm 2) (.call 108 (.cons (.call 105 (.cons (.ix (.var 0) (.cst (.int 0))) .nil)) .nil))) (.cons (.par 3 4 (.call 107 (.cons (.var 2) (.cons (.call 105 (.cons (.ix (.var 0) (.cst (.int 1))) .nil)) .nil))) (.call 107 (.cons (.var 2) (.cons (.var 1) .nil)))) (.cons (.ret (.nt (.call 112 (.cons (.var 3) (.cons (.var 4) .nil))))) .nil)))
def fn_within : Fn := ⟨"within", 2, 5, b_within⟩
def b_is_first : Ss := (.cons (.par 2 3 (.call 113 (.cons (.var 0) .nil)) (.call 113 (.cons (.var 1) .nil))) (.cons (.ret (.ife (.cmp .ne (.var 2) (.var 3)) (.cmp .lt (.var 2) (.var 3)) (.cmp .gt (.ix (.call 106 (.cons (.var 0) (.cons (.var 1) .nil))) (.cst (.int 0))) (.cst (.int 0))))) .nil))
def fn_is_first : Fn := ⟨"is_first", 2, 4, b_is_first⟩
def b_lower : Ss := (.cons (.ret (.ife (.or (.cmp .gt (.ix (.ix (.var 0) (.cst (.int 1))) (.cst (.int 0))) (.cst (.int 0))) (.and (.cmp .eq (.ix (.ix (.var 0) (.cst (.int 1))) (.cst (.int 0))) (.cst (.int 0))) (.cmp .gt (.ix (.ix (.var 0) (.cst (.int 0))) (.cst (.int 0))) (.cst (.int 0))))) (.cst (.int 0)) (.cst (.int 1)))) .nil)
def fn_lower : Fn := ⟨"lower", 1, 1, b_lower⟩
def b_smaller : Ss := (.cons (.ret (.ife (.call 21 (.cons (.var 0) (.cons (.var 1) .nil))) (.var 0) (.var 1))) .nil)
def fn_smaller : Fn := ⟨"smaller", 2, 2, b_smaller⟩
def b_greater : Ss := (.cons (.ret (.ife (.call 21 (.cons (.var 0) (.cons (.var 1) .nil))) (.var 1) (.var 0))) .nil)
def fn_greater : Fn := ⟨"greater", 2, 2, b_greater⟩
def b_square : Ss := (.cons (.ret (.call 19 (.cons (.var 0) (.cons (.var 0) .nil)))) .nil)
def fn_square : Fn := ⟨"square", 1, 1, b_square⟩
def b_ring : Ss := (.cons (.ite (.or (.cmp .ne (.prim .len (.cons (.var 0) .nil)) (.cst (.int 2))) (.or (.cmp .ne (.ix (.ix (.var 0) (.cst (.int 0))) (.cst (.int 0))) (.cst (.str "turn"))) (.cmp .isn (.ix (.ix (.var 0) (.cst (.int 0))) (.cst (.int 2))) (.cst (.non))))) (.cons (.rai 8) .nil) .nil) (.cons (.set (.nm 1) (.ix (.ix (.var 0) (.cst (.int 0))) (.cst (.int 1)))) (.cons (.ite (.cmp .eq (.ix (.ix (.var 0) (.cst (.int 1))) (.cst (.int 0))) (.cst (.str "turn"))) (.cons (.set (.nm 2) (.call 118 (.cons (.ix (.ix (.var 0) (.cst (.int 1))) (.cst (.int 2))) .nil))) (.cons (.set (.nm 3) (.call 18 (.cons (.call 116 (.cons (.var 1) .nil)) (.cons (.call 116 (.cons (.ix (.ix (.var 0) (.cst (.int 1))) (.cst (.int 1))) .nil)) .nil)))) (.cons (.set (.nm 4) (.call 19 (.cons (.tup (.cons (.cst (.int 2)) (.cons (.cst (.int 1)) .nil))) (.cons (.call 19 (.cons (.var 1) (.cons (.ix (.ix (.var 0) (.cst (.int 1))) (.cst (.int 1))) .nil))) .nil)))) (.cons (.ret (.prim .tuple (.cons (.lc [10] (.nm 10) (.seq (.var 2)) .no (.call 18 (.cons (.var 3) (.cons (.call 19 (.cons (.var 4) (.cons (.var 10) .nil))) .nil)))) .nil))) .nil)))) .nil) (.cons (.set (.nm 5) (.call 19 (.cons (.var 1) (.cons (.ix (.call 105 (.cons (.ix (.ix (.var 0) (.cst (.int 1))) (.cst (.int 1))) .nil)) (.cst (.int 0))) .nil)))) (.cons (.set (.nm 6) (.lc [9] (.nm 9) (.seq (.sl (.ix (.var 0) (.cst (.int 1))) (.so (.cst (.int 2))) .no)) .no (.call 18 (.cons (.call 18 (.cons (.call 116 (.cons (.var 1) .nil)) (.cons (.call 116 (.cons (.var 9) .nil)) .nil))) (.cons (.call 19 (.cons (.tup (.cons (.cst (.int 2)) (.cons (.cst (.int 1)) .nil))) (.cons (.call 19 (.cons (.var 9) (.cons (.var 5) .nil))) .nil))) .nil))))) (.cons (.set (.nm 7) (.call 114 (.cons (.ix (.var 6) (.cst (.int 0))) (.cons (.ix (.var 6) (.cst (.int 1))) .nil)))) (.cons (.set (.nm 8) (.call 59 (.cons (.top "NOUGHT" top_NOUGHT) (.cons (.var 5) .nil)))) (.cons (.ite (.call 109 (.cons (.ix (.var 0) (.cst (.int 1))) (.cons (.var 8) .nil))) (.cons (.set (.nm 7) (.call 59 (.cons (.call 116 (.cons (.var 1) .nil)) (.cons (.call 116 (.cons (.var 5) .nil)) .nil)))) .nil) .nil) (.cons (.ret (.tup (.cons (.var 7) (.cons (.call 115 (.cons (.ix (.var 6) (.cst (.int 0))) (.cons (.ix (.var 6) (.cst (.int 1))) .nil))) .nil)))) .nil)))))))))
def fn_ring : Fn := ⟨"ring", 1, 11, b_ring⟩
def b_turn_ends : Ss := (.cons (.ite (.cmp .is (.var 0) (.cst (.non))) (.cons (.ret (.lst false (.cons (.call 59 (.cons (.top "NOUGHT" top_NOUGHT) (.cons (.top "ONE" top_ONE) .nil))) (.cons (.top "ONE" top_ONE) .nil)))) .nil) .nil) (.cons (.par 1 2 (.ix (.call 105 (.cons (.ix (.var 0) (.cst (.int 0))) .nil)) (.cst (.int 0))) (.ix (.call 105 (.cons (.ix (.var 0) (.cst (.int 1))) .nil)) (.cst (.int 0)))) (.cons (.par 1 2 (.call 114 (.cons (.var 1) (.cons (.var 2) .nil))) (.call 115 (.cons (.var 1) (.cons (.var 2) .nil)))) (.cons (.set (.nm 1) (.ife (.call 111 (.cons (.var 0) (.cons (.tup (.cons (.call 59 (.cons (.top "NOUGHT" top_NOUGHT) (.cons (.top "ONE" top_ONE) .nil))) (.cons (.top "NOUGHT" top_NOUGHT) .nil))) .nil))) (.call 59 (.cons (.top "NOUGHT" top_NOUGHT) (.cons (.top "ONE" top_ONE) .nil))) (.var 1))) (.cons (.ret (.lst false (.cons (.var 1) (.cons (.ife (.call 111 (.cons (.var 0) (.cons (.tup (.cons (.top "ONE" top_ONE) (.cons (.top "NOUGHT" top_NOUGHT) .nil))) .nil))) (.top "ONE" top_ONE) (.var 2)) .nil)))) .nil)))))
def fn_turn_ends : Fn := ⟨"turn_ends", 1, 3, b_turn_ends⟩
def b_law_stations : Ss := (.cons (.set (.nm 2) (.tup (.cons (.tup (.cons (.call 40 (.cons (.tup (.cons (.cst (.int 0)) (.cons (.cst (.int 1)) .nil))) .nil)) (.cons (.call 40 (.cons (.tup (.cons (.cst (.int 0)) (.cons (.cst (.int 1)) .nil))) .nil)) .nil))) (.cons (.tup (.cons (.call 40 (.cons (.tup (.cons (.cst (.int 1)) (.cons (.cst (.int 1)) .nil))) .nil)) (.cons (.call 40 (.cons (.tup (.cons (.cst (.int 0)) (.cons (.cst (.int 1)) .nil))) .nil)) .nil))) .nil)))) (.cons (.set (.nm 3) (.lst true (.cons (.var 2) .nil))) (.cons (.forr (.tup (.cons (.nm 4) (.cons (.nm 5) .nil))) (.zip (.var 0) (.var 1)) (.cons (.set (.tup (.cons (.nm 6) (.cons (.nm 7) .nil))) (.ix (.var 3) (.neg (.cst (.int 1))))) (.cons (.set (.nm 7) (.call 77 (.cons (.var 7) (.cons (.ife (.cmp .eq (.ix (.var 4) (.cst (.int 0))) (.cst (.str "turn"))) (.var 5) (.ix (.var 4) (.cst (.int 1)))) .nil)))) (.cons (.set (.nm 8) (.ife (.cmp .eq (.ix (.var 4) (.cst (.int 0))) (.cst (.str "turn"))) (.call 40 (.cons (.ix (.var 4) (.cst (.int 1))) .nil)) (.var 5))) (.cons (.set (.nm 9) (.call 30 (.cons (.ix (.var 6) (.cst (.int 0))) (.cons (.call 31 (.cons (.ix (.var 7) (.cst (.int 0))) (.cons (.var 8) .nil))) .nil)))) (.cons (.ex (.app (.var 3) (.tup (.cons (.tup (.cons (.var 9) (.cons (.call 30 (.cons (.ix (.var 6) (.cst (.int 1))) (.cons (.call 31 (.cons (.ix (.var 7) (.cst (.int 1))) (.cons (.var 8) .nil))) .nil))) .nil))) (.cons (.var 7) .nil))))) .nil)))))) (.cons (.ret (.frz (.var 3))) .nil))))
def fn_law_stations : Fn := ⟨"_law_stations", 2, 10, b_law_stations⟩
def b_law_end : Ss := (.cons (.ret (.ix (.call 119 (.cons (.var 0) (.cons (.var 1) .nil))) (.neg (.cst (.int 1))))) .nil)
def fn_law_end : Fn := ⟨"_law_end", 2, 2, b_law_end⟩
def b_law_even_end : Ss := (.cons (.set (.tup (.cons (.nm 2) (.cons (.nm 3) .nil))) (.call 120 (.cons (.var 0) (.cons (.var 1) .nil)))) (.cons (.ret (.tup (.cons (.tup (.cons (.ix (.ix (.var 2) (.cst (.int 0))) (.cst (.int 0))) (.cons (.ix (.ix (.var 2) (.cst (.int 1))) (.cst (.int 0))) .nil))) (.cons (.var 3) .nil)))) .nil))
def fn_law_even_end : Fn := ⟨"_law_even_end", 2, 4, b_law_even_end⟩
def b_law_far : Ss := (.cons (.set (.nm 2) (.ix (.call 121 (.cons (.var 0) (.cons (.tup (.cons (.call 36 (.cons (.cst (.int 1)) (.cons (.cst (.int 0)) .nil))) (.cons (.var 1) .nil))) .nil))) (.cst (.int 0)))) (.cons (.ret (.call 39 (.cons (.call 51 (.cons (.ix (.var 2) (.cst (.int 0))) (.cons (.ix (.var 2) (.cst (.int 0))) .nil))) (.cons (.call 51 (.cons (.ix (.var 2) (.cst (.int 1))) (.cons (.ix (.var 2) (.cst (.int 1))) .nil))) .nil)))) .nil))
def fn_law_far : Fn := ⟨"_law_far", 2, 3, b_law_far⟩
def b_law_ring_due : Ss := (.cons (.set (.nm 1) (.ix (.var 0) (.cst (.int 1)))) (.cons (.ite (.cmp .eq (.ix (.var 1) (.cst (.int 0))) (.cst (.str "turn"))) (.cons (.set (.nm 2) (.bin .add (.lst false (.cons (.call 36 (.cons (.cst (.int 1)) (.cons (.cst (.int 0)) .nil))) (.cons (.call 36 (.cons (.cst (.int 0)) (.cons (.cst (.int 1)) .nil))) .nil))) (.ife (.cmp .is (.ix (.var 1) (.cst (.int 2))) (.cst (.non))) (.lst false (.nil)) (.prim .list (.cons (.ix (.var 1) (.cst (.int 2))) .nil))))) .nil) (.cons (.set (.nm 3) (.call 51 (.cons (.tup (.cons (.bin .sub (.cst (.int 0)) (.ix (.ix (.ix (.var 0) (.cst (.int 0))) (.cst (.int 1))) (.cst (.int 0)))) (.cons (.ix (.ix (.ix (.var 0) (.cst (.int 0))) (.cst (.int 1))) (.cst (.int 1))) .nil))) (.cons (.ix (.ix (.ix (.var 1) (.cst (.int 1))) (.cst (.int 0))) (.cst (.int 0))) .nil)))) (.cons (.set (.nm 2) (.lst false (.cons (.call 40 (.cons (.var 3) .nil)) (.cons (.call 40 (.cons (.ix (.var 1) (.cst (.int 2))) .nil)) (.cons (.call 40 (.cons (.ix (.var 1) (.cst (.int 3))) .nil)) .nil))))) .nil))) (.cons (.set (.nm 4) (.lc [8] (.nm 8) (.seq (.var 2)) (.so (.call 100 (.cons (.var 1) (.cons (.var 8) .nil)))) (.call 122 (.cons (.var 0) (.cons (.var 8) .nil))))) (.cons (.par 5 6 (.ix (.var 4) (.cst (.int 0))) (.ix (.var 4) (.cst (.int 0)))) (.cons (.forr (.nm 7) (.seq (.var 4)) (.cons (.set (.nm 5) (.ife (.cmp .lt (.bin .mul (.ix (.var 7) (.cst (.int 0))) (.ix (.var 5) (.cst (.int 1)))) (.bin .mul (.ix (.var 5) (.cst (.int 0))) (.ix (.var 7) (.cst (.int 1))))) (.var 7) (.var 5))) (.cons (.set (.nm 6) (.ife (.cmp .lt (.bin .mul (.ix (.var 6) (.cst (.int 0))) (.ix (.var 7) (.cst (.int 1)))) (.bin .mul (.ix (.var 7) (.cst (.int 0))) (.ix (.var 6) (.cst (.int 1))))) (.var 7) (.var 6))) .nil))) (.cons (.ret (.tup (.cons (.var 5) (.cons (.var 6) .nil)))) .nil))))))
def fn_law_ring_due : Fn := ⟨"_law_ring_due", 1, 9, b_law_ring_due⟩
def b_law_k38 : Ss := (.cons (.forr (.nm 1) (.seq (.sl (.bin .add (.lst false (.cons (.cst (.int 0)) .nil)) (.var 0)) .no (.so (.cst (.int 10))))) (.cons (.set (.nm 2) (.call 4 (.cons (.var 1) (.cons (.cst (.int 38)) .nil)))) (.cons (.forr (.nm 3) (.rng (.cst (.int 5))) (.cons (.set (.nm 4) (.tup (.cons (.call 44 (.cons (.var 2) (.cons (.cst (.str "T")) (.cons (.cst (.bl false)) .nil)))) (.cons (.call 44 (.cons (.var 2) (.cons (.call 7 (.cons (.var 2) (.cons (.lst false (.cons (.cst (.str "T")) (.cons (.cst (.str "S")) .nil))) .nil))) (.cons (.cst (.bl true)) .nil)))) .nil)))) (.cons (.set (.tup (.cons (.nm 5) (.cons (.nm 6) .nil))) (.call 117 (.cons (.var 4) .nil))) (.cons (.ite (.nt (.call 11 (.cons (.tup (.cons (.var 5) (.cons (.var 6) .nil))) (.cons (.call 123 (.cons (.var 4) .nil)) .nil)))) (.cons (.ret (.cst (.bl false))) .nil) .nil) (.cons (.set (.nm 7) (.call 99 (.cons (.var 2) (.cons (.var 4) .nil)))) (.cons (.set (.nm 8) (.call 122 (.cons (.var 4) (.cons (.ix (.var 7) (.cst (.int 1))) .nil)))) (.cons (.set (.nm 9) (.or (.cmp .lt (.bin .mul (.ix (.var 8) (.cst (.int 0))) (.ix (.var 5) (.cst (.int 1)))) (.bin .mul (.ix (.var 5) (.cst (.int 0))) (.ix (.var 8) (.cst (.int 1))))) (.cmp .lt (.bin .mul (.ix (.var 6) (.cst (.int 0))) (.ix (.var 8) (.cst (.int 1)))) (.bin .mul (.ix (.var 8) (.cst (.int 0))) (.ix (.var 6) (.cst (.int 1))))))) (.cons (.ite (.and (.var 9) (.call 100 (.cons (.ix (.var 4) (.cst (.int 1))) (.cons (.ix (.var 7) (.cst (.int 1))) .nil)))) (.cons (.ret (.cst (.bl false))) .nil) .nil) (.cons (.set (.nm 10) (.call 46 (.cons (.var 2) (.cons (.bin .add (.cst (.int 2)) (.call 5 (.cons (.var 2) (.cons (.cst (.int 2)) .nil)))) (.cons (.cst (.int 1)) .nil))))) (.cons (.set (.nm 11) (.and (.cmp .eq (.prim .len (.cons (.var 10) .nil)) (.cst (.int 2))) (.and (.cmp .eq (.ix (.ix (.var 10) (.cst (.int 0))) (.cst (.int 0))) (.cst (.str "turn"))) (.cmp .is (.ix (.ix (.var 10) (.cst (.int 0))) (.cst (.int 2))) (.cst (.non)))))) (.cons (.ite (.cmp .eq (.cmp .eq (.tryl [1, 8] (.call 117 (.cons (.var 10) .nil))) (.cst (.str "NotRound+"))) (.var 11)) (.cons (.ret (.cst (.bl false))) .nil) .nil) .nil))))))))))) .nil))) (.cons (.ret (.cst (.bl true))) .nil))
def fn_law_k38 : Fn := ⟨"law", 1, 12, b_law_k38⟩
def b_mirrored_joint : Ss := (.cons (.ite (.cmp .eq (.ix (.var 0) (.cst (.int 0))) (.cst (.str "slide"))) (.cons (.ret (.bin .add (.tup (.cons (.ix (.var 0) (.cst (.int 0))) (.cons (.call 76 (.cons (.ix (.var 0) (.cst (.int 1))) .nil)) .nil))) (.sl (.var 0) (.so (.cst (.int 2))) .no))) .nil) .nil) (.cons (.set (.nm 1) (.ix (.var 0) (.cst (.int 2)))) (.cons (.ret (.ife (.cmp .is (.var 1) (.cst (.non))) (.var 0) (.bin .add (.sl (.var 0) .no (.so (.cst (.int 2)))) (.tup (.cons (.tup (.cons (.call 76 (.cons (.ix (.var 1) (.cst (.int 1))) .nil)) (.cons (.call 76 (.cons (.ix (.var 1) (.cst (.int 0))) .nil)) .nil))) .nil))))) .nil)))
def fn_mirrored_joint : Fn := ⟨"mirrored_joint", 1, 2, b_mirrored_joint⟩
def b_mirrored : Ss := (.cons (.ret (.prim .tuple (.cons (.lc [1] (.nm 1) (.seq (.var 0)) .no (.call 125 (.cons (.var 1) .nil))) .nil))) .nil)
def fn_mirrored : Fn := ⟨"mirrored", 1, 2, b_mirrored⟩
def b_stretched : Ss := (.cons (.ite (.cmp .le (.ix (.var 1) (.cst (.int 0))) (.cst (.int 0))) (.cons (.rai 1) .nil) .nil) (.cons (.set (.nm 2) (.lst true (.nil))) (.cons (.forr (.nm 3) (.seq (.var 0)) (.cons (.ite (.cmp .eq (.ix (.var 3) (.cst (.int 0))) (.cst (.str "turn"))) (.cons (.ex (.app (.var 2) (.tup (.cons (.ix (.var 3) (.cst (.int 0))) (.cons (.call 19 (.cons (.ix (.var 3) (.cst (.int 1))) (.cons (.var 1) .nil))) (.cons (.ix (.var 3) (.cst (.int 2))) .nil)))))) .nil) (.cons (.ex (.app (.var 2) (.bin .add (.sl (.var 3) .no (.so (.cst (.int 2)))) (.tup (.cons (.call 19 (.cons (.ix (.var 3) (.cst (.int 2))) (.cons (.var 1) .nil))) (.cons (.call 19 (.cons (.ix (.var 3) (.cst (.int 3))) (.cons (.var 1) .nil))) .nil)))))) .nil)) .nil)) (.cons (.ret (.prim .tuple (.cons (.var 2) .nil))) .nil))))
def fn_stretched : Fn := ⟨"stretched", 2, 4, b_stretched⟩
def b_law_mirrored : Ss := (.cons (.ite (.cmp .eq (.ix (.var 0) (.cst (.int 0))) (.cst (.str "slide"))) (.cons (.ret (.tup (.cons (.ix (.var 0) (.cst (.int 0))) (.cons (.call 78 (.cons (.ix (.var 0) (.cst (.int 1))) .nil)) (.cons (.ix (.var 0) (.cst (.int 2))) (.cons (.ix (.var 0) (.cst (.int 3))) .nil)))))) .nil) .nil) (.cons (.set (.nm 1) (.ix (.var 0) (.cst (.int 2)))) (.cons (.ret (.tup (.cons (.ix (.var 0) (.cst (.int 0))) (.cons (.ix (.var 0) (.cst (.int 1))) (.cons (.ife (.cmp .is (.var 1) (.cst (.non))) (.cst (.non)) (.tup (.cons (.call 78 (.cons (.ix (.var 1) (.cst (.int 1))) .nil)) (.cons (.call 78 (.cons (.ix (.var 1) (.cst (.int 0))) .nil)) .nil)))) .nil))))) .nil)))
def fn_law_mirrored : Fn := ⟨"_law_mirrored", 1, 2, b_law_mirrored⟩
def b_law_stretched : Ss := (.cons (.ite (.cmp .eq (.ix (.var 0) (.cst (.int 0))) (.cst (.str "slide"))) (.cons (.ret (.tup (.cons (.ix (.var 0) (.cst (.int 0))) (.cons (.ix (.var 0) (.cst (.int 1))) (.cons (.call 51 (.cons (.ix (.var 0) (.cst (.int 2))) (.cons (.var 1) .nil))) (.cons (.call 51 (.cons (.ix (.var 0) (.cst (.int 3))) (.cons (.var 1) .nil))) .nil)))))) .nil) .nil) (.cons (.ret (.tup (.cons (.ix (.var 0) (.cst (.int 0))) (.cons (.call 51 (.cons (.ix (.var 0) (.cst (.int 1))) (.cons (.var 1) .nil))) (.cons (.ix (.var 0) (.cst (.int 2))) .nil))))) .nil))
def fn_law_stretched : Fn := ⟨"_law_stretched", 2, 2, b_law_stretched⟩
def b_law_k41 : Ss := (.cons (.forr (.nm 1) (.seq (.sl (.bin .add (.lst false (.cons (.cst (.int 0)) .nil)) (.var 0)) .no (.so (.cst (.int 10))))) (.cons (.set (.nm 2) (.call 4 (.cons (.var 1) (.cons (.cst (.int 41)) .nil)))) (.cons (.forr (.nm 3) (.rng (.cst (.int 4))) (.cons (.set (.nm 4) (.call 46 (.cons (.var 2) (.cons (.bin .add (.cst (.int 2)) (.call 5 (.cons (.var 2) (.cons (.cst (.int 2)) .nil)))) (.cons (.cst (.int 1)) .nil))))) (.cons (.set (.nm 5) (.prim .tuple (.cons (.lc [8] (.nm 8) (.seq (.var 4)) .no (.call 128 (.cons (.var 8) .nil))) .nil))) (.cons (.ite (.nt (.call 11 (.cons (.call 126 (.cons (.var 4) .nil)) (.cons (.var 5) .nil)))) (.cons (.ret (.cst (.bl false))) .nil) .nil) (.cons (.set (.nm 6) (.call 14 (.cons (.bin .sub (.call 5 (.cons (.var 2) (.cons (.cst (.int 15)) .nil))) (.cst (.int 4))) (.cons (.bin .add (.cst (.int 1)) (.call 5 (.cons (.var 2) (.cons (.cst (.int 6)) .nil)))) .nil)))) (.cons (.set (.nm 7) (.tryl [1] (.call 127 (.cons (.var 4) (.cons (.var 6) .nil))))) (.cons (.ite (.cmp .le (.ix (.var 6) (.cst (.int 0))) (.cst (.int 0))) (.cons (.ite (.cmp .ne (.var 7) (.cst (.str "NoNumber+"))) (.cons (.ret (.cst (.bl false))) .nil) .nil) .nil) (.cons (.ite (.cmp .ne (.var 7) (.tup (.cons (.cst (.str "told")) (.cons (.prim .tuple (.cons (.lc [8] (.nm 8) (.seq (.var 4)) .no (.call 129 (.cons (.var 8) (.cons (.var 6) .nil)))) .nil)) .nil)))) (.cons (.ret (.cst (.bl false))) .nil) (.cons (.ite (.cmp .isn (.call 38 (.cons (.ix (.var 7) (.cst (.int 1))) .nil)) (.cst (.bl true))) (.cons (.ret (.cst (.bl false))) .nil) .nil) .nil)) .nil)) .nil))))))) .nil))) (.cons (.ret (.cst (.bl true))) .nil))
def fn_law_k41 : Fn := ⟨"law", 1, 9, b_law_k41⟩
def fn_no : Fn := ⟨"", 0, 0, .nil⟩
def G : List Fn := [fn_is_whole, fn_divisor, fn_is_fraction, fn_fraction, fn_law_deck, fn_law_pick, fn_law_whole, fn_law_one, fn_no, fn_no, fn_law_sort, fn_law_same, fn_law_odd, fn_law_spoilt, fn_law_frac, fn_law_some_fraction, fn_law_is_fraction, fn_law_k01, fn_plus, fn_by, fn_over, fn_is_below, fn_sign_of, fn_whole_root, fn_square_root, fn_is_number, fn_plain, fn_number, fn_in_field, fn_field_of, fn_added, fn_times, fn_is_pair, fn_is_turn, fn_is_even, fn_is_arc, fn_even_turn, fn_is_joint, fn_is_arm, fn_law_plus, fn_law_plain, fn_law_turn, fn_law_arc, fn_law_small, fn_law_joint, fn_law_sorts, fn_law_arm, fn_law_is_joint, fn_law_is_arm, fn_law_k08, fn_root, fn_law_by, fn_law_root_of, fn_law_is_square, fn_law_number, fn_law_some_number, fn_law_some_under, fn_law_is_number, fn_law_k02, fn_minus, fn_contrary, fn_shared, fn_law_minus, fn_law_over, fn_law_split, fn_law_field_of, fn_law_due, fn_law_k03, fn_sign_of_two, fn_less, fn_law_k04, fn_law_between, fn_law_less, fn_law_k05, fn_less_by, fn_turned, fn_turned_back, fn_law_turned, fn_law_contrary, fn_law_rooted, fn_law_is_turn, fn_law_is_arc, fn_law_k06, fn_sign, fn_crossed, fn_is_ahead, fn_half, fn_in_arc, fn_law_sign, fn_law_cross, fn_law_half, fn_law_ahead, fn_law_in_arc, fn_law_near, fn_law_k07, fn_keeps, fn_numbers_in, fn_are_one_field, fn_is_standing, fn_law_even_standing, fn_law_keeps, fn_law_within, fn_law_is_standing, fn_law_some_standing, fn_law_k09, fn_even, fn_cross, fn_spun, fn_back, fn_is_between, fn_over_by, fn_within, fn_is_first, fn_lower, fn_smaller, fn_greater, fn_square, fn_ring, fn_turn_ends, fn_law_stations, fn_law_end, fn_law_even_end, fn_law_far, fn_law_ring_due, fn_law_k38, fn_mirrored_joint, fn_mirrored, fn_stretched, fn_law_mirrored, fn_law_stretched, fn_law_k41]
theorem g_is_whole : G[0]? = some fn_is_whole := rfl
theorem g_divisor : G[1]? = some fn_divisor := rfl
theorem g_is_fraction : G[2]? = some fn_is_fraction := rfl
theorem g_fraction : G[3]? = some fn_fraction := rfl
theorem g_law_deck : G[4]? = some fn_law_deck := rfl
theorem g_law_pick : G[5]? = some fn_law_pick := rfl
theorem g_law_whole : G[6]? = some fn_law_whole := rfl
theorem g_law_one : G[7]? = some fn_law_one := rfl
theorem g_law_sort : G[10]? = some fn_law_sort := rfl
theorem g_law_same : G[11]? = some fn_law_same := rfl
theorem g_law_odd : G[12]? = some fn_law_odd := rfl
theorem g_law_spoilt : G[13]? = some fn_law_spoilt := rfl
theorem g_law_frac : G[14]? = some fn_law_frac := rfl
theorem g_law_some_fraction : G[15]? = some fn_law_some_fraction := rfl
theorem g_law_is_fraction : G[16]? = some fn_law_is_fraction := rfl
theorem g_law_k01 : G[17]? = some fn_law_k01 := rfl
theorem g_plus : G[18]? = some fn_plus := rfl
theorem g_by : G[19]? = some fn_by := rfl
theorem g_over : G[20]? = some fn_over := rfl
theorem g_is_below : G[21]? = some fn_is_below := rfl
theorem g_sign_of : G[22]? = some fn_sign_of := rfl
theorem g_whole_root : G[23]? = some fn_whole_root := rfl
theorem g_square_root : G[24]? = some fn_square_root := rfl
theorem g_is_number : G[25]? = some fn_is_number := rfl
theorem g_plain : G[26]? = some fn_plain := rfl
theorem g_number : G[27]? = some fn_number := rfl
theorem g_in_field : G[28]? = some fn_in_field := rfl
theorem g_field_of : G[29]? = some fn_field_of := rfl
theorem g_added : G[30]? = some fn_added := rfl
theorem g_times : G[31]? = some fn_times := rfl
theorem g_is_pair : G[32]? = some fn_is_pair := rfl
theorem g_is_turn : G[33]? = some fn_is_turn := rfl
theorem g_is_even : G[34]? = some fn_is_even := rfl
theorem g_is_arc : G[35]? = some fn_is_arc := rfl
theorem g_even_turn : G[36]? = some fn_even_turn := rfl
theorem g_is_joint : G[37]? = some fn_is_joint := rfl
theorem g_is_arm : G[38]? = some fn_is_arm := rfl
theorem g_law_plus : G[39]? = some fn_law_plus := rfl
theorem g_law_plain : G[40]? = some fn_law_plain := rfl
theorem g_law_turn : G[41]? = some fn_law_turn := rfl
theorem g_law_arc : G[42]? = some fn_law_arc := rfl
theorem g_law_small : G[43]? = some fn_law_small := rfl
theorem g_law_joint : G[44]? = some fn_law_joint := rfl
theorem g_law_sorts : G[45]? = some fn_law_sorts := rfl
theorem g_law_arm : G[46]? = some fn_law_arm := rfl
theorem g_law_is_joint : G[47]? = some fn_law_is_joint := rfl
theorem g_law_is_arm : G[48]? = some fn_law_is_arm := rfl
theorem g_law_k08 : G[49]? = some fn_law_k08 := rfl
theorem g_root : G[50]? = some fn_root := rfl
theorem g_law_by : G[51]? = some fn_law_by := rfl
theorem g_law_root_of : G[52]? = some fn_law_root_of := rfl
theorem g_law_is_square : G[53]? = some fn_law_is_square := rfl
theorem g_law_number : G[54]? = some fn_law_number := rfl
theorem g_law_some_number : G[55]? = some fn_law_some_number := rfl
theorem g_law_some_under : G[56]? = some fn_law_some_under := rfl
theorem g_law_is_number : G[57]? = some fn_law_is_number := rfl
theorem g_law_k02 : G[58]? = some fn_law_k02 := rfl
theorem g_minus : G[59]? = some fn_minus := rfl
theorem g_contrary : G[60]? = some fn_contrary := rfl
theorem g_shared : G[61]? = some fn_shared := rfl
theorem g_law_minus : G[62]? = some fn_law_minus := rfl
theorem g_law_over : G[63]? = some fn_law_over := rfl
theorem g_law_split : G[64]? = some fn_law_split := rfl
theorem g_law_field_of : G[65]? = some fn_law_field_of := rfl
theorem g_law_due : G[66]? = some fn_law_due := rfl
theorem g_law_k03 : G[67]? = some fn_law_k03 := rfl
theorem g_sign_of_two : G[68]? = some fn_sign_of_two := rfl
theorem g_less : G[69]? = some fn_less := rfl
theorem g_law_k04 : G[70]? = some fn_law_k04 := rfl
theorem g_law_between : G[71]? = some fn_law_between := rfl
theorem g_law_less : G[72]? = some fn_law_less := rfl
theorem g_law_k05 : G[73]? = some fn_law_k05 := rfl
theorem g_less_by : G[74]? = some fn_less_by := rfl
theorem g_turned : G[75]? = some fn_turned := rfl
theorem g_turned_back : G[76]? = some fn_turned_back := rfl
theorem g_law_turned : G[77]? = some fn_law_turned := rfl
theorem g_law_contrary : G[78]? = some fn_law_contrary := rfl
theorem g_law_rooted : G[79]? = some fn_law_rooted := rfl
theorem g_law_is_turn : G[80]? = some fn_law_is_turn := rfl
theorem g_law_is_arc : G[81]? = some fn_law_is_arc := rfl
theorem g_law_k06 : G[82]? = some fn_law_k06 := rfl
theorem g_sign : G[83]? = some fn_sign := rfl
theorem g_crossed : G[84]? = some fn_crossed := rfl
theorem g_is_ahead : G[85]? = some fn_is_ahead := rfl
theorem g_half : G[86]? = some fn_half := rfl
theorem g_in_arc : G[87]? = some fn_in_arc := rfl
theorem g_law_sign : G[88]? = some fn_law_sign := rfl
theorem g_law_cross : G[89]? = some fn_law_cross := rfl
theorem g_law_half : G[90]? = some fn_law_half := rfl
theorem g_law_ahead : G[91]? = some fn_law_ahead := rfl
theorem g_law_in_arc : G[92]? = some fn_law_in_arc := rfl
theorem g_law_near : G[93]? = some fn_law_near := rfl
theorem g_law_k07 : G[94]? = some fn_law_k07 := rfl
theorem g_keeps : G[95]? = some fn_keeps := rfl
theorem g_numbers_in : G[96]? = some fn_numbers_in := rfl
theorem g_are_one_field : G[97]? = some fn_are_one_field := rfl
theorem g_is_standing : G[98]? = some fn_is_standing := rfl
theorem g_law_even_standing : G[99]? = some fn_law_even_standing := rfl
theorem g_law_keeps : G[100]? = some fn_law_keeps := rfl
theorem g_law_within : G[101]? = some fn_law_within := rfl
theorem g_law_is_standing : G[102]? = some fn_law_is_standing := rfl
theorem g_law_some_standing : G[103]? = some fn_law_some_standing := rfl
theorem g_law_k09 : G[104]? = some fn_law_k09 := rfl
theorem g_even : G[105]? = some fn_even := rfl
theorem g_cross : G[106]? = some fn_cross := rfl
theorem g_spun : G[107]? = some fn_spun := rfl
theorem g_back : G[108]? = some fn_back := rfl
theorem g_is_between : G[109]? = some fn_is_between := rfl
theorem g_over_by : G[110]? = some fn_over_by := rfl
theorem g_within : G[111]? = some fn_within := rfl
theorem g_is_first : G[112]? = some fn_is_first := rfl
theorem g_lower : G[113]? = some fn_lower := rfl
theorem g_smaller : G[114]? = some fn_smaller := rfl
theorem g_greater : G[115]? = some fn_greater := rfl
theorem g_square : G[116]? = some fn_square := rfl
theorem g_ring : G[117]? = some fn_ring := rfl
theorem g_turn_ends : G[118]? = some fn_turn_ends := rfl
theorem g_law_stations : G[119]? = some fn_law_stations := rfl
theorem g_law_end : G[120]? = some fn_law_end := rfl
theorem g_law_even_end : G[121]? = some fn_law_even_end := rfl
theorem g_law_far : G[122]? = some fn_law_far := rfl
theorem g_law_ring_due : G[123]? = some fn_law_ring_due := rfl
theorem g_law_k38 : G[124]? = some fn_law_k38 := rfl
theorem g_mirrored_joint : G[125]? = some fn_mirrored_joint := rfl
theorem g_mirrored : G[126]? = some fn_mirrored := rfl
theorem g_stretched : G[127]? = some fn_stretched := rfl
theorem g_law_mirrored : G[128]? = some fn_law_mirrored := rfl
theorem g_law_stretched : G[129]? = some fn_law_stretched := rfl
theorem g_law_k41 : G[130]? = some fn_law_k41 := rfl
end Dn

end
section
set_option Elab.async false
set_option maxRecDepth 100000
set_option maxHeartbeats 4000000
set_option linter.unusedVariables false
/-! Pu0: what is enough for an answer, read off the meaning. Plain Lean. -/
namespace Dn
open PySem
/-- it ends well with Q, or refuses with X -/
def okX {α : Type} (r : Res α) (Q : α → Sto → Prop) (X : Nat → Sto → Prop) : Prop := match r with
  | .ok a s => Q a s
  | .exc c fs s => fs = [] ∧ X c s
  | .bad => False
structure Pt where
  nx : Env → Sto → Prop
  rt : D → Sto → Prop
  bk : Env → Sto → Prop
  ct : Env → Sto → Prop
  ex : Nat → Env → Sto → Prop
def okS (r : SR) (K : Pt) : Prop := match r with
  | .nx e s => K.nx e s
  | .rt d s => K.rt d s
  | .bk e s => K.bk e s
  | .ct e s => K.ct e s
  | .exc c fs e s => fs = [] ∧ K.ex c e s
  | .bad => False
def isB (x : D) (P : Bool → Prop) : Prop := ∃ t, x = .bl t ∧ P t
def br (t : Bool) (A B : Prop) : Prop := (t = true → A) ∧ (t = false → B)
def NoE : Nat → Sto → Prop := fun _ _ => False
section
variable {α β : Type} {F n : Nat} {cf : Cf} {env : Env} {s : Sto} {Q : D → Sto → Prop} {X : Nat → Sto → Prop} {K : Pt}
theorem okX_mono {r : Res α} {Q Q' : α → Sto → Prop} {X X' : Nat → Sto → Prop} (h : okX r Q X) (hq : ∀ a s, Q a s → Q' a s) (hx : ∀ c s, X c s → X' c s) : okX r Q' X' := by
  cases r with
  | ok a s => exact hq a s h
  | exc c fs s => exact ⟨h.1, hx c s h.2⟩
  | bad => exact h
theorem okX_ok {a : α} {Q : α → Sto → Prop} : okX (.ok a s) Q X = Q a s := rfl
theorem okX_bad {Q : α → Sto → Prop} : okX .bad Q X = False := rfl
theorem okX_bind {r : Res α} {f : α → Sto → Res β} {Q : β → Sto → Prop} : okX (r.bind f) Q X = okX r (fun a s1 => okX (f a s1) Q X) X := by cases r <;> rfl
theorem isB_bl {b : Bool} {P : Bool → Prop} : isB (.bl b) P = P b := by
  apply propext
  exact ⟨fun ⟨t, e, h⟩ => by cases e; exact h, fun h => ⟨b, rfl, h⟩⟩
theorem br_true {A B : Prop} : br true A B = A := propext ⟨fun h => h.1 rfl, fun h => ⟨fun _ => h, fun z => nomatch z⟩⟩
theorem br_false {A B : Prop} : br false A B = B := propext ⟨fun h => h.2 rfl, fun h => ⟨fun z => (nomatch z), fun _ => h⟩⟩
theorem ok_guard {b : Bool} {d : D} : okX (guardD b d s) Q X = (b = true ∧ Q d s) := by
  cases b <;> apply propext
  · exact ⟨fun h => h.elim, fun h => nomatch h.1⟩
  · exact ⟨fun h => ⟨rfl, h⟩, fun h => h.2⟩
theorem ok_ofB {o : Option Bool} : okX (ofB o s) Q X = ∃ b, o = some b ∧ Q (.bl b) s := by
  cases o <;> apply propext
  · exact ⟨fun h => h.elim, fun ⟨_, h, _⟩ => nomatch h⟩
  · exact ⟨fun h => ⟨_, rfl, h⟩, fun ⟨_, e, h⟩ => by cases e; exact h⟩
/-! ### expressions -/
theorem w_var {i : Nat} : okX (denE F cf n (.var i) env s) Q X = ∃ d, env[i]? = some (some d) ∧ Q d s := by
  apply propext
  simp only [denE]
  cases env[i]? with
  | none => exact ⟨fun h => h.elim, fun ⟨_, h, _⟩ => nomatch h⟩
  | some o => cases o with
    | none => exact ⟨fun h => h.elim, fun ⟨_, h, _⟩ => nomatch h⟩
    | some d => exact ⟨fun h => ⟨d, rfl, h⟩, fun ⟨_, e, h⟩ => by cases e; exact h⟩
theorem w_cst {d : D} : okX (denE F cf n (.cst d) env s) Q X = Q d s := by simp only [denE]; rfl
theorem w_top {x : Str} {d : D} : okX (denE F cf n (.top x d) env s) Q X = Q d s := by simp only [denE]; rfl
theorem w_bin {o : Bo} {a b : E} : okX (denE F cf n (.bin o a b) env s) Q X = okX (denE F cf n a env s) (fun x s1 => okX (denE F cf n b env s1) (fun y s2 => okX (binD o x y s2) Q X) X) X := by simp only [denE, okX_bind]
theorem w_neg {a : E} : okX (denE F cf n (.neg a) env s) Q X = okX (denE F cf n a env s) (fun x s1 => okX (negD x s1) Q X) X := by simp only [denE, okX_bind]
theorem w_cmp {o : Co} {a b : E} : okX (denE F cf n (.cmp o a b) env s) Q X = okX (denE F cf n a env s) (fun x s1 => okX (denE F cf n b env s1) (fun y s2 => okX (cmpD o x y s2) Q X) X) X := by simp only [denE, okX_bind]
theorem okX_congr {r : Res α} {Q Q' : α → Sto → Prop} {X : Nat → Sto → Prop} (h : ∀ a s, Q a s = Q' a s) : okX r Q X = okX r Q' X := by
  have e : Q = Q' := funext fun a => funext fun s => h a s
  rw [e]
theorem w_nt {a : E} : okX (denE F cf n (.nt a) env s) Q X = okX (denE F cf n a env s) (fun x s1 => isB x fun t => Q (.bl (!t)) s1) X := by
  simp only [denE, okX_bind]
  refine okX_congr fun x s1 => ?_
  cases x with
  | bl b => rw [isB_bl]; rfl
  | _ => exact propext ⟨fun h => h.elim, fun ⟨_, e, _⟩ => nomatch e⟩
theorem brE {x : D} {f : Bool → Res D} {r : Res D} (ht : x = .bl true → r = f true) (hf : x = .bl false → r = f false) (hb : (∀ b, x ≠ .bl b) → r = .bad) : okX r Q X = isB x fun t => br t (okX (f true) Q X) (okX (f false) Q X) := by
  apply propext
  cases x with
  | bl b =>
    rw [isB_bl]
    cases b
    · rw [hf rfl, br_false]
    · rw [ht rfl, br_true]
  | _ =>
    rw [hb fun b z => nomatch z]
    exact ⟨fun h => h.elim, fun ⟨_, e, _⟩ => nomatch e⟩
theorem w_and {a b : E} : okX (denE F cf n (.and a b) env s) Q X = okX (denE F cf n a env s) (fun x s1 => isB x fun t => br t (okX (denE F cf n b env s1) Q X) (Q (.bl false) s1)) X := by
  simp only [denE, okX_bind]
  refine okX_congr fun x s1 => ?_
  exact brE (f := fun t => if t then denE F cf n b env s1 else .ok (.bl false) s1) (fun e => by rw [e]; rfl) (fun e => by rw [e]; rfl) fun h => by cases x <;> first | rfl | exact absurd rfl (h _)
theorem w_or {a b : E} : okX (denE F cf n (.or a b) env s) Q X = okX (denE F cf n a env s) (fun x s1 => isB x fun t => br t (Q (.bl true) s1) (okX (denE F cf n b env s1) Q X)) X := by
  simp only [denE, okX_bind]
  refine okX_congr fun x s1 => ?_
  exact brE (f := fun t => if t then .ok (.bl true) s1 else denE F cf n b env s1) (fun e => by rw [e]; rfl) (fun e => by rw [e]; rfl) fun h => by cases x <;> first | rfl | exact absurd rfl (h _)
theorem w_ife {t a b : E} : okX (denE F cf n (.ife t a b) env s) Q X = okX (denE F cf n t env s) (fun x s1 => isB x fun t => br t (okX (denE F cf n a env s1) Q X) (okX (denE F cf n b env s1) Q X)) X := by
  simp only [denE, okX_bind]
  refine okX_congr fun x s1 => ?_
  exact brE (f := fun t => if t then denE F cf n a env s1 else denE F cf n b env s1) (fun e => by rw [e]; rfl) (fun e => by rw [e]; rfl) fun h => by cases x <;> first | rfl | exact absurd rfl (h _)
theorem w_cmp2 {o1 o2 : Co} {a b c : E} : okX (denE F cf n (.cmp2 o1 o2 a b c) env s) Q X = okX (denE F cf n a env s) (fun x s1 => okX (denE F cf n b env s1) (fun y s2 => okX (cmpD o1 x y s2) (fun r s3 => isB r fun t => br t (okX (denE F cf n c env s3) (fun z s4 => okX (cmpD o2 y z s4) Q X) X) (Q (.bl false) s3)) X) X) X := by
  simp only [denE, okX_bind]
  refine okX_congr fun x s1 => okX_congr fun y s2 => okX_congr fun r s3 => ?_
  refine (brE (x := r) (f := fun t => if t then (denE F cf n c env s3).bind fun z s4 => cmpD o2 y z s4 else .ok (.bl false) s3) (fun e => by rw [e]; rfl) (fun e => by rw [e]; rfl) fun h => by cases r <;> first | rfl | exact absurd rfl (h _)).trans ?_
  rw [show (if true = true then (denE F cf n c env s3).bind fun z s4 => cmpD o2 y z s4 else .ok (.bl false) s3) = (denE F cf n c env s3).bind fun z s4 => cmpD o2 y z s4 from rfl, okX_bind]
  rfl
theorem w_tup {es : Es} : okX (denE F cf n (.tup es) env s) Q X = okX (denEs F cf n es env s) (fun xs s1 => lineOk xs.length = true ∧ Q (.tup xs) s1) X := by
  simp only [denE, okX_bind]
  exact okX_congr fun x s1 => ok_guard
theorem w_rol {es : Es} : okX (denE F cf n (.lst false es) env s) Q X = okX (denEs F cf n es env s) (fun xs s1 => lineOk xs.length = true ∧ Q (.rol xs) s1) X := by
  simp only [denE, okX_bind]
  refine okX_congr fun xs s1 => ?_
  cases h : lineOk xs.length
  · exact propext ⟨fun h => h.elim, fun h => nomatch h.1⟩
  · exact propext ⟨fun h => ⟨rfl, h⟩, fun h => h.2⟩
theorem w_lst {es : Es} : okX (denE F cf n (.lst true es) env s) Q X = okX (denEs F cf n es env s) (fun xs s1 => lineOk xs.length = true ∧ Q (.lst s1.length) (s1 ++ [.lst xs])) X := by
  simp only [denE, okX_bind]
  refine okX_congr fun xs s1 => ?_
  cases h : lineOk xs.length
  · exact propext ⟨fun h => h.elim, fun h => nomatch h.1⟩
  · exact propext ⟨fun h => ⟨rfl, h⟩, fun h => h.2⟩
theorem w_ix {a i : E} : okX (denE F cf n (.ix a i) env s) Q X = okX (denE F cf n a env s) (fun x s1 => okX (denE F cf n i env s1) (fun y s2 => okX (ixD s2 x y) Q X) X) X := by simp only [denE, okX_bind]
theorem w_rev {a k : E} : okX (denE F cf n (.rev a k) env s) Q X = okX (denE F cf n a env s) (fun x s1 => okX (denE F cf n k env s1) (fun y s2 => okX (revD x y s2) Q X) X) X := by simp only [denE, okX_bind]
theorem w_sl {a : E} {lo hi : Oe} : okX (denE F cf n (.sl a lo hi) env s) Q X = okX (denE F cf n a env s) (fun x s1 => okX (denO F cf n lo env s1) (fun l s2 => okX (denO F cf n hi env s2) (fun u s3 => okX (slD s3 x l u) Q X) X) X) X := by simp only [denE, okX_bind]
theorem w_call {f : Nat} {es : Es} : okX (denE F cf n (.call f es) env s) Q X = okX (denEs F cf n es env s) (fun xs s1 => okX (cf n f xs s1) Q X) X := by simp only [denE, okX_bind]
theorem w_prim {p : Pr} {es : Es} : okX (denE F cf n (.prim p es) env s) Q X = okX (denEs F cf n es env s) (fun xs s1 => okX (primD p xs s1) Q X) X := by simp only [denE, okX_bind]
theorem okX_if {b : Bool} {r : Res α} {Q : α → Sto → Prop} : okX (if b = true then r else .bad) Q X = (b = true ∧ okX r Q X) := by
  cases b <;> apply propext
  · exact ⟨fun h => h.elim, fun h => nomatch h.1⟩
  · exact ⟨fun h => ⟨rfl, h⟩, fun h => h.2⟩
theorem w_app {a b : E} : okX (denE F cf n (.app a b) env s) Q X = okX (denE F cf n a env s) (fun x s1 => (listOf s1 x).isSome = true ∧ okX (denE F cf n b env s1) (fun y s2 => okX (appD x y s2) Q X) X) X := by
  simp only [denE, okX_bind]
  refine okX_congr fun x s1 => ?_
  rw [okX_if, okX_bind]
theorem w_ins {a i b : E} : okX (denE F cf n (.ins a i b) env s) Q X = okX (denE F cf n a env s) (fun x s1 => (listOf s1 x).isSome = true ∧ okX (denE F cf n i env s1) (fun k s2 => okX (denE F cf n b env s2) (fun y s3 => okX (insD x k y s3) Q X) X) X) X := by
  simp only [denE, okX_bind]
  refine okX_congr fun x s1 => ?_
  rw [okX_if, okX_bind]
  refine congrArg _ (okX_congr fun k s2 => ?_)
  rw [okX_bind]
theorem w_bits {a : E} : okX (denE F cf n (.bits a) env s) Q X = okX (denE F cf n a env s) (fun x s1 => okX (bitsD x s1) Q X) X := by simp only [denE, okX_bind]
theorem w_join {a b : E} : okX (denE F cf n (.join a b) env s) Q X = okX (denE F cf n a env s) (fun x s1 => isStrD x = true ∧ okX (denE F cf n b env s1) (fun y s2 => okX (joinD x y s2) Q X) X) X := by
  simp only [denE, okX_bind]
  refine okX_congr fun x s1 => ?_
  rw [okX_if, okX_bind]
theorem w_frz {a : E} : okX (denE F cf n (.frz a) env s) Q X = okX (denE F cf n a env s) (fun x s1 => okX (frzD x s1) Q X) X := by simp only [denE, okX_bind]
theorem w_nil {Q : List D → Sto → Prop} : okX (denEs F cf n .nil env s) Q X = Q [] s := by simp only [denEs]; rfl
theorem w_cons {e : E} {es : Es} {Q : List D → Sto → Prop} : okX (denEs F cf n (.cons e es) env s) Q X = okX (denE F cf n e env s) (fun x s1 => okX (denEs F cf n es env s1) (fun xs s2 => Q (x :: xs) s2) X) X := by
  simp only [denEs, okX_bind]; rfl
theorem w_no {Q : Option Int → Sto → Prop} : okX (denO F cf n .no env s) Q X = Q none s := by simp only [denO]; rfl
theorem w_so {e : E} {Q : Option Int → Sto → Prop} : okX (denO F cf n (.so e) env s) Q X = okX (denE F cf n e env s) (fun x s1 => ∃ i, x = .int i ∧ Q (some i) s1) X := by
  simp only [denO]
  cases denE F cf n e env s with
  | ok d s1 =>
    cases d with
    | int i => exact propext ⟨fun h => ⟨i, rfl, h⟩, fun ⟨_, e, h⟩ => by cases e; exact h⟩
    | _ => exact propext ⟨fun h => h.elim, fun ⟨_, e, _⟩ => nomatch e⟩
  | exc c fs s1 => rfl
  | bad => rfl
/-! ### statements -/
theorem okS_toS {r : Res D} {f : D → Sto → SR} : okS (r.toS env f) K = okX r (fun d s1 => okS (f d s1) K) (fun c s1 => K.ex c env s1) := by cases r <;> rfl
theorem okS_then {r : SR} {f : Env → Sto → SR} : okS (r.andThen f) K = okS r { K with nx := fun e s1 => okS (f e s1) K } := by cases r <;> rfl
theorem s_set {t : Tg} {e : E} : okS (denS F cf n (.set t e) env s) K = okX (denE F cf n e env s) (fun d s1 => okS (setTg F cf n t d env s1) K) (fun c s1 => K.ex c env s1) := by simp only [denS, okS_toS]
theorem okS_if {c : Prop} [Decidable c] {e : Env} : okS (if c then .nx e s else .bad) K = (c ∧ K.nx e s) := by
  by_cases h : c
  · rw [if_pos h]; exact propext ⟨fun z => ⟨h, z⟩, fun z => z.2⟩
  · rw [if_neg h]; exact propext ⟨fun z => z.elim, fun z => (h z.1).elim⟩
theorem s_par {i j : Nat} {a b : E} : okS (denS F cf n (.par i j a b) env s) K = okX (denE F cf n a env s) (fun x s1 => okX (denE F cf n b env s1) (fun y s2 => (i < env.length ∧ j < env.length) ∧ K.nx ((env.set i (some x)).set j (some y)) s2) (fun c s1 => K.ex c env s1)) (fun c s1 => K.ex c env s1) := by
  simp only [denS, okS_toS, okS_if]
theorem s_par3 {i j k : Nat} {a b c : E} : okS (denS F cf n (.par3 i j k a b c) env s) K = okX (denE F cf n a env s) (fun x s1 => okX (denE F cf n b env s1) (fun y s2 => okX (denE F cf n c env s2) (fun z s3 => (i < env.length ∧ j < env.length ∧ k < env.length) ∧ K.nx (((env.set i (some x)).set j (some y)).set k (some z)) s3) (fun c s1 => K.ex c env s1)) (fun c s1 => K.ex c env s1)) (fun c s1 => K.ex c env s1) := by
  simp only [denS, okS_toS, okS_if]
theorem s_ex {e : E} : okS (denS F cf n (.ex e) env s) K = okX (denE F cf n e env s) (fun _ s1 => K.nx env s1) (fun c s1 => K.ex c env s1) := by simp only [denS, okS_toS]; rfl
theorem s_ret {e : E} : okS (denS F cf n (.ret e) env s) K = okX (denE F cf n e env s) (fun d s1 => K.rt d s1) (fun c s1 => K.ex c env s1) := by simp only [denS, okS_toS]; rfl
theorem s_retn : okS (denS F cf n .retn env s) K = K.rt .non s := by simp only [denS]; rfl
theorem s_ite {c : E} {a b : Ss} : okS (denS F cf n (.ite c a b) env s) K = okX (denE F cf n c env s) (fun x s1 => isB x fun t => br t (okS (denSs F cf n a env s1) K) (okS (denSs F cf n b env s1) K)) (fun c s1 => K.ex c env s1) := by
  simp only [denS, okS_toS]
  refine okX_congr fun x s1 => ?_
  cases x with
  | bl t =>
    rw [isB_bl]
    cases t
    · rw [br_false]
    · rw [br_true]
  | _ => exact propext ⟨fun h => h.elim, fun ⟨_, e, _⟩ => nomatch e⟩
theorem s_rai {c : Nat} : okS (denS F cf n (.rai c) env s) K = K.ex c env s := by
  simp only [denS]
  exact propext ⟨fun h => h.2, fun h => ⟨rfl, h⟩⟩
theorem s_tryo {b : Ss} {cs : List Nat} {k : Nat} {d : D} : okS (denS F cf n (.tryo b cs k d) env s) K = okS (denSs F cf n b env s) { K with ex := fun c e s1 => c ∈ cs ∧ br (takesC k c) (K.rt d s1) (K.ex c e s1) } := by
  simp only [denS]
  cases denSs F cf n b env s with
  | exc c fs e s1 =>
    cases fs with
    | cons f r => exact propext ⟨fun h => h.elim, fun h => nomatch h.1⟩
    | nil =>
      show okS (if c ∈ cs then (if takesC k c then .rt d s1 else .exc c [] e s1) else .bad) K = _
      apply propext
      by_cases hc : c ∈ cs
      · rw [if_pos hc]
        cases ht : takesC k c
        · rw [if_neg Bool.false_ne_true]
          exact ⟨fun h => ⟨rfl, hc, by rw [ht, br_false]; exact h.2⟩, fun h => ⟨rfl, by have := h.2.2; rw [ht, br_false] at this; exact this⟩⟩
        · rw [if_pos rfl]
          exact ⟨fun h => ⟨rfl, hc, by rw [ht, br_true]; exact h⟩, fun h => by have := h.2.2; rw [ht, br_true] at this; exact this⟩
      · rw [if_neg hc]
        exact ⟨fun h => h.elim, fun h => (hc h.2.1).elim⟩
  | _ => rfl
theorem s_pas : okS (denS F cf n .pas env s) K = K.nx env s := by simp only [denS]; rfl
theorem s_brk : okS (denS F cf n .brk env s) K = K.bk env s := by simp only [denS]; rfl
theorem s_cnt : okS (denS F cf n .cnt env s) K = K.ct env s := by simp only [denS]; rfl
theorem s_aug {i : Nat} {o : Bo} {e : E} : okS (denS F cf n (.aug i o e) env s) K = ∃ x, env[i]? = some (some x) ∧ okX (denE F cf n e env s) (fun y s1 => okS (augS i o x y env s1) K) (fun c s1 => K.ex c env s1) := by
  simp only [denS]
  cases env[i]? with
  | none => exact propext ⟨fun h => h.elim, fun ⟨_, h, _⟩ => nomatch h⟩
  | some q => cases q with
    | none => exact propext ⟨fun h => h.elim, fun ⟨_, h, _⟩ => nomatch h⟩
    | some d =>
      dsimp only
      rw [okS_toS]
      exact propext ⟨fun h => ⟨d, rfl, h⟩, fun ⟨_, e, h⟩ => by cases e; exact h⟩
theorem s_nil : okS (denSs F cf n .nil env s) K = K.nx env s := by simp only [denSs]; rfl
theorem s_cons {st : S} {ss : Ss} : okS (denSs F cf n (.cons st ss) env s) K = okS (denS F cf n st env s) { K with nx := fun e s1 => okS (denSs F cf n ss e s1) K } := by simp only [denSs, okS_then]
theorem t_nm {i : Nat} {d : D} : okS (setTg F cf n (.nm i) d env s) K = (i < env.length ∧ K.nx (env.set i (some d)) s) := by simp only [setTg, okS_if]
theorem t_tup {ts : Tgs} {xs : List D} : okS (setTg F cf n (.tup ts) (.tup xs) env s) K = (xs.length = ts.len ∧ okS (setTgs F cf n ts xs env s) K) := by
  simp only [setTg]
  by_cases h : xs.length = ts.len
  · rw [if_pos h]; exact propext ⟨fun z => ⟨h, z⟩, fun z => z.2⟩
  · rw [if_neg h]; exact propext ⟨fun z => z.elim, fun z => (h z.1).elim⟩
theorem t_sub {a i : E} {d : D} : okS (setTg F cf n (.sub a i) d env s) K = okX (denE F cf n a env s) (fun x s1 => okX (denE F cf n i env s1) (fun y s2 => ∃ s3, setIx x y d s2 = some s3 ∧ K.nx env s3) (fun c s1 => K.ex c env s1)) (fun c s1 => K.ex c env s1) := by
  simp only [setTg, okS_toS]
  refine okX_congr fun x s1 => okX_congr fun y s2 => ?_
  cases setIx x y d s2 with
  | none => exact propext ⟨fun h => h.elim, fun ⟨_, h, _⟩ => nomatch h⟩
  | some s3 => exact propext ⟨fun h => ⟨_, rfl, h⟩, fun ⟨_, e, h⟩ => by cases e; exact h⟩
theorem t_nil : okS (setTgs F cf n .nil [] env s) K = K.nx env s := by simp only [setTgs]; rfl
theorem t_cons {t : Tg} {ts : Tgs} {d : D} {r : List D} : okS (setTgs F cf n (.cons t ts) (d :: r) env s) K = okS (setTg F cf n t d env s) { K with nx := fun e s1 => okS (setTgs F cf n ts r e s1) K } := by simp only [setTgs, okS_then]
end
/-! ### calls -/
theorem callD_run {F : Nat} {G : List Fn} {n i : Nat} {fn : Fn} {args : List D} {s : Sto} {Q : D → Sto → Prop} {X : Nat → Sto → Prop} (g : G[i]? = some fn) (hl : args.length = fn.np)
    (h : okS (denSs F (callT F G n) n fn.body (startE fn args) s) ⟨fun _ s1 => Q .non s1, Q, fun _ _ => False, fun _ _ => False, fun c _ s1 => X c s1⟩) : okX (callD F G (n + 1) i args s) Q X := by
  rw [callD_succ, g]
  show okX (runFn F (callT F G n) n fn args s) Q X
  unfold runFn
  rw [if_pos hl]
  revert h
  cases denSs F (callT F G n) n fn.body (startE fn args) s with
  | nx e s1 => exact fun h => h
  | rt d s1 => exact fun h => h
  | exc c fs e s1 => exact fun h => h
  | bk e s1 => exact fun h => h.elim
  | ct e s1 => exact fun h => h.elim
  | bad => exact fun h => h
theorem cf_self {F : Nat} {G : List Fn} {n : Nat} : callT F G n n = callD F G n := rfl
/-! ### loops -/
theorem s_whl {F n : Nat} {cf : Cf} {c : E} {b : Ss} {env : Env} {s : Sto} {K : Pt} (I : Nat → Env → Sto → Prop) {m : Nat} (hF : m < F) (h0 : I m env s)
    (step : ∀ m env s, I m env s → okX (denE F cf n c env s) (fun x s1 => isB x fun t => br t (okS (denSs F cf n b env s1) ⟨fun e s2 => ∃ m', m' < m ∧ I m' e s2, K.rt, K.nx, fun e s2 => ∃ m', m' < m ∧ I m' e s2, K.ex⟩) (K.nx env s1)) (fun c s1 => K.ex c env s1)) :
    okS (denS F cf n (.whl c b) env s) K := by
  simp only [denS]
  have go : ∀ f m env s, m < f → I m env s → okS (whileW (fun e s1 => denE F cf n c e s1) (fun e s1 => denSs F cf n b e s1) f env s) K := by
    intro f
    induction f with
    | zero => exact fun m env s h => absurd h (Nat.not_lt_zero m)
    | succ f ih =>
      intro m env s hm hI
      have q := step m env s hI
      simp only [whileW]
      revert q
      cases denE F cf n c env s with
      | ok d s1 =>
        intro q
        obtain ⟨t, rfl, q⟩ := (q : isB d _)
        cases t with
        | false => rw [br_false] at q; exact q
        | true =>
          rw [br_true] at q
          show okS (match denSs F cf n b env s1 with
            | .nx e' s'' => whileW (fun e s1 => denE F cf n c e s1) (fun e s1 => denSs F cf n b e s1) f e' s''
            | .ct e' s'' => whileW (fun e s1 => denE F cf n c e s1) (fun e s1 => denSs F cf n b e s1) f e' s''
            | .bk e' s'' => .nx e' s''
            | r => r) K
          revert q
          cases denSs F cf n b env s1 with
          | nx e s2 => exact fun ⟨m', h1, h2⟩ => ih m' e s2 (by omega) h2
          | ct e s2 => exact fun ⟨m', h1, h2⟩ => ih m' e s2 (by omega) h2
          | bk e s2 => exact fun q => q
          | rt d s2 => exact fun q => q
          | exc c fs e s2 => exact fun q => q
          | bad => exact fun q => q
      | exc c fs s1 => exact fun q => q
      | bad => exact fun q => q
  exact go F m env s hF h0
/-- a loop over things that stand -/
theorem s_for {F n : Nat} {cf : Cf} {t : Tg} {it : It} {b : Ss} {env : Env} {s : Sto} {K : Pt} (I : Nat → Env → Sto → Prop)
    (h : okX (denIt F cf n it env s) (fun w s1 => ∃ xs, w = .items xs ∧ xs.length < F ∧ I 0 env s1 ∧ (∀ i d e s2, xs[i]? = some d → I i e s2 → okS (setTg F cf n t d e s2) ⟨fun e1 s3 => okS (denSs F cf n b e1 s3) ⟨I (i + 1), K.rt, K.nx, I (i + 1), K.ex⟩, K.rt, K.nx, I (i + 1), K.ex⟩) ∧
      ∀ e s2, I xs.length e s2 → K.nx e s2) (fun c s1 => K.ex c env s1)) : okS (denS F cf n (.forr t it b) env s) K := by
  simp only [denS]
  revert h
  cases denIt F cf n it env s with
  | exc c fs s1 => exact fun h => h
  | bad => exact fun h => h
  | ok w s1 =>
    rintro ⟨xs, rfl, hF, h0, step, fin⟩
    have go : ∀ f i e s2, i ≤ xs.length → xs.length - i < f → I i e s2 → okS (loopW (fun d e s2 => (setTg F cf n t d e s2).andThen fun e1 s3 => denSs F cf n b e1 s3) (.items xs) f i e s2) K := by
      intro f
      induction f with
      | zero => exact fun i e s2 _ h => absurd h (Nat.not_lt_zero _)
      | succ f ih =>
        intro i e s2 hi hm hI
        simp only [loopW, wkAt]
        cases e1 : xs[i]? with
        | none =>
          have : xs.length ≤ i := List.getElem?_eq_none_iff.mp e1
          have : i = xs.length := by omega
          subst this
          exact fin e s2 hI
        | some d =>
          have hl : i < xs.length := (List.getElem?_eq_some_iff.mp e1).1
          have q := step i d e s2 e1 hI
          dsimp only
          have q2 : okS ((setTg F cf n t d e s2).andThen fun e1 s3 => denSs F cf n b e1 s3) ⟨I (i + 1), K.rt, K.nx, I (i + 1), K.ex⟩ := by rw [okS_then]; exact q
          revert q2
          cases ((setTg F cf n t d e s2).andThen fun e1 s3 => denSs F cf n b e1 s3) with
          | nx e s2 => exact fun h2 => ih (i + 1) e s2 (by omega) (by omega) h2
          | ct e s2 => exact fun h2 => ih (i + 1) e s2 (by omega) (by omega) h2
          | bk e s2 => exact fun q => q
          | rt d s2 => exact fun q => q
          | exc c fs e s2 => exact fun q => q
          | bad => exact fun q => q
    exact go F 0 env s1 (Nat.zero_le _) hF h0
end Dn

end
section
set_option Elab.async false
set_option maxRecDepth 100000
set_option maxHeartbeats 4000000
set_option linter.unusedVariables false
/-! Pu1: operations on data, walks, comprehensions. -/
namespace Dn
open PySem
section
variable {α : Type} {F n : Nat} {cf : Cf} {env : Env} {s : Sto} {Q : D → Sto → Prop} {X : Nat → Sto → Prop} {K : Pt} {i j : Int} {xs ys : List D} {x y : D}
theorem o_add : okX (binD .add (.int i) (.int j) s) Q X = Q (.int (i + j)) s := rfl
theorem o_sub : okX (binD .sub (.int i) (.int j) s) Q X = Q (.int (i - j)) s := rfl
theorem o_mul : okX (binD .mul (.int i) (.int j) s) Q X = (mulOk i j = true ∧ Q (.int (i * j)) s) := ok_guard
theorem o_fdiv : okX (binD .fdiv (.int i) (.int j) s) Q X = (fdivOk i j = true ∧ Q (.int (i.fdiv j)) s) := ok_guard
theorem o_mod : okX (binD .mod (.int i) (.int j) s) Q X = (j ≠ 0 ∧ Q (.int (i.fmod j)) s) := (ok_guard).trans (by rw [decide_eq_true_eq])
theorem o_pow : okX (binD .pow (.int i) (.int j) s) Q X = (powOk i j = true ∧ Q (.int (i ^ j.toNat)) s) := ok_guard
theorem o_shl : okX (binD .shl (.int i) (.int j) s) Q X = (powOk i j = true ∧ Q (.int (i * 2 ^ j.toNat)) s) := ok_guard
theorem o_cat : okX (binD .add (.tup xs) (.tup ys) s) Q X = (lineOk (xs.length + ys.length) = true ∧ Q (.tup (xs ++ ys)) s) := ok_guard
theorem o_strs {a b : Str} : okX (binD .add (.str a) (.str b) s) Q X = (lineOk (a.length + b.length) = true ∧ Q (.str (a ++ b)) s) := ok_guard
theorem o_rols : okX (binD .add (.rol xs) (.rol ys) s) Q X = (lineOk (xs.length + ys.length) = true ∧ Q (.rol (xs ++ ys)) s) := ok_guard
theorem o_neg : okX (negD (.int i) s) Q X = Q (.int (-i)) s := rfl
theorem o_lt : okX (cmpD .lt (.int i) (.int j) s) Q X = Q (.bl (decide (i < j))) s := rfl
theorem o_le : okX (cmpD .le (.int i) (.int j) s) Q X = Q (.bl (decide (i ≤ j))) s := rfl
theorem o_gt : okX (cmpD .gt (.int i) (.int j) s) Q X = Q (.bl (decide (j < i))) s := rfl
theorem o_ge : okX (cmpD .ge (.int i) (.int j) s) Q X = Q (.bl (decide (j ≤ i))) s := rfl
theorem o_is : okX (cmpD .is x .non s) Q X = Q (.bl (isNon x)) s := rfl
theorem o_isn : okX (cmpD .isn x .non s) Q X = Q (.bl (!isNon x)) s := rfl
theorem o_eq : okX (cmpD .eq x y s) Q X = ∃ b, eqD x y = some b ∧ Q (.bl b) s := ok_ofB
theorem o_ne : okX (cmpD .ne x y s) Q X = ∃ b, eqD x y = some b ∧ Q (.bl (!b)) s := by
  refine (ok_ofB).trans ?_
  cases eqD x y with
  | none => exact propext ⟨fun ⟨_, h, _⟩ => (nomatch h), fun ⟨_, h, _⟩ => (nomatch h)⟩
  | some b => exact propext ⟨fun ⟨c, h, q⟩ => ⟨b, rfl, by cases h; exact q⟩, fun ⟨c, h, q⟩ => ⟨!b, rfl, by cases h; exact q⟩⟩
theorem o_in : okX (cmpD .inn x y s) Q X = ∃ b, inD s x y = some b ∧ Q (.bl b) s := ok_ofB
theorem o_nin : okX (cmpD .nin x y s) Q X = ∃ b, inD s x y = some b ∧ Q (.bl (!b)) s := by
  refine (ok_ofB).trans ?_
  cases inD s x y with
  | none => exact propext ⟨fun ⟨_, h, _⟩ => (nomatch h), fun ⟨_, h, _⟩ => (nomatch h)⟩
  | some b => exact propext ⟨fun ⟨c, h, q⟩ => ⟨b, rfl, by cases h; exact q⟩, fun ⟨c, h, q⟩ => ⟨!b, rfl, by cases h; exact q⟩⟩
theorem o_ix : okX (ixD s x (.int i)) Q X = ∃ xs d, seqOf s x = some xs ∧ (ixOf xs.length i).bind (xs[·]?) = some d ∧ Q d s := by
  simp only [ixD]
  cases h1 : seqOf s x with
  | none => exact propext ⟨fun h => h.elim, fun ⟨_, _, h, _⟩ => (nomatch h)⟩
  | some xs =>
    dsimp only
    cases h : (ixOf xs.length i).bind (xs[·]?) with
    | none => exact propext ⟨fun h => h.elim, fun ⟨_, _, e, h', _⟩ => by cases e; rw [h] at h'; cases h'⟩
    | some d => exact propext ⟨fun q => ⟨xs, d, rfl, h, q⟩, fun ⟨_, _, e, h', q⟩ => by cases e; rw [h] at h'; cases h'; exact q⟩
theorem ixOf_nat {n k : Nat} (h : k < n) : ixOf n (k : Int) = some k := by
  unfold ixOf
  rw [if_pos (by omega), if_pos (by omega)]
  rfl
theorem o_ixl {j k : Nat} {d : D} (hs : s[j]? = some (.lst xs)) (hd : xs[k]? = some d) : okX (ixD s (.lst j) (.int (k : Nat))) Q X = Q d s := by
  rw [o_ix]
  have hk : k < xs.length := (List.getElem?_eq_some_iff.mp hd).1
  apply propext
  constructor
  · rintro ⟨ys, e, h1, h2, q⟩
    simp only [seqOf, listOf, hs, Option.some.injEq] at h1
    subst h1
    rw [ixOf_nat hk] at h2
    have h2 : xs[k]? = some e := h2
    rw [hd] at h2
    cases h2
    exact q
  · intro q
    exact ⟨xs, d, by simp only [seqOf, listOf, hs], by rw [ixOf_nat hk]; exact hd, q⟩
theorem o_ixt {k : Nat} {d : D} (hd : xs[k]? = some d) : okX (ixD s (.tup xs) (.int (k : Nat))) Q X = Q d s := by
  rw [o_ix]
  have hk : k < xs.length := (List.getElem?_eq_some_iff.mp hd).1
  apply propext
  constructor
  · rintro ⟨ys, e, h1, h2, q⟩
    cases h1
    rw [ixOf_nat hk] at h2
    have h2 : xs[k]? = some e := h2
    rw [hd] at h2
    cases h2
    exact q
  · intro q
    exact ⟨xs, d, rfl, by rw [ixOf_nat hk]; exact hd, q⟩
theorem o_ixr {k : Nat} {d : D} (hd : xs[k]? = some d) : okX (ixD s (.rol xs) (.int (k : Nat))) Q X = Q d s := by
  rw [o_ix]
  have hk : k < xs.length := (List.getElem?_eq_some_iff.mp hd).1
  apply propext
  constructor
  · rintro ⟨ys, e, h1, h2, q⟩
    cases h1
    rw [ixOf_nat hk] at h2
    have h2 : xs[k]? = some e := h2
    rw [hd] at h2
    cases h2
    exact q
  · intro q
    exact ⟨xs, d, rfl, by rw [ixOf_nat hk]; exact hd, q⟩
variable {a b c d e : D} {r : List D}
theorem o_t0 : okX (ixD s (.tup (a :: r)) (.int 0)) Q X = Q a s := o_ixt (k := 0) rfl
theorem o_t1 : okX (ixD s (.tup (a :: b :: r)) (.int 1)) Q X = Q b s := o_ixt (k := 1) rfl
theorem o_t2 : okX (ixD s (.tup (a :: b :: c :: r)) (.int 2)) Q X = Q c s := o_ixt (k := 2) rfl
theorem o_t3 : okX (ixD s (.tup (a :: b :: c :: d :: r)) (.int 3)) Q X = Q d s := o_ixt (k := 3) rfl
theorem o_sl {l u : Option Int} : okX (slD s (.tup xs) l u) Q X = Q (.tup (cut xs l u)) s := rfl
theorem o_slr {l u : Option Int} : okX (slD s (.rol xs) l u) Q X = Q (.rol (cut xs l u)) s := rfl
theorem o_len : okX (primD .len [.tup xs] s) Q X = Q (.int xs.length) s := rfl
theorem o_lenr : okX (primD .len [.rol xs] s) Q X = Q (.int xs.length) s := rfl
theorem o_abs : okX (primD .abs [.int i] s) Q X = Q (.int (if i < 0 then -i else i)) s := rfl
theorem o_int : okX (primD .int [.int i] s) Q X = Q (.int i) s := rfl
theorem o_intb {t : Bool} : okX (primD .int [.bl t] s) Q X = Q (.int (if t then 1 else 0)) s := rfl
theorem o_tupr : okX (primD .tuple [.rol xs] s) Q X = Q (.tup xs) s := rfl
theorem o_tupt : okX (primD .tuple [.tup xs] s) Q X = Q (.tup xs) s := rfl
theorem o_listt : okX (primD .list [.tup xs] s) Q X = Q (.rol xs) s := rfl
theorem o_listr : okX (primD .list [.rol xs] s) Q X = Q (.rol xs) s := rfl
theorem o_listm : okX (primD .listm [x] s) Q X = ∃ ys, seqOf s x = some ys ∧ Q (.lst s.length) (s ++ [.lst ys]) := by
  simp only [primD]
  cases seqOf s x with
  | none => exact propext ⟨fun h => h.elim, fun ⟨_, h, _⟩ => nomatch h⟩
  | some ys => exact propext ⟨fun h => ⟨_, rfl, h⟩, fun ⟨_, e, h⟩ => by cases e; exact h⟩
theorem o_isi {ts : List Ty} : okX (primD (.isi ts) [x] s) Q X = ∃ b, tysD s x ts = some b ∧ Q (.bl b) s := ok_ofB
theorem o_any {bs : List Bool} (h : boolsOf xs = some bs) : okX (primD .any [.rol xs] s) Q X = Q (.bl (bs.any id)) s := by
  simp only [primD, listOf, Option.bind_some, h]; rfl
theorem o_all {bs : List Bool} (h : boolsOf xs = some bs) : okX (primD .all [.rol xs] s) Q X = Q (.bl (bs.all id)) s := by
  simp only [primD, listOf, Option.bind_some, h]; rfl
theorem o_frzl {j : Nat} (h : s[j]? = some (.lst xs)) : okX (frzD (.lst j) s) Q X = Q (.rol xs) (s.set j .dead) := by
  simp only [frzD, h]; rfl
theorem o_frzr : okX (frzD (.rol xs) s) Q X = Q (.rol xs) s := rfl
theorem o_app {j : Nat} (h : s[j]? = some (.lst xs)) : okX (appD (.lst j) y s) Q X = (lineLt xs.length = true ∧ Q .non (s.set j (.lst (xs ++ [y])))) := by
  simp only [appD, setL, h]
  cases lineLt xs.length
  · exact propext ⟨fun h => h.elim, fun h => nomatch h.1⟩
  · exact propext ⟨fun h => ⟨rfl, h⟩, fun h => h.2⟩
theorem isSome_lst {j : Nat} (h : s[j]? = some (.lst xs)) : (listOf s (.lst j)).isSome = true := by simp only [listOf, h]; rfl
theorem setIx_at {j k : Nat} (h : s[j]? = some (.lst xs)) (hk : k < xs.length) : setIx (.lst j) (.int (k : Nat)) y s = some (s.set j (.lst (xs.set k y))) := by
  simp only [setIx, setL, h, ixOf_nat hk]; rfl
/-! ### walks -/
def wkOf (s : Sto) : D → Option Wk
  | .tup xs => some (.items xs)
  | .rol xs => some (.items xs)
  | .str z => some (.items (signs z))
  | .lst i => match listOf s (.lst i) with
    | some _ => some (.live (.lst i))
    | none => none
  | _ => none
theorem i_seq {e : E} {Q : Wk → Sto → Prop} : okX (denIt F cf n (.seq e) env s) Q X = okX (denE F cf n e env s) (fun x s1 => ∃ w, wkOf s1 x = some w ∧ Q w s1) X := by
  simp only [denIt, okX_bind]
  refine okX_congr fun x s1 => ?_
  cases x with
  | tup xs => exact propext ⟨fun h => ⟨_, rfl, h⟩, fun ⟨_, e, h⟩ => by cases e; exact h⟩
  | rol xs => exact propext ⟨fun h => ⟨_, rfl, h⟩, fun ⟨_, e, h⟩ => by cases e; exact h⟩
  | str z => exact propext ⟨fun h => ⟨_, rfl, h⟩, fun ⟨_, e, h⟩ => by cases e; exact h⟩
  | lst i =>
    simp only [wkOf]
    cases listOf s1 (.lst i) with
    | none => exact propext ⟨fun h => h.elim, fun ⟨_, e, h⟩ => nomatch e⟩
    | some xs => exact propext ⟨fun h => ⟨_, rfl, h⟩, fun ⟨_, e, h⟩ => by cases e; exact h⟩
  | _ => exact propext ⟨fun h => h.elim, fun ⟨_, e, h⟩ => nomatch e⟩
theorem i_rng {e : E} {Q : Wk → Sto → Prop} : okX (denIt F cf n (.rng e) env s) Q X = okX (denE F cf n e env s) (fun x s1 => ∃ j, x = .int j ∧ (-(2 ^ 62) ≤ j ∧ j < 2 ^ 62) ∧ Q (.items ((List.range j.toNat).map fun k => .int (k : Nat))) s1) X := by
  simp only [denIt, okX_bind]
  refine okX_congr fun x s1 => ?_
  cases x with
  | int j =>
    dsimp only
    rw [okX_if, Bool.and_eq_true, decide_eq_true_eq, decide_eq_true_eq]
    exact propext ⟨fun h => ⟨_, rfl, h⟩, fun ⟨_, e, h⟩ => by cases e; exact h⟩
  | _ => exact propext ⟨fun h => h.elim, fun ⟨_, e, h⟩ => nomatch e⟩
def enOf : D → Option (List D)
  | .tup xs => some xs
  | .rol xs => some xs
  | _ => none
theorem i_enum {e : E} {Q : Wk → Sto → Prop} : okX (denIt F cf n (.enum e) env s) Q X = okX (denE F cf n e env s) (fun x s1 => ∃ xs, enOf x = some xs ∧ Q (.items (enumFrom 0 xs)) s1) X := by
  simp only [denIt, okX_bind]
  refine okX_congr fun x s1 => ?_
  cases x with
  | tup xs => exact propext ⟨fun h => ⟨_, rfl, h⟩, fun ⟨_, e, h⟩ => by cases e; exact h⟩
  | rol xs => exact propext ⟨fun h => ⟨_, rfl, h⟩, fun ⟨_, e, h⟩ => by cases e; exact h⟩
  | _ => exact propext ⟨fun h => h.elim, fun ⟨_, e, h⟩ => nomatch e⟩
theorem c_no : okX (denC F cf n .no env s) Q X = Q (.bl true) s := by simp only [denC]; rfl
theorem c_so {e : E} : okX (denC F cf n (.so e) env s) Q X = okX (denE F cf n e env s) Q X := by simp only [denC]
theorem lc_fin {turn : D → Sto → Option (Option D × Sto)} {w : Wk} {ys : List D} {s3 : Sto} (e : lcW turn w F 0 [] s = some (ys, s3)) (h : Q (.rol ys) s3) : okX (match lcW turn w F 0 [] s with
    | some (xs, s2) => .ok (.rol xs) s2
    | none => .bad) Q X := by
  rw [e]; exact h
/-- a comprehension over things that stand -/
theorem w_lc {own : List Nat} {tg : Tg} {it : It} {c : Oe} {el : E} (I : Nat → List D → Sto → Prop)
    (h : okX (denIt F cf n it env s) (fun w s1 => ∃ xs, w = .items xs ∧ xs.length < F ∧ I 0 [] s1 ∧ (∀ i d acc s2, xs[i]? = some d → I i acc s2 → okS (setTg F cf n tg d (wipeE env own) s2)
        ⟨fun e s3 => okX (denC F cf n c e s3) (fun x s4 => isB x fun t => br t (okX (denE F cf n el e s4) (fun y s5 => lineLt acc.length = true ∧ I (i + 1) (acc ++ [y]) s5) NoE) (I (i + 1) acc s4)) NoE, fun _ _ => False, fun _ _ => False, fun _ _ => False, fun _ _ _ => False⟩) ∧
      ∀ acc s2, I xs.length acc s2 → Q (.rol acc) s2) X) : okX (denE F cf n (.lc own tg it c el) env s) Q X := by
  simp only [denE, okX_bind]
  refine okX_mono h (fun w s1 => ?_) fun _ _ z => z
  rintro ⟨xs, rfl, hF, h0, step, fin⟩
  have go : ∀ (turn : D → Sto → Option (Option D × Sto)), (∀ i d acc s2, xs[i]? = some d → I i acc s2 → (∃ y s5, turn d s2 = some (some y, s5) ∧ lineLt acc.length = true ∧ I (i + 1) (acc ++ [y]) s5) ∨ ∃ s5, turn d s2 = some (none, s5) ∧ I (i + 1) acc s5) →
      ∀ f i acc s2, i ≤ xs.length → xs.length - i < f → I i acc s2 → ∃ ys s3, lcW turn (.items xs) f i acc s2 = some (ys, s3) ∧ I xs.length ys s3 := by
    intro turn ht f
    induction f with
    | zero => exact fun i acc s2 _ h => absurd h (Nat.not_lt_zero _)
    | succ f ih =>
      intro i acc s2 hi hm hI
      simp only [lcW, wkAt]
      cases e1 : xs[i]? with
      | none =>
        have : xs.length ≤ i := List.getElem?_eq_none_iff.mp e1
        have : i = xs.length := by omega
        subst this
        exact ⟨acc, s2, rfl, hI⟩
      | some d =>
        have hl : i < xs.length := (List.getElem?_eq_some_iff.mp e1).1
        rcases ht i d acc s2 e1 hI with ⟨y, s5, e2, h1, h2⟩ | ⟨s5, e2, h2⟩
        · simp only [e2, h1, if_true]
          exact ih (i + 1) _ s5 (by omega) (by omega) h2
        · simp only [e2]
          exact ih (i + 1) _ s5 (by omega) (by omega) h2
  have key : ∀ i d acc s2, xs[i]? = some d → I i acc s2 → (∃ y s5, (match setTg F cf n tg d (wipeE env own) s2 with
        | .nx env' s3 => match denC F cf n c env' s3 with
          | .ok (.bl true) s4 => match denE F cf n el env' s4 with
            | .ok y s5 => some (some y, s5)
            | _ => none
          | .ok (.bl false) s4 => some (none, s4)
          | _ => none
        | _ => none) = some (some y, s5) ∧ lineLt acc.length = true ∧ I (i + 1) (acc ++ [y]) s5) ∨ ∃ s5, (match setTg F cf n tg d (wipeE env own) s2 with
        | .nx env' s3 => match denC F cf n c env' s3 with
          | .ok (.bl true) s4 => match denE F cf n el env' s4 with
            | .ok y s5 => some (some y, s5)
            | _ => none
          | .ok (.bl false) s4 => some (none, s4)
          | _ => none
        | _ => none) = some (none, s5) ∧ I (i + 1) acc s5 := by
    intro i d acc s2 e1 hI
    have q := step i d acc s2 e1 hI
    cases e2 : setTg F cf n tg d (wipeE env own) s2 with
    | nx env' s3 =>
      rw [e2] at q
      dsimp only
      have q : okX (denC F cf n c env' s3) (fun x s4 => isB x fun t => br t (okX (denE F cf n el env' s4) (fun y s5 => lineLt acc.length = true ∧ I (i + 1) (acc ++ [y]) s5) NoE) (I (i + 1) acc s4)) NoE := q
      cases e3 : denC F cf n c env' s3 with
      | ok x s4 =>
        rw [e3] at q
        obtain ⟨t, rfl, q⟩ := (q : isB x _)
        cases t with
        | true =>
          rw [br_true] at q
          cases e4 : denE F cf n el env' s4 with
          | ok y s5 =>
            rw [e4] at q
            exact .inl ⟨y, s5, by simp only [e4], q.1, q.2⟩
          | exc c fs s5 => rw [e4] at q; exact q.2.elim
          | bad => rw [e4] at q; exact q.elim
        | false =>
          rw [br_false] at q
          exact .inr ⟨s4, rfl, q⟩
      | exc c fs s4 => rw [e3] at q; exact q.2.elim
      | bad => rw [e3] at q; exact q.elim
    | rt d s3 => rw [e2] at q; exact (q : False).elim
    | bk e s3 => rw [e2] at q; exact (q : False).elim
    | ct e s3 => rw [e2] at q; exact (q : False).elim
    | exc c fs e s3 => rw [e2] at q; exact q.2.elim
    | bad => rw [e2] at q; exact q.elim
  obtain ⟨ys, s3, e, hI⟩ := go _ key F 0 [] s1 (Nat.zero_le _) hF h0
  exact lc_fin e (fin ys s3 hI)
end
end Dn

end
section
set_option Elab.async false
set_option maxRecDepth 100000
set_option maxHeartbeats 4000000
set_option linter.unusedVariables false
/-! Pu2: the defs that draw, whole numbers, fractions. -/
namespace Dn
open PySem
local macro_rules | `(tactic| array_get_dec) => `(tactic| simp only [s_cons, s_nil, s_set, s_par, s_par3, s_ex, s_ret, s_retn, s_ite, s_rai, s_tryo, s_pas, s_brk, s_cnt, s_aug, t_nm, t_tup, t_sub, t_nil, t_cons, w_var, w_cst, w_top, w_bin, w_neg, w_cmp, w_cmp2, w_nt, w_and, w_or, w_ife, w_tup, w_rol, w_lst, w_ix, w_sl, w_call, w_prim, w_app, w_ins, w_bits, w_join, w_frz, w_nil, w_cons, w_no, w_so, c_no, c_so,
  okX_ok, isB_bl, br_true, br_false, o_add, o_sub, o_mul, o_fdiv, o_mod, o_pow, o_shl, o_cat, o_strs, o_rols, o_neg, o_lt, o_le, o_gt, o_ge, o_is, o_isn, o_eq, o_ne, o_in, o_nin, o_t0, o_t1, o_t2, o_t3, o_sl, o_slr, o_len, o_lenr, o_abs, o_int, o_intb, o_tupr, o_tupt, o_listt, o_listr, o_listm, o_isi, o_frzr, cf_self,
  List.getElem?_cons_zero, List.getElem?_cons_succ, List.set_cons_zero, List.set_cons_succ, List.length_cons, List.length_nil, Option.some.injEq, exists_eq_left', exists_eq_left, D.int.injEq, D.bl.injEq, D.tup.injEq, and_true, true_and, Nat.zero_add, Nat.reduceAdd, Nat.reduceLT, Nat.lt_irrefl])
theorem callD_body {F : Nat} {G : List Fn} {n i : Nat} {fn : Fn} {args : List D} {s : Sto} {Q : D → Sto → Prop} {X : Nat → Sto → Prop} (E : Env) (b : Ss) (g : G[i]? = some fn) (hl : args.length = fn.np) (hE : startE fn args = E) (hb : fn.body = b)
    (h : okS (denSs F (callT F G n) n b E s) ⟨fun _ s1 => Q .non s1, Q, fun _ _ => False, fun _ _ => False, fun c _ s1 => X c s1⟩) : okX (callD F G (n + 1) i args s) Q X := by
  subst hE hb
  exact callD_run g hl h
section
variable {F n : Nat} {s : Sto} {Q : D → Sto → Prop} {X : Nat → Sto → Prop} {j : Nat} {a b c y : D} {r : List D}
theorem o_l0 (h : s[j]? = some (.lst (a :: r))) : okX (ixD s (.lst j) (.int 0)) Q X = Q a s := o_ixl (k := 0) h rfl
theorem o_l1 (h : s[j]? = some (.lst (a :: b :: r))) : okX (ixD s (.lst j) (.int 1)) Q X = Q b s := o_ixl (k := 1) h rfl
theorem o_l2 (h : s[j]? = some (.lst (a :: b :: c :: r))) : okX (ixD s (.lst j) (.int 2)) Q X = Q c s := o_ixl (k := 2) h rfl
theorem p_l0 (h : s[j]? = some (.lst (a :: r))) : setIx (.lst j) (.int 0) y s = some (s.set j (.lst (y :: r))) := setIx_at (k := 0) h (by simp)
theorem p_l2 (h : s[j]? = some (.lst (a :: b :: c :: r))) : setIx (.lst j) (.int 2) y s = some (s.set j (.lst (a :: b :: y :: r))) := setIx_at (k := 2) h (by simp)
theorem get_set {c : Cell} {d : Cell} (h : s[j]? = some d) : (s.set j c)[j]? = some c := List.getElem?_set_self (List.getElem?_eq_some_iff.mp h).1
end
/-! ### sizes -/
theorem log2_le {x a : Nat} (h : x < 2 ^ a) : x.log2 ≤ a := by
  by_cases hx : x = 0
  · subst hx; simp
  · have := (Nat.log2_lt hx).mpr h
    omega
theorem mulOk_of {i j : Int} {a b : Nat} (hi : i.natAbs < 2 ^ a) (hj : j.natAbs < 2 ^ b) (h : a + b < 1000000) : mulOk i j = true := by
  unfold mulOk
  have := log2_le hi
  have := log2_le hj
  exact decide_eq_true (by omega)
theorem fdivOk_of {i j : Int} (hj : j ≠ 0) (h : j.natAbs < 2 ^ 8000) : fdivOk i j = true := by
  unfold fdivOk
  have l := log2_le h
  have e : Builtin.divisionGoesByPylong i j = false := by
    unfold Builtin.divisionGoesByPylong
    have z : (j == 0) = false := by simpa using hj
    simp only [z, Bool.and_eq_false_iff, decide_eq_false_iff_not]
    left
    simp only [Bool.false_eq_true, if_false]
    omega
  rw [e]
  simpa using hj
theorem lt_pow {x : Nat} {a b : Nat} (h : x < 2 ^ a) (hab : a ≤ b) : x < 2 ^ b := Nat.lt_of_lt_of_le h (Nat.pow_le_pow_right (by decide) hab)
theorem powOk_of {i : Int} {k : Nat} (h : i.natAbs < 2 ^ 64) (hk : k ≤ 1000000) : powOk i (k : Int) = true := by
  unfold powOk
  have h1 : (k : Int) ≤ 1000000 := by omega
  have h0 : (0 : Int) ≤ (k : Int) := by omega
  rw [decide_eq_true h, decide_eq_true h1, decide_eq_true h0]; rfl
/-- a deck: its cell, how many draws it may have had -/
def Deck (s : Sto) (j : Nat) (k : Nat) : Prop := ∃ a b t : Int, s[j]? = some (.lst [.int a, .int b, .int t]) ∧ 0 ≤ a ∧ 0 ≤ b ∧ b < 2147483579 ∧ 0 ≤ t ∧ t ≤ k
/-- the other cells stand -/
def Keep (j : Nat) (s s' : Sto) : Prop := ∀ i c, i ≠ j → s[i]? = some c → s'[i]? = some c
theorem Keep.refl (j : Nat) (s : Sto) : Keep j s s := fun _ _ _ h => h
theorem Keep.trans {j : Nat} {a b c : Sto} (h : Keep j a b) (h' : Keep j b c) : Keep j a c := fun i x n e => h' i x n (h i x n e)
theorem Keep.set {j : Nat} {s : Sto} {c : Cell} : Keep j s (s.set j c) := fun i x n e => by rw [List.getElem?_set_ne (Ne.symm n)]; exact e
variable {F n : Nat} {s : Sto} {Q : D → Sto → Prop} {X : Nat → Sto → Prop}
theorem pick_ok {j k : Nat} {m : Int} (h : Deck s j k) (hm : 0 < m) (hm2 : m < 2 ^ 60) (hk : k < 2 ^ 30) (q : ∀ r s', 0 ≤ r → r < m → Deck s' j (k + 1) → Keep j s s' → Q (.int r) s') : okX (callD F G (n + 1) 5 [.lst j, .int m] s) Q X := by
  obtain ⟨a, b, t, hs, ha, hb, hb2, ht, htk⟩ := h
  refine callD_body [some (.lst j), some (.int m), none, none] b_law_pick g_law_pick rfl rfl rfl ?_
  unfold b_law_pick
  array_get_dec
  have m8 : m.natAbs < 2 ^ 8000 := lt_pow (a := 60) (by omega) (by decide)
  have m0 : m ≠ 0 := by omega
  rw [o_l0 hs, o_gt, isB_bl]
  refine ⟨fun h1 => ?_, fun h1 => ?_⟩
  · rw [decide_eq_true_eq] at h1
    rw [o_l0 hs, o_mod]
    refine ⟨m0, ?_⟩
    rw [o_l0 hs, o_fdiv]
    refine ⟨fdivOk_of m0 m8, _, p_l0 hs, ?_⟩
    refine q _ _ (Int.fmod_nonneg ha (Int.le_of_lt hm)) (Int.fmod_lt_of_pos _ hm) ⟨a.fdiv m, b, t, get_set hs, ?_, hb, hb2, ht, by omega⟩ .set
    exact Int.fdiv_nonneg ha (Int.le_of_lt hm)
  · clear h1
    have h2 := get_set (c := .lst [.int a, .int b, .int (t + 1)]) hs
    rw [o_l2 hs, o_add]
    refine ⟨_, p_l2 hs, ?_⟩
    rw [o_l1 h2, o_l2 h2, o_mul]
    refine ⟨mulOk_of (a := 24) (b := 40) (by decide) (by omega) (by decide), ?_⟩
    rw [o_add, o_pow]
    refine ⟨powOk_of (k := 5) (by omega) (by decide), ?_⟩
    rw [o_mod]
    refine ⟨by decide, ?_⟩
    generalize hu : ((b + 15485867 * (t + 1)) ^ Int.toNat 5).fmod 2147483647 = u
    have u0 : 0 ≤ u := by rw [← hu]; exact Int.fmod_nonneg (Int.pow_nonneg (by omega)) (by decide)
    have u1 : u < 2147483647 := by rw [← hu]; exact Int.fmod_lt_of_pos _ (by decide)
    rw [o_l2 h2, o_mul]
    refine ⟨mulOk_of (a := 24) (b := 40) (by decide) (by omega) (by decide), ?_⟩
    rw [o_add, o_pow]
    refine ⟨powOk_of (k := 3) (by omega) (by decide), ?_⟩
    rw [o_mod]
    refine ⟨by decide, ?_⟩
    rw [o_fdiv]
    refine ⟨fdivOk_of (by decide) (lt_pow (a := 60) (by decide) (by decide)), ?_⟩
    rw [o_mod]
    refine ⟨m0, ?_⟩
    refine q _ _ (Int.fmod_nonneg ?_ (Int.le_of_lt hm)) (Int.fmod_lt_of_pos _ hm) ⟨a, b, t + 1, h2, ha, hb, hb2, by omega, by omega⟩ .set
    exact Int.fdiv_nonneg (Int.fmod_nonneg (Int.pow_nonneg (by omega)) (by decide)) (by decide)
end Dn

end
section
set_option Elab.async false
set_option maxRecDepth 100000
set_option maxHeartbeats 4000000
set_option linter.unusedVariables false
/-! Pu3: whole numbers, fractions. -/
namespace Dn
open PySem
local macro_rules | `(tactic| array_get_dec) => `(tactic| simp only [s_cons, s_nil, s_set, s_par, s_par3, s_ex, s_ret, s_retn, s_ite, s_rai, s_tryo, s_pas, s_brk, s_cnt, s_aug, t_nm, t_tup, t_sub, t_nil, t_cons, w_var, w_cst, w_top, w_bin, w_neg, w_cmp, w_cmp2, w_nt, w_and, w_or, w_ife, w_tup, w_rol, w_lst, w_ix, w_sl, w_call, w_prim, w_app, w_ins, w_bits, w_join, w_frz, w_nil, w_cons, w_no, w_so, c_no, c_so,
  okX_ok, isB_bl, br_true, br_false, o_add, o_sub, o_mul, o_fdiv, o_mod, o_pow, o_shl, o_cat, o_strs, o_rols, o_neg, o_lt, o_le, o_gt, o_ge, o_is, o_isn, o_eq, o_ne, o_in, o_nin, o_t0, o_t1, o_t2, o_t3, o_sl, o_slr, o_len, o_lenr, o_abs, o_int, o_intb, o_tupr, o_tupt, o_listt, o_listr, o_listm, o_isi, o_frzr, cf_self,
  List.getElem?_cons_zero, List.getElem?_cons_succ, List.set_cons_zero, List.set_cons_succ, List.length_cons, List.length_nil, Option.some.injEq, exists_eq_left', exists_eq_left, D.int.injEq, D.bl.injEq, D.tup.injEq, and_true, true_and, Nat.zero_add, Nat.reduceAdd, Nat.reduceLT, Nat.lt_irrefl])
variable {F n : Nat} {s : Sto} {Q : D → Sto → Prop} {X : Nat → Sto → Prop}
theorem eq_int {i j : Int} : eqD (.int i) (.int j) = some (decide (i = j)) := by
  have h : ∀ k : Int, SeqAt.shaped (D.int k).py = true := fun k => by simp [SeqAt.shaped, D.py, PyData.canLay0, PyData.depth]
  unfold eqD
  rw [h i, h j]
  show some (PyData.eqv (.int i) (.int j)) = _
  simp only [PyData.eqv, Bool.beq_eq_decide_eq]
def Sm (k : Nat) (i : Int) : Prop := i.natAbs < 2 ^ k
theorem Sm.le {k l : Nat} {i : Int} (h : Sm k i) (hl : k ≤ l) : Sm l i := lt_pow h hl
def absI (a : Int) : Int := if a < 0 then -a else a
theorem absI_eq (a : Int) : absI a = (a.natAbs : Int) := by unfold absI; split <;> omega
theorem gcd_step (a b : Nat) (h : b ≠ 0) : Nat.gcd b (a % b) = Nat.gcd a b := by
  rw [Nat.gcd_comm a b, Nat.gcd_rec b a, Nat.gcd_comm]
theorem fmod_nat (a b : Nat) (h : b ≠ 0) : (a : Int).fmod (b : Int) = ((a % b : Nat) : Int) := by
  rw [Int.fmod_eq_emod_of_nonneg _ (by omega)]
  rfl
/-- the divisor of two whole numbers -/
theorem divisor_ok {a b : Int} (hF : b.natAbs < F) (q : Q (.int (Int.gcd a b : Nat)) s) : okX (callD F G (n + 1) 1 [.int a, .int b] s) Q X := by
  refine callD_body [some (.int a), some (.int b)] b_divisor g_divisor rfl rfl rfl ?_
  unfold b_divisor
  array_get_dec
  refine s_whl (fun m e s' => ∃ x y : Nat, e = [some (.int x), some (.int y)] ∧ y = m ∧ Nat.gcd x y = Int.gcd a b ∧ s' = s) (m := b.natAbs) hF ⟨a.natAbs, b.natAbs, ?_, rfl, rfl, rfl⟩ ?_
  · rw [show (if a < 0 then -a else a) = (a.natAbs : Int) from absI_eq a, show (if b < 0 then -b else b) = (b.natAbs : Int) from absI_eq b]
  · rintro m e s' ⟨x, y, rfl, rfl, hg, rfl⟩
    array_get_dec
    refine ⟨_, eq_int, ?_⟩
    refine ⟨fun h => ?_, fun h => ?_⟩
    · have hy : y ≠ 0 := by simpa using h
      refine ⟨by omega, y % x * 0 + x % y, ?_, y, x % y, ?_, by omega, ?_⟩
      · have := Nat.mod_lt x (Nat.pos_of_ne_zero hy)
        omega
      · rw [fmod_nat x y hy]
      · rw [gcd_step x y hy]; exact hg
    · have hy : y = 0 := by simpa using h
      subst hy
      rw [Nat.gcd_zero_right] at hg
      rw [hg]
      exact q
/-- a fraction's two parts, in lowest terms, the lower above nought -/
def red (a b : Int) : Int × Int := (b.sign * a / (Int.gcd a b : Nat), b.natAbs / (Int.gcd a b : Nat))
def fr (x : Int × Int) : D := .tup [.int x.1, .int x.2]
theorem gcd_ne {a b : Int} (hb : b ≠ 0) : Int.gcd a b ≠ 0 := fun h => hb (Int.gcd_eq_zero_iff.mp h).2
theorem gcd_lt {a b : Int} {k : Nat} (hb : b ≠ 0) (h : Sm k b) : Int.gcd a b < 2 ^ k := by
  have : Int.gcd a b ≤ b.natAbs := Nat.le_of_dvd (by omega) (Int.gcd_dvd_natAbs_right a b)
  unfold Sm at h
  omega
theorem fdiv_dvd {a g : Int} (h : g ∣ a) : a.fdiv g = a / g := Int.fdiv_eq_ediv_of_dvd h
/-- a fraction of two whole numbers -/
theorem fraction_ok {a b : Int} {k : Nat} (hb : b ≠ 0) (hs : Sm k b) (hk : k ≤ 8000) (hF : 2 ^ k ≤ F) (q : Q (fr (red a b)) s) : okX (callD F G (n + 2) 3 [.int a, .int b] s) Q X := by
  refine callD_body [some (.int a), some (.int b), none] b_fraction g_fraction rfl rfl rfl ?_
  unfold b_fraction
  array_get_dec
  refine ⟨_, eq_int, ?_⟩
  refine ⟨fun h => absurd (of_decide_eq_true h) hb, fun _ => ?_⟩
  unfold Sm at hs
  refine divisor_ok (by omega) ?_
  have g0 := gcd_ne (a := a) hb
  have gl := gcd_lt (a := a) hb hs
  have da : ((Int.gcd a b : Nat) : Int) ∣ a := Int.gcd_dvd_left a b
  have db : ((Int.gcd a b : Nat) : Int) ∣ b := Int.gcd_dvd_right a b
  generalize hg : Int.gcd a b = g at *
  have l8 : ((g : Nat) : Int).natAbs < 2 ^ 8000 := by rw [Int.natAbs_natCast]; exact lt_pow gl hk
  array_get_dec
  have key : ∀ (σ : Int), b.sign = σ → fdivOk a (σ * g) = true ∧ fdivOk b (σ * g) = true ∧ lineOk 2 = true ∧ Q (.tup [.int (a.fdiv (σ * g)), .int (b.fdiv (σ * g))]) s := by
    intro σ hσ
    have hs2 : σ = 1 ∨ σ = -1 := by
      rcases Int.lt_trichotomy b 0 with h | h | h
      · right; rw [← hσ]; exact Int.sign_eq_neg_one_of_neg h
      · exact absurd h hb
      · left; rw [← hσ]; exact Int.sign_eq_one_of_pos h
    have ok : ∀ c : Int, fdivOk c (σ * g) = true := fun c => fdivOk_of (by rcases hs2 with h | h <;> rw [h] <;> omega) (by rw [Int.natAbs_mul]; rcases hs2 with h | h <;> rw [h] <;> simpa using l8)
    refine ⟨ok a, ok b, by decide, ?_⟩
    have e : ∀ c : Int, ((g : Nat) : Int) ∣ c → c.fdiv (σ * g) = σ * c / g := fun c hc => by
      obtain ⟨m, rfl⟩ := hc
      have gp : ((g : Nat) : Int) ≠ 0 := by omega
      have sg : σ * (g : Int) ≠ 0 := by rcases hs2 with h | h <;> rw [h] <;> omega
      have ss : σ * σ = 1 := by rcases hs2 with h | h <;> rw [h] <;> rfl
      have e1 : (g : Int) * m = (σ * g) * (σ * m) := by
        calc (g : Int) * m = (σ * σ) * (g * m) := by rw [ss, Int.one_mul]
          _ = _ := by grind
      have e2 : σ * ((g : Int) * m) = g * (σ * m) := by grind
      rw [e2, Int.mul_ediv_cancel_left _ gp, e1, Int.mul_fdiv_cancel_left _ sg]
    have q' : Q (.tup [.int (b.sign * a / g), .int (b.natAbs / g)]) s := by
      have := q
      unfold fr red at this
      rw [hg] at this
      exact this
    have sb : b.sign * b = b.natAbs := by
      rcases hs2 with h | h <;> rw [hσ, h] <;> rw [h] at hσ
      · have := Int.sign_eq_one_iff_pos.mp hσ; omega
      · have := Int.sign_eq_neg_one_iff_neg.mp hσ; omega
    rw [e a da, e b db, ← hσ, sb]
    exact q'
  refine ⟨fun h => ?_, fun h => ?_⟩
  · have k := key (-1) (Int.sign_eq_neg_one_of_neg (of_decide_eq_true h))
    rw [Int.neg_mul, Int.one_mul] at k
    exact k
  · have nlt : ¬ b < 0 := of_decide_eq_false h
    have k := key 1 (Int.sign_eq_one_of_pos (by omega))
    rw [Int.one_mul] at k
    exact k
end Dn

end
section
set_option Elab.async false
set_option maxRecDepth 100000
set_option maxHeartbeats 4000000
set_option linter.unusedVariables false
set_option exponentiation.threshold 20000
/-! Pu4: sums, products of fractions; roots of whole numbers. -/
namespace Dn
open PySem
local macro_rules | `(tactic| array_get_dec) => `(tactic| simp only [s_cons, s_nil, s_set, s_par, s_par3, s_ex, s_ret, s_retn, s_ite, s_rai, s_tryo, s_pas, s_brk, s_cnt, s_aug, t_nm, t_tup, t_sub, t_nil, t_cons, w_var, w_cst, w_top, w_bin, w_neg, w_cmp, w_cmp2, w_nt, w_and, w_or, w_ife, w_tup, w_rol, w_lst, w_ix, w_sl, w_call, w_prim, w_app, w_ins, w_bits, w_join, w_frz, w_nil, w_cons, w_no, w_so, c_no, c_so,
  okX_ok, isB_bl, br_true, br_false, o_add, o_sub, o_mul, o_fdiv, o_mod, o_pow, o_shl, o_cat, o_strs, o_rols, o_neg, o_lt, o_le, o_gt, o_ge, o_is, o_isn, o_eq, o_ne, o_in, o_nin, o_t0, o_t1, o_t2, o_t3, o_sl, o_slr, o_len, o_lenr, o_abs, o_int, o_intb, o_tupr, o_tupt, o_listt, o_listr, o_listm, o_isi, o_frzr, cf_self, eq_int,
  List.getElem?_cons_zero, List.getElem?_cons_succ, List.set_cons_zero, List.set_cons_succ, List.length_cons, List.length_nil, Option.some.injEq, exists_eq_left', exists_eq_left, D.int.injEq, D.bl.injEq, D.tup.injEq, and_true, true_and, Nat.zero_add, Nat.reduceAdd, Nat.reduceLT, Nat.lt_irrefl])
variable {F n : Nat} {s : Sto} {Q : D → Sto → Prop} {X : Nat → Sto → Prop}
theorem Sm.mul {k l : Nat} {a b : Int} (ha : Sm k a) (hb : Sm l b) : Sm (k + l) (a * b) := by
  unfold Sm at *
  rw [Int.natAbs_mul, Nat.pow_add]
  exact Nat.mul_lt_mul'' ha hb
theorem Sm.add {k : Nat} {a b : Int} (ha : Sm k a) (hb : Sm k b) : Sm (k + 1) (a + b) := by
  unfold Sm at *
  have := Int.natAbs_add_le a b
  rw [Nat.pow_succ]
  omega
theorem Sm.neg {k : Nat} {a : Int} (ha : Sm k a) : Sm k (-a) := by
  unfold Sm at *
  rw [Int.natAbs_neg]; exact ha
theorem Sm.mulOk {k l : Nat} {a b : Int} (ha : Sm k a) (hb : Sm l b) (h : k + l < 1000000) : mulOk a b = true := mulOk_of ha hb h
theorem Sm.ediv {k : Nat} {a : Int} {g : Nat} (ha : Sm k a) : Sm k (a / (g : Int)) := by
  unfold Sm at *
  have := Int.natAbs_ediv_le_natAbs a g
  omega
/-- a fraction in lowest terms, its parts of so many bits -/
structure Fr (k : Nat) (x : Int × Int) : Prop where
  a : Sm k x.1
  b : Sm k x.2
  p : 0 < x.2
  g : Int.gcd x.1 x.2 = 1
theorem Fr.le {k l : Nat} {x : Int × Int} (h : Fr k x) (hl : k ≤ l) : Fr l x := ⟨h.a.le hl, h.b.le hl, h.p, h.g⟩
theorem red_fr {k : Nat} {a b : Int} (hb : b ≠ 0) (ha : Sm k a) (hs : Sm k b) : Fr k (red a b) := by
  have g0 : 0 < Int.gcd a b := by have := gcd_ne (a := a) hb; omega
  have sg : b.sign.natAbs = 1 := by rw [Int.natAbs_sign]; rw [if_neg hb]
  refine ⟨?_, ?_, ?_, ?_⟩
  · refine Sm.ediv ?_
    unfold Sm at *
    rw [Int.natAbs_mul, sg, Nat.one_mul]; exact ha
  · refine Sm.ediv ?_
    unfold Sm at *
    rw [Int.natAbs_natCast]; exact hs
  · show 0 < ((b.natAbs : Nat) : Int) / ((Int.gcd a b : Nat) : Int)
    have d : Int.gcd a b ∣ b.natAbs := Int.gcd_dvd_natAbs_right a b
    have : 0 < b.natAbs / Int.gcd a b := Nat.div_pos (Nat.le_of_dvd (by omega) d) g0
    exact_mod_cast this
  · have dA : Int.gcd a b ∣ a.natAbs := Int.gcd_dvd_natAbs_left a b
    have dB : Int.gcd a b ∣ b.natAbs := Int.gcd_dvd_natAbs_right a b
    have e1 : (b.sign * a / ((Int.gcd a b : Nat) : Int)).natAbs = a.natAbs / Int.gcd a b := by
      obtain ⟨m, hm⟩ := Int.gcd_dvd_left a b
      generalize hg : Int.gcd a b = g at *
      have gp : ((g : Nat) : Int) ≠ 0 := by omega
      have e : b.sign * a = (g : Int) * (b.sign * m) := by rw [hm]; grind
      rw [e, Int.mul_ediv_cancel_left _ gp, hm, Int.natAbs_mul, Int.natAbs_mul, sg, Nat.one_mul, Int.natAbs_natCast, Nat.mul_div_cancel_left _ g0]
    show Nat.gcd (b.sign * a / ((Int.gcd a b : Nat) : Int)).natAbs (((b.natAbs : Nat) : Int) / ((Int.gcd a b : Nat) : Int)).natAbs = 1
    rw [e1]
    have e2 : (((b.natAbs : Nat) : Int) / ((Int.gcd a b : Nat) : Int)).natAbs = b.natAbs / Int.gcd a b := by
      rw [← Int.natCast_ediv, Int.natAbs_natCast]
    rw [e2, Nat.gcd_div dA dB]
    exact Nat.div_self g0
theorem sign_self (b : Int) : b.sign * b = b.natAbs := by
  rcases Int.lt_trichotomy b 0 with h | h | h
  · rw [Int.sign_eq_neg_one_of_neg h]; omega
  · subst h; rfl
  · rw [Int.sign_eq_one_of_pos h]; omega
/-- the value of a fraction stands through lowest terms -/
theorem red_eq {a b : Int} (hb : b ≠ 0) : (red a b).1 * b = a * (red a b).2 := by
  obtain ⟨m, hm⟩ := Int.gcd_dvd_left a b
  obtain ⟨l, hl⟩ := Int.gcd_dvd_right a b
  have g0 := gcd_ne (a := a) hb
  unfold red
  dsimp only
  generalize Int.gcd a b = g at *
  have gp : ((g : Nat) : Int) ≠ 0 := by omega
  have sb : b.sign * b = b.natAbs := sign_self b
  have e1 : b.sign * a / (g : Int) = b.sign * m := by
    have e : b.sign * a = (g : Int) * (b.sign * m) := by rw [hm]; grind
    rw [e, Int.mul_ediv_cancel_left _ gp]
  have e2 : ((b.natAbs : Nat) : Int) / (g : Int) = b.sign * l := by
    have e : ((b.natAbs : Nat) : Int) = (g : Int) * (b.sign * l) := by
      have z : b.sign * b = b.sign * ((g : Int) * l) := congrArg (b.sign * ·) hl
      rw [← sb, z]; grind
    rw [e, Int.mul_ediv_cancel_left _ gp]
  rw [e1, e2]
  have z1 : b.sign * m * b = b.sign * m * ((g : Int) * l) := congrArg (b.sign * m * ·) hl
  have z2 : a * (b.sign * l) = (g : Int) * m * (b.sign * l) := congrArg (· * (b.sign * l)) hm
  rw [z1, z2]; grind
def plusQ (x y : Int × Int) : Int × Int := red (x.1 * y.2 + y.1 * x.2) (x.2 * y.2)
def minusQ (x y : Int × Int) : Int × Int := red (x.1 * y.2 - y.1 * x.2) (x.2 * y.2)
def byQ (x y : Int × Int) : Int × Int := red (x.1 * y.1) (x.2 * y.2)
def overQ (x y : Int × Int) : Int × Int := red (x.1 * y.2) (x.2 * y.1)
theorem fr_ne {k : Nat} {x : Int × Int} (h : Fr k x) : x.2 ≠ 0 := by have := h.p; omega
theorem fr_mul {k l : Nat} {x y : Int × Int} (hx : Fr k x) (hy : Fr l y) : 0 < x.2 * y.2 := Int.mul_pos hx.p hy.p
theorem Fr.plus {k l : Nat} {x y : Int × Int} (hx : Fr k x) (hy : Fr l y) : Fr (k + l + 1) (plusQ x y) := by
  have p := fr_mul hx hy
  refine red_fr (by omega) (Sm.add (hx.a.mul hy.b) ?_) ((hx.b.mul hy.b).le (by omega))
  have z := hy.a.mul hx.b
  rw [Nat.add_comm] at z; exact z
theorem Fr.minus {k l : Nat} {x y : Int × Int} (hx : Fr k x) (hy : Fr l y) : Fr (k + l + 1) (minusQ x y) := by
  have p := fr_mul hx hy
  refine red_fr (by omega) ?_ ((hx.b.mul hy.b).le (by omega))
  rw [Int.sub_eq_add_neg]
  refine Sm.add (hx.a.mul hy.b) (Sm.neg ?_)
  have z := hy.a.mul hx.b
  rw [Nat.add_comm] at z; exact z
theorem Fr.by {k l : Nat} {x y : Int × Int} (hx : Fr k x) (hy : Fr l y) : Fr (k + l) (byQ x y) := by
  have p := fr_mul hx hy
  exact red_fr (by omega) (hx.a.mul hy.a) (hx.b.mul hy.b)
theorem Fr.over {k l : Nat} {x y : Int × Int} (hx : Fr k x) (hy : Fr l y) (h0 : y.1 ≠ 0) : Fr (k + l) (overQ x y) := by
  have p := hx.p
  exact red_fr (Int.mul_ne_zero (by omega) h0) (hx.a.mul hy.b) (hx.b.mul hy.a)
section
variable (hF : 2 ^ 10000 ≤ F)
include hF
theorem fra_ok {a b : Int} {k : Nat} (hb : b ≠ 0) (hs : Sm k b) (hk : k ≤ 8000) (q : Q (fr (red a b)) s) : okX (callD F G (n + 2) 3 [.int a, .int b] s) Q X :=
  fraction_ok hb hs hk (Nat.le_trans (Nat.pow_le_pow_right (by decide) (show k ≤ 10000 by omega)) hF) q
theorem plus_ok {k l : Nat} {x y : Int × Int} (hx : Fr k x) (hy : Fr l y) (hk : k + l ≤ 8000) (q : Q (fr (plusQ x y)) s) : okX (callD F G (n + 3) 18 [fr x, fr y] s) Q X := by
  refine callD_body [some (fr x), some (fr y)] b_plus g_plus rfl rfl rfl ?_
  unfold b_plus fr
  have p := fr_mul hx hy
  array_get_dec
  refine ⟨hx.a.mulOk hy.b (by omega), hy.a.mulOk hx.b (by omega), hx.b.mulOk hy.b (by omega), ?_⟩
  exact fra_ok hF (by omega) (hx.b.mul hy.b) hk q
theorem minus_ok {k l : Nat} {x y : Int × Int} (hx : Fr k x) (hy : Fr l y) (hk : k + l ≤ 8000) (q : Q (fr (minusQ x y)) s) : okX (callD F G (n + 3) 59 [fr x, fr y] s) Q X := by
  refine callD_body [some (fr x), some (fr y)] b_minus g_minus rfl rfl rfl ?_
  unfold b_minus fr
  have p := fr_mul hx hy
  array_get_dec
  refine ⟨hx.a.mulOk hy.b (by omega), hy.a.mulOk hx.b (by omega), hx.b.mulOk hy.b (by omega), ?_⟩
  exact fra_ok hF (by omega) (hx.b.mul hy.b) hk q
theorem by_ok {k l : Nat} {x y : Int × Int} (hx : Fr k x) (hy : Fr l y) (hk : k + l ≤ 8000) (q : Q (fr (byQ x y)) s) : okX (callD F G (n + 3) 19 [fr x, fr y] s) Q X := by
  refine callD_body [some (fr x), some (fr y)] b_by g_by rfl rfl rfl ?_
  unfold b_by fr
  have p := fr_mul hx hy
  array_get_dec
  refine ⟨hx.a.mulOk hy.a (by omega), hx.b.mulOk hy.b (by omega), ?_⟩
  exact fra_ok hF (by omega) (hx.b.mul hy.b) hk q
theorem over_ok {k l : Nat} {x y : Int × Int} (hx : Fr k x) (hy : Fr l y) (h0 : y.1 ≠ 0) (hk : k + l ≤ 8000) (q : Q (fr (overQ x y)) s) : okX (callD F G (n + 3) 20 [fr x, fr y] s) Q X := by
  refine callD_body [some (fr x), some (fr y)] b_over g_over rfl rfl rfl ?_
  unfold b_over fr
  have p := hx.p
  array_get_dec
  refine ⟨hx.a.mulOk hy.b (by omega), hx.b.mulOk hy.a (by omega), ?_⟩
  exact fra_ok hF (Int.mul_ne_zero (by omega) h0) (hx.b.mul hy.a) hk q
end
/-- the sign -/
theorem sign_of_ok {x : Int × Int} (q : Q (.int x.1.sign) s) : okX (callD F G (n + 1) 22 [fr x] s) Q X := by
  refine callD_body [some (fr x)] b_sign_of g_sign_of rfl rfl rfl ?_
  unfold b_sign_of fr
  array_get_dec
  have e : (if decide (0 < x.1) = true then (1 : Int) else 0) - (if decide (x.1 < 0) = true then 1 else 0) = x.1.sign := by
    rcases Int.lt_trichotomy x.1 0 with h | h | h
    · rw [Int.sign_eq_neg_one_of_neg h]
      rw [if_neg (by simp; omega), if_pos (by simpa using h)]; rfl
    · rw [h]; rfl
    · rw [Int.sign_eq_one_of_pos h]
      rw [if_pos (by simpa using h), if_neg (by simp; omega)]; rfl
  rw [e]; exact q
end Dn

end
section
set_option Elab.async false
set_option maxRecDepth 100000
set_option maxHeartbeats 4000000
set_option linter.unusedVariables false
set_option exponentiation.threshold 20000
/-! Pu5: roots. -/
namespace Dn
open PySem
local macro_rules | `(tactic| array_get_dec) => `(tactic| simp only [s_cons, s_nil, s_set, s_par, s_par3, s_ex, s_ret, s_retn, s_ite, s_rai, s_tryo, s_pas, s_brk, s_cnt, s_aug, t_nm, t_tup, t_sub, t_nil, t_cons, w_var, w_cst, w_top, w_bin, w_neg, w_cmp, w_cmp2, w_nt, w_and, w_or, w_ife, w_tup, w_rol, w_lst, w_ix, w_sl, w_call, w_prim, w_app, w_ins, w_bits, w_join, w_frz, w_nil, w_cons, w_no, w_so, c_no, c_so,
  okX_ok, isB_bl, br_true, br_false, o_add, o_sub, o_mul, o_fdiv, o_mod, o_pow, o_shl, o_cat, o_strs, o_rols, o_neg, o_lt, o_le, o_gt, o_ge, o_is, o_isn, o_eq, o_ne, o_in, o_nin, o_t0, o_t1, o_t2, o_t3, o_sl, o_slr, o_len, o_lenr, o_abs, o_int, o_intb, o_tupr, o_tupt, o_listt, o_listr, o_listm, o_isi, o_frzr, cf_self, eq_int,
  List.getElem?_cons_zero, List.getElem?_cons_succ, List.set_cons_zero, List.set_cons_succ, List.length_cons, List.length_nil, Option.some.injEq, exists_eq_left', exists_eq_left, D.int.injEq, D.bl.injEq, D.tup.injEq, and_true, true_and, Nat.zero_add, Nat.reduceAdd, Nat.reduceLT, Nat.lt_irrefl])
variable {F n : Nat} {s : Sto} {Q : D → Sto → Prop} {X : Nat → Sto → Prop}
/-- the whole root -/
def isq : Nat → Nat
  | 0 => 0
  | n + 1 => if (isq n + 1) * (isq n + 1) ≤ n + 1 then isq n + 1 else isq n
theorem isq_spec : ∀ n, isq n * isq n ≤ n ∧ n < (isq n + 1) * (isq n + 1)
  | 0 => by simp [isq]
  | n + 1 => by
    obtain ⟨h1, h2⟩ := isq_spec n
    unfold isq
    split
    · rename_i h
      refine ⟨h, ?_⟩
      have : (isq n + 1 + 1) * (isq n + 1 + 1) = (isq n + 1) * (isq n + 1) + 2 * (isq n + 1) + 1 := by grind
      omega
    · rename_i h
      exact ⟨by omega, by omega⟩
theorem isq_uniq {n r : Nat} (h1 : r * r ≤ n) (h2 : n < (r + 1) * (r + 1)) : isq n = r := by
  obtain ⟨a, b⟩ := isq_spec n
  rcases Nat.lt_trichotomy (isq n) r with h | h | h
  · have : (isq n + 1) * (isq n + 1) ≤ r * r := Nat.mul_le_mul h h
    omega
  · exact h
  · have : (r + 1) * (r + 1) ≤ isq n * isq n := Nat.mul_le_mul h h
    omega
/-- a better guess is still too great, or the root -/
theorem newton {n f : Nat} (hf : 0 < f) : n < ((f + n / f) / 2 + 1) * ((f + n / f) / 2 + 1) := by
  have h1 : n < f * (n / f + 1) := by
    have := Nat.div_add_mod n f
    have := Nat.mod_lt n hf
    rw [Nat.mul_add]; omega
  generalize n / f = q at *
  have h2 : f + q + 1 ≤ 2 * ((f + q) / 2 + 1) := by omega
  generalize (f + q) / 2 + 1 = b at *
  have h3 : (f + q + 1) * (f + q + 1) ≤ (2 * b) * (2 * b) := Nat.mul_le_mul h2 h2
  have h4 : 4 * (f * (q + 1)) ≤ (f + q + 1) * (f + q + 1) := by
    rcases Nat.le_total f (q + 1) with h | h
    · obtain ⟨d, hd⟩ := Nat.exists_eq_add_of_le h
      have : (f + q + 1) * (f + q + 1) = 4 * (f * (q + 1)) + d * d := by
        have e : q + 1 = f + d := hd
        have e2 : f + q + 1 = f + (f + d) := by omega
        rw [e2, e]; grind
      omega
    · obtain ⟨d, hd⟩ := Nat.exists_eq_add_of_le h
      have : (f + q + 1) * (f + q + 1) = 4 * (f * (q + 1)) + d * d := by
        have e2 : f + q + 1 = (q + 1 + d) + (q + 1) := by omega
        rw [e2]
        conv => rhs; rw [hd]
        grind
      omega
  have h5 : (2 * b) * (2 * b) = 4 * (b * b) := by grind
  omega
theorem root_first {n k : Nat} (h : n < 2 ^ (2 * k)) : n < (2 ^ k + 1) * (2 ^ k + 1) := by
  have : 2 ^ (2 * k) = 2 ^ k * 2 ^ k := by rw [Nat.two_mul, Nat.pow_add]
  have : 2 ^ k * 2 ^ k ≤ (2 ^ k + 1) * (2 ^ k + 1) := Nat.mul_le_mul (by omega) (by omega)
  omega
theorem whole_root_ok {x : Nat} {k : Nat} (hx : x < 2 ^ k) (hk : k ≤ 8000) (hF : 2 ^ 10000 ≤ F) (q : Q (.int (isq x : Nat)) s) : okX (callD F G (n + 1) 23 [.int x] s) Q X := by
  refine callD_body [some (.int x), none, none] b_whole_root g_whole_root rfl rfl rfl ?_
  unfold b_whole_root
  array_get_dec
  refine ⟨fun h => ?_, fun h => ?_⟩
  · have hx2 : (x : Int) < 2 := of_decide_eq_true h
    have e : isq x = x := by
      have : x = 0 ∨ x = 1 := by omega
      rcases this with rfl | rfl <;> rfl
    rw [e] at q; exact q
  · have hx2 : ¬ (x : Int) < 2 := of_decide_eq_false h
    simp only [bitsD]
    array_get_dec
    have x0 : x ≠ 0 := by omega
    have eB : Builtin.Int.intBits (x : Int) = x.log2 + 1 := by
      unfold Builtin.Int.intBits
      rw [if_neg (by simp; omega), Int.natAbs_natCast]
    have lk : x.log2 < k := (Nat.log2_lt x0).mpr hx
    have xl : x < 2 ^ (x.log2 + 1) := Nat.lt_log2_self
    obtain ⟨e, he⟩ : ∃ e : Nat, e = (x.log2 + 1 + 1) / 2 := ⟨_, rfl⟩
    have e1 : ((Builtin.Int.intBits (x : Int) : Nat) + 1 : Int).fdiv 2 = (e : Nat) := by
      rw [eB, Int.fdiv_eq_ediv_of_nonneg _ (by decide), he]
      omega
    rw [e1]
    have e2 : (1 * 2 ^ (Int.toNat (e : Nat)) : Int) = ((2 ^ e : Nat) : Int) := by
      rw [Int.one_mul, Int.toNat_natCast]; simp
    rw [e2]
    refine ⟨fdivOk_of (by decide) (lt_pow (a := 60) (by decide) (by decide)), powOk_of (by decide) (by omega), ?_⟩
    have x4 : x < 2 ^ (2 * e) := lt_pow xl (by omega)
    refine s_whl (fun m env s' => ∃ (f : Nat) (z : Option D), env = [some (.int x), some (.int f), z] ∧ f = m ∧ 0 < f ∧ f ≤ 2 ^ e ∧ x < (f + 1) * (f + 1) ∧ s' = s) (m := 2 ^ e) ?_ ⟨2 ^ e, none, rfl, rfl, Nat.two_pow_pos e, Nat.le_refl _, root_first x4, rfl⟩ ?_
    · have : 2 ^ e < 2 ^ 10000 := Nat.pow_lt_pow_right (by decide) (by omega)
      omega
    · rintro m env s' ⟨f, z, rfl, rfl, f0, fe, fx, rfl⟩
      array_get_dec
      have fp : (f : Int) ≠ 0 := by omega
      · have f8 : ((f : Nat) : Int).natAbs < 2 ^ 8000 := by
          rw [Int.natAbs_natCast]
          have : 2 ^ e < 2 ^ 8000 := Nat.pow_lt_pow_right (by decide) (by omega)
          omega
        refine ⟨fdivOk_of fp f8, fdivOk_of (by decide) (lt_pow (a := 60) (by decide) (by decide)), ?_⟩
        have eb : ((f : Int) + (x : Int).fdiv (f : Int)).fdiv 2 = (((f + x / f) / 2 : Nat) : Int) := by
          rw [Int.fdiv_eq_ediv_of_nonneg (x : Int) (b := (f : Int)) (by omega), Int.fdiv_eq_ediv_of_nonneg _ (by decide : (0 : Int) ≤ 2)]
          omega
        rw [eb]
        have nw := newton (n := x) f0
        generalize hb : (f + x / f) / 2 = b at *
        refine ⟨fun h1 => ?_, fun h1 => ?_⟩
        · have h1 : (f : Int) ≤ (b : Int) := of_decide_eq_true h1
          have q1 : f * f ≤ x := by
            have : f ≤ x / f := by omega
            calc f * f ≤ (x / f) * f := Nat.mul_le_mul_right f this
              _ ≤ x := Nat.div_mul_le_self x f
          rw [isq_uniq q1 fx] at q
          exact q
        · have h1 : ¬ (f : Int) ≤ (b : Int) := of_decide_eq_false h1
          refine ⟨b, by omega, b, some (.int b), rfl, rfl, ?_, by omega, nw⟩
          rcases Nat.eq_zero_or_pos b with h0 | h0
          · rw [h0] at nw; omega
          · exact h0
end Dn

end
section
set_option Elab.async false
set_option maxRecDepth 100000
set_option maxHeartbeats 4000000
set_option linter.unusedVariables false
set_option exponentiation.threshold 20000
/-! Pu6: what a fraction is, of any thing. -/
namespace Dn
open PySem
local macro_rules | `(tactic| array_get_dec) => `(tactic| simp only [s_cons, s_nil, s_set, s_par, s_par3, s_ex, s_ret, s_retn, s_ite, s_rai, s_tryo, s_pas, s_brk, s_cnt, s_aug, t_nm, t_tup, t_sub, t_nil, t_cons, w_var, w_cst, w_top, w_bin, w_neg, w_cmp, w_cmp2, w_nt, w_and, w_or, w_ife, w_tup, w_rol, w_lst, w_ix, w_sl, w_call, w_prim, w_app, w_ins, w_bits, w_join, w_frz, w_nil, w_cons, w_no, w_so, c_no, c_so,
  okX_ok, isB_bl, br_true, br_false, o_add, o_sub, o_mul, o_fdiv, o_mod, o_pow, o_shl, o_cat, o_strs, o_rols, o_neg, o_lt, o_le, o_gt, o_ge, o_is, o_isn, o_eq, o_ne, o_in, o_nin, o_t0, o_t1, o_t2, o_t3, o_sl, o_slr, o_len, o_lenr, o_abs, o_int, o_intb, o_tupr, o_tupt, o_listt, o_listr, o_listm, o_isi, o_frzr, cf_self, eq_int,
  List.getElem?_cons_zero, List.getElem?_cons_succ, List.set_cons_zero, List.set_cons_succ, List.length_cons, List.length_nil, Option.some.injEq, exists_eq_left', exists_eq_left, D.int.injEq, D.bl.injEq, D.tup.injEq, and_true, true_and, Nat.zero_add, Nat.reduceAdd, Nat.reduceLT, Nat.lt_irrefl, tysD, tyD, Bool.not_true, Bool.not_false])
variable {F n : Nat} {s : Sto} {Q : D → Sto → Prop} {X : Nat → Sto → Prop}
def sqrtQ (x : Int × Int) : Option (Int × Int) := if x.1 < 0 then none else if ((isq x.1.toNat : Nat) : Int) * (isq x.1.toNat : Nat) = x.1 ∧ ((isq x.2.toNat : Nat) : Int) * (isq x.2.toNat : Nat) = x.2 then some ((isq x.1.toNat : Nat), (isq x.2.toNat : Nat)) else none
def qo : Option (Int × Int) → D
  | none => .non
  | some r => fr r
theorem square_root_ok {x : Int × Int} {k : Nat} (hx : Fr k x) (hk : k ≤ 8000) (hF : 2 ^ 10000 ≤ F) (q : Q (qo (sqrtQ x)) s) : okX (callD F G (n + 2) 24 [fr x] s) Q X := by
  refine callD_body [some (fr x), none, none] b_square_root g_square_root rfl rfl rfl ?_
  unfold b_square_root fr
  array_get_dec
  refine ⟨fun h => ?_, fun h => ?_⟩
  · have h : x.1 < 0 := of_decide_eq_true h
    unfold sqrtQ at q
    rw [if_pos h] at q
    exact q
  · have h : ¬ x.1 < 0 := of_decide_eq_false h
    obtain ⟨a, ha⟩ : ∃ a : Nat, x.1 = (a : Int) := ⟨x.1.toNat, by omega⟩
    obtain ⟨b, hb⟩ : ∃ b : Nat, x.2 = (b : Int) := ⟨x.2.toNat, by have := hx.p; omega⟩
    have sa : a < 2 ^ k := by have := hx.a; unfold Sm at this; rw [ha] at this; simpa using this
    have sb : b < 2 ^ k := by have := hx.b; unfold Sm at this; rw [hb] at this; simpa using this
    unfold sqrtQ at q
    rw [if_neg h, ha, hb] at q
    simp only [Int.toNat_natCast] at q
    rw [ha, hb]
    refine whole_root_ok sa hk hF ?_
    refine whole_root_ok sb hk hF ?_
    array_get_dec
    have sm : ∀ c : Nat, c < 2 ^ k → Sm k ((isq c : Nat) : Int) := fun c hc => by
      unfold Sm
      rw [Int.natAbs_natCast]
      have := (isq_spec c).1
      rcases Nat.eq_zero_or_pos (isq c) with z | z
      · rw [z]; exact Nat.two_pow_pos k
      · have : isq c ≤ isq c * isq c := Nat.le_mul_of_pos_left _ z
        omega
    refine ⟨(sm a sa).mulOk (sm a sa) (by omega), ?_⟩
    refine ⟨fun h1 => ?_, fun h1 => ?_⟩
    · have h1 := of_decide_eq_true h1
      refine ⟨(sm b sb).mulOk (sm b sb) (by omega), ?_⟩
      refine ⟨fun h2 => ?_, fun h2 => ?_⟩
      · have h2 := of_decide_eq_true h2
        rw [if_pos ⟨h1, h2⟩] at q
        exact ⟨by decide, q⟩
      · rw [if_neg (fun z => (of_decide_eq_false h2) z.2)] at q
        exact q
    · rw [if_neg (fun z => (of_decide_eq_false h1) z.1)] at q
      exact q
/-- neither a list that is changed nor an instance -/
def flat : D → Prop
  | .lst _ => False
  | .obj _ => False
  | _ => True
def isInt : D → Bool
  | .int _ => true
  | _ => false
theorem is_whole_ok {x : D} (hx : flat x) (q : Q (.bl (isInt x)) s) : okX (callD F G (n + 1) 0 [x] s) Q X := by
  refine callD_body [some x] b_is_whole g_is_whole rfl rfl rfl ?_
  unfold b_is_whole
  cases x <;> first | exact hx.elim | (array_get_dec; exact q)
theorem law_whole_ok {x : D} (hx : flat x) (q : Q (.bl (isInt x)) s) : okX (callD F G (n + 1) 6 [x] s) Q X := by
  refine callD_body [some x] b_law_whole g_law_whole rfl rfl rfl ?_
  unfold b_law_whole
  cases x <;> first | exact hx.elim | (array_get_dec; exact q)
/-- a thing whose first parts may be looked at -/
def okT (k : Nat) : D → Prop
  | .lst _ => False
  | .obj _ => False
  | .tup xs => ∀ y ∈ xs, flat y ∧ ∀ i, y = .int i → Sm k i
  | _ => True
def isFr : D → Bool
  | .tup [.int a, .int b] => decide (0 < b) && decide (Int.gcd a b = 1)
  | _ => false
def pair? : D → Option (D × D)
  | .tup [a, b] => some (a, b)
  | _ => none
/-- what is_fraction and its twin of the law begin with -/
theorem two_or (x : D) : (∃ a b, x = .tup [a, b]) ∨ (∃ xs, x = .tup xs ∧ xs.length ≠ 2) ∨ (∀ xs, x ≠ .tup xs) := by
  cases x with
  | tup xs =>
    by_cases h : xs.length = 2
    · match xs, h with
      | [a, b], _ => exact .inl ⟨a, b, rfl⟩
    · exact .inr (.inl ⟨xs, rfl, h⟩)
  | _ => exact .inr (.inr fun _ z => nomatch z)
theorem lens {xs : List D} (h : xs.length ≠ 2) : (!decide ((xs.length : Int) = ((2 : Nat) : Int))) = true := by
  have : ¬ (xs.length : Int) = ((2 : Nat) : Int) := by omega
  rw [decide_eq_false this]; rfl
theorem isFr_other {x : D} (h : ∀ a b, x ≠ .tup [a, b]) : isFr x = false := by
  unfold isFr
  split
  · exact absurd rfl (h _ _)
  · rfl
theorem isi_tup {x : D} (hx : flat x) : tysD s x [.tuple] = some (match x with | .tup _ => true | _ => false) := by
  cases x <;> first | exact hx.elim | rfl
theorem ii {a : Int} : (!isInt (.int a)) = false := rfl
theorem is_fraction_ok {x : D} {k : Nat} (hx : okT k x) (hk : k ≤ 8000) (hF : 2 ^ 10000 ≤ F) (q : Q (.bl (isFr x)) s) : okX (callD F G (n + 2) 2 [x] s) Q X := by
  refine callD_body [some x] b_is_fraction g_is_fraction rfl rfl rfl ?_
  unfold b_is_fraction
  rcases two_or x with ⟨a, b, rfl⟩ | ⟨xs, rfl, hl⟩ | hn
  · array_get_dec
    rw [show (!decide (((2 : Nat) : Int) = 2)) = false from rfl, br_false]
    have ha := hx a (by simp)
    have hb := hx b (by simp)
    refine is_whole_ok ha.1 ?_
    array_get_dec
    cases a <;> first | exact ha.1.elim | skip
    case int a =>
      rw [ii, br_false]
      refine is_whole_ok hb.1 ?_
      array_get_dec
      cases b <;> first | exact hb.1.elim | skip
      case int b =>
        rw [ii, br_false]
        array_get_dec
        have sb := hb.2 b rfl
        simp only [isFr] at q
        refine ⟨fun h => ?_, fun h => ?_⟩
        · have bl : b.natAbs < 2 ^ 10000 := lt_pow sb (by omega)
          refine divisor_ok (by omega) ?_
          array_get_dec
          rw [h, Bool.true_and] at q
          have e : decide (((Int.gcd a b : Nat) : Int) = 1) = decide (Int.gcd a b = 1) := by
            by_cases z : Int.gcd a b = 1
            · rw [z]; rfl
            · rw [decide_eq_false z, decide_eq_false (by omega)]
          rw [e]; exact q
        · rw [h, Bool.false_and] at q
          exact q
      all_goals
        first
        | (simp only [isInt, Bool.not_false, br_true, isFr] at q ⊢; exact q)
    all_goals
      first
      | (simp only [isInt, Bool.not_false, br_true, isFr] at q ⊢; exact q)
  · rw [isFr_other (fun a b z => hl (by cases z; rfl))] at q
    array_get_dec
    have z := lens hl
    refine ⟨fun _ => q, fun h => ?_⟩
    exfalso
    have : (!decide ((xs.length : Int) = 2)) = true := z
    rw [this] at h; cases h
  · rw [isFr_other (fun a b => hn _)] at q
    cases x <;> first | exact hx.elim | exact absurd rfl (hn _) | (array_get_dec; exact q)
end Dn

end
section
set_option Elab.async false
set_option maxRecDepth 100000
set_option maxHeartbeats 4000000
set_option linter.unusedVariables false
set_option exponentiation.threshold 20000
/-! Pu7: decks, choices, the law's own fractions. -/
namespace Dn
open PySem
local macro_rules | `(tactic| array_get_dec) => `(tactic| simp only [s_cons, s_nil, s_set, s_par, s_par3, s_ex, s_ret, s_retn, s_ite, s_rai, s_tryo, s_pas, s_brk, s_cnt, s_aug, t_nm, t_tup, t_sub, t_nil, t_cons, w_var, w_cst, w_top, w_bin, w_neg, w_cmp, w_cmp2, w_nt, w_and, w_or, w_ife, w_tup, w_rol, w_lst, w_ix, w_sl, w_call, w_prim, w_app, w_ins, w_bits, w_join, w_frz, w_nil, w_cons, w_no, w_so, c_no, c_so,
  okX_ok, isB_bl, br_true, br_false, o_add, o_sub, o_mul, o_fdiv, o_mod, o_pow, o_shl, o_cat, o_strs, o_rols, o_neg, o_lt, o_le, o_gt, o_ge, o_is, o_isn, o_eq, o_ne, o_in, o_nin, o_t0, o_t1, o_t2, o_t3, o_sl, o_slr, o_len, o_lenr, o_abs, o_int, o_intb, o_tupr, o_tupt, o_listt, o_listr, o_listm, o_isi, o_frzr, cf_self, eq_int,
  List.getElem?_cons_zero, List.getElem?_cons_succ, List.set_cons_zero, List.set_cons_succ, List.length_cons, List.length_nil, Option.some.injEq, exists_eq_left', exists_eq_left, D.int.injEq, D.bl.injEq, D.tup.injEq, and_true, true_and, Nat.zero_add, Nat.reduceAdd, Nat.reduceLT, Nat.lt_irrefl, tysD, tyD, Bool.not_true, Bool.not_false])
variable {F n : Nat} {s : Sto} {Q : D → Sto → Prop} {X : Nat → Sto → Prop}
variable {F n : Nat} {s : Sto} {Q : D → Sto → Prop} {X : Nat → Sto → Prop}
theorem Deck.le {j k l : Nat} (h : Deck s j k) (hl : k ≤ l) : Deck s j l := by
  obtain ⟨a, b, t, h0, h1, h2, h3, h4, h5⟩ := h
  exact ⟨a, b, t, h0, h1, h2, h3, h4, by omega⟩
theorem deck_ok {c t : Int} (h0 : 0 ≤ t) (q : ∀ s' : Sto, Deck s' s.length t.toNat → (∀ (i : Nat) (x : Cell), s[i]? = some x → s'[i]? = some x) → Q (.lst s.length) s') : okX (callD F G (n + 1) 4 [.int c, .int t] s) Q X := by
  refine callD_body [some (.int c), some (.int t)] b_law_deck g_law_deck rfl rfl rfl ?_
  unfold b_law_deck
  array_get_dec
  have m0 : 0 ≤ c.fmod 2147483579 := Int.fmod_nonneg_of_pos c (by decide)
  have m1 : c.fmod 2147483579 < 2147483579 := Int.fmod_lt_of_pos c (by decide)
  have new : ∀ a : Int, 0 ≤ a → Q (.lst s.length) (s ++ [.lst [.int a, .int (c.fmod 2147483579), .int t]]) := fun a ha =>
    q _ ⟨a, c.fmod 2147483579, t, by rw [List.getElem?_append_right (Nat.le_refl _)]; simp, ha, m0, m1, h0, by omega⟩ fun i x e => by
      rw [List.getElem?_append_left (List.getElem?_eq_some_iff.mp e).1]; exact e
  have p18 : powOk 10 18 = true := by decide
  refine ⟨p18, fun h => ?_, fun h => ?_⟩
  · have h : (10 : Int) ^ Int.toNat 18 ≤ c := of_decide_eq_true h
    exact ⟨p18, by decide, by decide, new _ (by omega)⟩
  · exact ⟨by decide, by decide, new _ (by decide)⟩
theorem one_ok {j k : Nat} {xs : List D} (hd : Deck s j k) (hk : k < 2 ^ 30) (hx : xs ≠ []) (hl : xs.length < 2 ^ 59) (q : ∀ y s', y ∈ xs → Deck s' j (k + 1) → Keep j s s' → Q y s') : okX (callD F G (n + 2) 7 [.lst j, .rol xs] s) Q X := by
  refine callD_body [some (.lst j), some (.rol xs)] b_law_one g_law_one rfl rfl rfl ?_
  unfold b_law_one
  array_get_dec
  have l0 : xs.length ≠ 0 := fun z => hx (List.eq_nil_of_length_eq_zero z)
  refine pick_ok hd (by omega) (by omega) hk fun r s' h0 h1 hd' kp => ?_
  obtain ⟨i, rfl⟩ : ∃ i : Nat, r = (i : Int) := ⟨r.toNat, by omega⟩
  have hi : i < xs.length := by omega
  have e : xs[i]? = some xs[i] := List.getElem?_eq_getElem hi
  rw [o_ixr e]
  exact q _ _ (List.getElem_mem hi) hd' kp
theorem frac_ok {a b : Int} {k : Nat} (hb : b ≠ 0) (ha : Sm k a) (hs : Sm k b) (hk : k ≤ 8000) (hF : 2 ^ 10000 ≤ F) (q : Q (fr (red a b)) s) : okX (callD F G (n + 1) 14 [.int a, .int b] s) Q X := by
  refine callD_body [some (.int a), some (.int b), none, none, none, none] b_law_frac g_law_frac rfl rfl rfl ?_
  unfold b_law_frac
  array_get_dec
  have bF : b.natAbs < F := Nat.lt_of_lt_of_le (lt_pow hs (show k ≤ 10000 by omega)) hF
  refine s_whl (fun m e s' => ∃ (x y : Nat) (z : Option D), e = [some (.int a), some (.int b), some (.int x), some (.int y), z, none] ∧ y = m ∧ Nat.gcd x y = Int.gcd a b ∧ s' = s) (m := b.natAbs) bF ⟨a.natAbs, b.natAbs, none, ?_, rfl, rfl, rfl⟩ ?_
  · rw [show (if a < 0 then -a else a) = (a.natAbs : Int) from absI_eq a, show (if b < 0 then -b else b) = (b.natAbs : Int) from absI_eq b]
  · rintro m e s' ⟨x, y, z, rfl, rfl, hg, rfl⟩
    array_get_dec
    refine ⟨fun h => ?_, fun h => ?_⟩
    · have h : (0 : Int) < (y : Int) := of_decide_eq_true h
      have hy : y ≠ 0 := by omega
      refine ⟨by omega, x % y, Nat.mod_lt x (by omega), y, x % y, some (.int ((x % y : Nat) : Int)), ?_, rfl, ?_⟩
      · rw [fmod_nat x y hy]
      · rw [gcd_step x y hy]; exact hg
    · have h : ¬ (0 : Int) < (y : Int) := of_decide_eq_false h
      have hy : y = 0 := by omega
      subst hy
      rw [Nat.gcd_zero_right] at hg
      have g0 := gcd_ne (a := a) hb
      have gl := gcd_lt (a := a) hb hs
      have sg : (b.sign * a / ((Int.gcd a b : Nat) : Int)) = (red a b).1 := rfl
      obtain ⟨σ, hσ, hs1, hs2⟩ : ∃ σ : Int, σ = b.sign ∧ σ.natAbs = 1 ∧ σ * b = b.natAbs := ⟨b.sign, rfl, by rw [Int.natAbs_sign, if_neg hb], sign_self b⟩
      have fin : mulOk σ a = true ∧ fdivOk (σ * a) (x : Int) = true ∧ mulOk σ b = true ∧ fdivOk (σ * b) (x : Int) = true ∧ lineOk 2 = true ∧ Q (.tup [.int ((σ * a).fdiv (x : Int)), .int ((σ * b).fdiv (x : Int))]) s' := by
        have s1 : Sm 1 σ := by unfold Sm; omega
        have x8 : ((x : Nat) : Int).natAbs < 2 ^ 8000 := by rw [Int.natAbs_natCast, hg]; exact lt_pow gl (by omega)
        refine ⟨s1.mulOk ha (by omega), fdivOk_of (by omega) x8, s1.mulOk hs (by omega), fdivOk_of (by omega) x8, by decide, ?_⟩
        have da : ((x : Nat) : Int) ∣ σ * a := by rw [hg]; exact Int.dvd_trans (Int.gcd_dvd_left a b) ⟨σ, Int.mul_comm σ a⟩
        have db : ((x : Nat) : Int) ∣ σ * b := by rw [hg]; exact Int.dvd_trans (Int.gcd_dvd_right a b) ⟨σ, Int.mul_comm σ b⟩
        rw [fdiv_dvd da, fdiv_dvd db, hs2, hσ, hg]
        exact q
      refine ⟨fun h => ?_, fun h => ?_⟩
      · have h : 0 < b := of_decide_eq_true h
        rw [Int.sign_eq_one_of_pos h] at hσ
        subst hσ
        exact fin
      · have h : ¬ 0 < b := of_decide_eq_false h
        rw [Int.sign_eq_neg_one_of_neg (by omega)] at hσ
        subst hσ
        exact fin
end Dn

end
section
set_option Elab.async false
set_option maxRecDepth 100000
set_option maxHeartbeats 400000
set_option linter.unusedVariables false
set_option exponentiation.threshold 20000
/-! Pu8: odd things, things spoilt. -/
namespace Dn
open PySem
local macro_rules | `(tactic| array_get_dec) => `(tactic| simp only [s_cons, s_nil, s_set, s_par, s_par3, s_ex, s_ret, s_retn, s_ite, s_rai, s_tryo, s_pas, s_brk, s_cnt, s_aug, t_nm, t_tup, t_sub, t_nil, t_cons, w_var, w_cst, w_top, w_bin, w_neg, w_cmp, w_cmp2, w_nt, w_and, w_or, w_ife, w_tup, w_rol, w_lst, w_ix, w_sl, w_call, w_prim, w_app, w_ins, w_bits, w_join, w_frz, w_nil, w_cons, w_no, w_so, c_no, c_so,
  okX_ok, isB_bl, br_true, br_false, o_add, o_sub, o_mul, o_fdiv, o_mod, o_pow, o_shl, o_cat, o_strs, o_rols, o_neg, o_lt, o_le, o_gt, o_ge, o_is, o_isn, o_eq, o_ne, o_in, o_nin, o_t0, o_t1, o_t2, o_t3, o_sl, o_slr, o_len, o_lenr, o_abs, o_int, o_intb, o_tupr, o_tupt, o_listt, o_listr, o_listm, o_isi, o_frzr, cf_self, eq_int,
  List.getElem?_cons_zero, List.getElem?_cons_succ, List.set_cons_zero, List.set_cons_succ, List.length_cons, List.length_nil, Option.some.injEq, exists_eq_left', exists_eq_left, D.int.injEq, D.bl.injEq, D.tup.injEq, and_true, true_and, Nat.zero_add, Nat.reduceAdd, Nat.reduceLT, Nat.lt_irrefl, tysD, tyD, Bool.not_true, Bool.not_false])
variable {F n : Nat} {s : Sto} {Q : D → Sto → Prop} {X : Nat → Sto → Prop}
/-- a thing of so deep, whose numbers are of so many bits, whose tuples and lists are of so many parts -/
def thB (k m : Nat) : Nat → D → Bool
  | _, .non => true
  | _, .bl _ => true
  | _, .int i => decide (i.natAbs < 2 ^ k)
  | _, .str z => decide (z.cps.size ≤ 20) && z.cps.all (· < 0x110000)
  | d + 1, .tup xs => decide (xs.length ≤ m) && xs.all (thB k m d)
  | d + 1, .rol xs => decide (xs.length ≤ m) && xs.all (thB k m d)
  | _, _ => false
theorem thB_mono {k k' m m' : Nat} (hk : k ≤ k') (hm : m ≤ m') : ∀ {d d' : Nat} {x : D}, d ≤ d' → thB k m d x = true → thB k' m' d' x = true := by
  intro d
  induction d with
  | zero =>
    intro d' x hd h
    cases x with
    | non => cases d' <;> rfl
    | bl b => cases d' <;> rfl
    | int i => simp only [thB, decide_eq_true_eq] at h ⊢; exact lt_pow h hk
    | str z => simp only [thB] at h ⊢; exact h
    | _ => simp only [thB] at h; cases h
  | succ d ih =>
    intro d' x hd h
    cases d' with
    | zero => omega
    | succ d' =>
      cases x with
      | non => rfl
      | bl b => rfl
      | int i => simp only [thB, decide_eq_true_eq] at h ⊢; exact lt_pow h hk
      | str z => simp only [thB] at h ⊢; exact h
      | tup xs =>
        simp only [thB, Bool.and_eq_true, decide_eq_true_eq, List.all_eq_true] at h ⊢
        exact ⟨by omega, fun y hy => ih (by omega) (h.2 y hy)⟩
      | rol xs =>
        simp only [thB, Bool.and_eq_true, decide_eq_true_eq, List.all_eq_true] at h ⊢
        exact ⟨by omega, fun y hy => ih (by omega) (h.2 y hy)⟩
      | lst i => simp only [thB] at h; cases h
      | obj i => simp only [thB] at h; cases h
theorem thB_flat {k m d : Nat} {x : D} (h : thB k m d x = true) : flat x := by
  cases x <;> first | trivial | (cases d <;> (simp only [thB] at h; cases h))
theorem thB_okT {k m d : Nat} {x : D} (h : thB k m d x = true) : okT k x := by
  cases x with
  | tup xs =>
    cases d with
    | zero => simp only [thB] at h; cases h
    | succ d =>
      simp only [thB, Bool.and_eq_true, List.all_eq_true] at h
      intro y hy
      have q := h.2 y hy
      exact ⟨thB_flat q, fun i e => by subst e; cases d <;> (simp only [thB, decide_eq_true_eq] at q; exact q)⟩
  | lst i => exact thB_flat h
  | obj i => exact thB_flat h
  | _ => trivial
theorem odd_ok {j c : Nat} (hd : Deck s j c) (hc : c < 2 ^ 29) (q : ∀ y s', thB 130 4 3 y = true → Deck s' j (c + 1) → Keep j s s' → Q y s') : okX (callD F G (n + 3) 12 [.lst j] s) Q X := by
  refine callD_body [some (.lst j), none] b_law_odd g_law_odd rfl rfl rfl ?_
  unfold b_law_odd
  array_get_dec
  iterate 25 (refine ⟨by decide, ?_⟩)
  refine one_ok hd (by omega) (by simp) (by simp) fun y s' hy hd' kp => q y s' ?_ hd' kp
  exact List.all_eq_true.mp (by decide +kernel) y hy
theorem o_sll {p : Nat} {xs : List D} {l u : Option Int} (h : s[p]? = some (.lst xs)) : okX (slD s (.lst p) l u) Q X = Q (.rol (cut xs l u)) s := by
  simp only [slD, listOf, h]; rfl
theorem o_lenl {p : Nat} {xs : List D} (h : s[p]? = some (.lst xs)) : okX (primD .len [.lst p] s) Q X = Q (.int xs.length) s := by
  simp only [primD, seqOf, listOf, h]; rfl
theorem o_tupl {p : Nat} {xs : List D} (h : s[p]? = some (.lst xs)) : okX (primD .tuple [.lst p] s) Q X = Q (.tup xs) s := by
  simp only [primD, seqOf, listOf, h]; rfl
theorem cut_mem {α : Type} {xs : List α} {l u : Option Int} {y : α} (h : y ∈ cut xs l u) : y ∈ xs := List.mem_of_mem_drop (List.mem_of_mem_take h)
theorem cut_len {α : Type} {xs : List α} {l u : Option Int} : (cut xs l u).length ≤ xs.length := by
  unfold cut
  rw [List.length_take, List.length_drop]
  omega
theorem Deck.push {j c : Nat} {x : Cell} (h : Deck s j c) : Deck (s ++ [x]) j c := by
  obtain ⟨a, b, t, h0, r⟩ := h
  exact ⟨a, b, t, by rw [List.getElem?_append_left (List.getElem?_eq_some_iff.mp h0).1]; exact h0, r⟩
theorem Keep.push {j : Nat} {x : Cell} : Keep j s (s ++ [x]) := fun i c _ e => by rw [List.getElem?_append_left (List.getElem?_eq_some_iff.mp e).1]; exact e
theorem Deck.lt {j c : Nat} (h : Deck s j c) : j < s.length := by
  obtain ⟨a, b, t, h0, r⟩ := h
  exact (List.getElem?_eq_some_iff.mp h0).1
theorem Deck.setp {j c p : Nat} {x : Cell} (h : Deck s j c) (hp : p ≠ j) : Deck (s.set p x) j c := by
  obtain ⟨a, b, t, h0, r⟩ := h
  exact ⟨a, b, t, by rw [List.getElem?_set_ne hp]; exact h0, r⟩
/-- cells ahead of p stand -/
def Kept (j p : Nat) (s s' : Sto) : Prop := ∀ i c, i ≠ j → i < p → s[i]? = some c → s'[i]? = some c
def b_leaf : Ss := .cons (.ite (.and (.call 6 (.cons (.var 1) .nil)) (.cmp .eq (.call 5 (.cons (.var 0) (.cons (.cst (.int 2)) .nil))) (.cst (.int 0)))) (.cons (.ret (.bin .add (.var 1) (.call 7 (.cons (.var 0) (.cons (.lst false (.cons (.cst (.int 1)) (.cons (.neg (.cst (.int 1))) (.cons (.cst (.int 2)) (.cons (.bin .mul (.neg (.cst (.int 2))) (.var 1)) .nil))))) .nil))))) .nil) .nil) (.cons (.ret (.call 12 (.cons (.var 0) .nil))) .nil)
theorem leaf_ok {j c k m d : Nat} {x : D} {K : Pt} {r : List (Option D)} (hx : thB k m d x = true) (hk : 130 ≤ k) (hk2 : k ≤ 3000) (hm : 4 ≤ m) (hd : Deck s j c) (hc : c + 10 < 2 ^ 29)
    (q : ∀ y s', thB (k + 2) (3 * m) (d + 3) y = true → Deck s' j (c + 3) → Keep j s s' → K.rt y s') (hK : K.ex = fun c _ s1 => X c s1) : okS (denSs F (callT F G (n + 4)) (n + 4) b_leaf (some (.lst j) :: some x :: r) s) K := by
  unfold b_leaf
  array_get_dec
  rw [hK]
  refine law_whole_ok (thB_flat hx) ?_
  have odd : ∀ s' c', Deck s' j c' → c' ≤ c + 1 → Keep j s s' → okX (callD F G (n + 4) 12 [.lst j] s') (fun d s1 => K.rt d s1) X := fun s' c' h h1 kp =>
    odd_ok (n := n + 1) h (by omega) fun y s2 hy h2 kp2 => q y s2 (thB_mono (by omega) (by omega) (by omega) hy) (h2.le (by omega)) (kp.trans kp2)
  array_get_dec
  refine ⟨fun h => ?_, fun _ => odd s c hd (by omega) (.refl _ _)⟩
  cases x <;> first | (cases h; done) | skip
  rename_i i
  refine pick_ok hd (by decide) (by decide) (by omega) fun r1 s1 _ _ hd1 kp1 => ?_
  array_get_dec
  have si : Sm k i := by cases d <;> (simp only [thB, decide_eq_true_eq] at hx; exact hx)
  refine ⟨fun _ => ?_, fun _ => odd s1 _ hd1 (by omega) kp1⟩
  refine ⟨Sm.mulOk (k := 2) (show (2 : Nat) < 2 ^ 2 by decide) si (by omega), by decide, ?_⟩
  refine one_ok hd1 (by omega) (by simp) (by simp) fun y s2 hy hd2 kp2 => ?_
  simp only [List.mem_cons, List.not_mem_nil, or_false] at hy
  have fin : ∀ z : Int, Sm (k + 2) (i + z) → okX (binD .add (.int i) (.int z) s2) (fun d s1 => K.rt d s1) X := fun z hz => by
    rw [o_add]
    exact q _ _ (by cases d <;> (simp only [thB, decide_eq_true_eq]; exact hz)) (hd2.le (by omega)) (kp1.trans kp2)
  have sml : ∀ z : Int, z.natAbs < 4 → Sm (k + 2) (i + z) := fun z hz => by
    have : Sm k z := lt_pow (a := 2) (by omega) (by omega)
    exact (Sm.add si this).le (by omega)
  rcases hy with rfl | rfl | rfl | rfl
  · exact fin _ (sml _ (by decide))
  · exact fin _ (sml _ (by decide))
  · exact fin _ (sml _ (by decide))
  · refine fin _ ?_
    have e : i + -2 * i = -i := by omega
    rw [e]; exact si.neg.le (by omega)
end Dn

end
section
set_option Elab.async false
set_option maxRecDepth 100000
set_option maxHeartbeats 400000
set_option linter.unusedVariables false
set_option exponentiation.threshold 20000
/-! Pu9: things spoilt. -/
namespace Dn
open PySem
local macro_rules | `(tactic| array_get_dec) => `(tactic| simp only [s_cons, s_nil, s_set, s_par, s_par3, s_ex, s_ret, s_retn, s_ite, s_rai, s_tryo, s_pas, s_brk, s_cnt, s_aug, t_nm, t_tup, t_sub, t_nil, t_cons, w_var, w_cst, w_top, w_bin, w_neg, w_cmp, w_cmp2, w_nt, w_and, w_or, w_ife, w_tup, w_rol, w_lst, w_ix, w_sl, w_call, w_prim, w_app, w_ins, w_bits, w_join, w_frz, w_nil, w_cons, w_no, w_so, c_no, c_so,
  okX_ok, isB_bl, br_true, br_false, o_add, o_sub, o_mul, o_fdiv, o_mod, o_pow, o_shl, o_cat, o_strs, o_rols, o_neg, o_lt, o_le, o_gt, o_ge, o_is, o_isn, o_eq, o_ne, o_in, o_nin, o_t0, o_t1, o_t2, o_t3, o_sl, o_slr, o_len, o_lenr, o_abs, o_int, o_intb, o_tupr, o_tupt, o_listt, o_listr, o_listm, o_isi, o_frzr, cf_self, eq_int,
  List.getElem?_cons_zero, List.getElem?_cons_succ, List.set_cons_zero, List.set_cons_succ, List.length_cons, List.length_nil, Option.some.injEq, exists_eq_left', exists_eq_left, D.int.injEq, D.bl.injEq, D.tup.injEq, and_true, true_and, Nat.zero_add, Nat.reduceAdd, Nat.reduceLT, Nat.lt_irrefl, tysD, tyD, Bool.not_true, Bool.not_false])
variable {F n : Nat} {s : Sto} {Q : D → Sto → Prop} {X : Nat → Sto → Prop}
theorem parts_of {k m d : Nat} {x : D} {xs : List D} (hx : thB k m d x = true) (h : x = .tup xs ∨ x = .rol xs) : ∃ d', d = d' + 1 ∧ xs.length ≤ m ∧ ∀ y ∈ xs, thB k m d' y = true := by
  cases d with
  | zero => rcases h with rfl | rfl <;> (simp only [thB] at hx; cases hx)
  | succ d => rcases h with rfl | rfl <;> (simp only [thB, Bool.and_eq_true, decide_eq_true_eq, List.all_eq_true] at hx; exact ⟨d, rfl, hx.1, hx.2⟩)
/-- parts put together anew -/
theorem thB_parts {k m d k' m' d' : Nat} {xs : List D} (hk : k ≤ k') (hm : m ≤ m') (hd : d ≤ d') (hl : xs.length ≤ m') (h : ∀ y ∈ xs, thB k m d y = true) : thB k' m' (d' + 1) (.tup xs) = true ∧ thB k' m' (d' + 1) (.rol xs) = true := by
  have q : xs.all (thB k' m' d') = true := List.all_eq_true.mpr fun y hy => thB_mono hk hm hd (h y hy)
  simp only [thB, q, decide_eq_true hl]; exact ⟨rfl, rfl⟩
def c_sp : E := .or (.nt (.prim (.isi [.tuple, .list]) (.cons (.var 1) .nil))) (.or (.cmp .eq (.prim .len (.cons (.var 1) .nil)) (.cst (.int 0))) (.cmp .eq (.call 5 (.cons (.var 0) (.cons (.cst (.int 6)) .nil))) (.cst (.int 0))))
def b_last : Ss := .cons (.ret (.ife (.prim (.isi [.tuple]) (.cons (.var 1) .nil)) (.prim .tuple (.cons (.var 2) .nil)) (.frz (.var 2)))) .nil
def st_br : S := .ite (.cmp .eq (.var 4) (.cst (.int 0))) (.cons (.set (.nm 2) (.bin .add (.sl (.var 2) .no (.so (.var 3))) (.sl (.var 2) (.so (.bin .add (.var 3) (.cst (.int 1)))) .no))) .nil) (.cons (.ite (.cmp .eq (.var 4) (.cst (.int 1))) (.cons (.set (.nm 2) (.bin .add (.bin .add (.sl (.var 2) .no (.so (.var 3))) (.sl (.var 2) (.so (.var 3)) (.so (.bin .add (.var 3) (.cst (.int 1)))))) (.sl (.var 2) (.so (.var 3)) .no))) .nil) (.cons (.ite (.cmp .eq (.var 4) (.cst (.int 2))) (.cons (.set (.nm 2) (.bin .add (.sl (.var 2) (.so (.var 3)) .no) (.sl (.var 2) .no (.so (.var 3))))) .nil) (.cons (.ite (.cmp .eq (.var 4) (.cst (.int 3))) (.cons (.ret (.ife (.prim (.isi [.tuple]) (.cons (.var 1) .nil)) (.prim .list (.cons (.var 1) .nil)) (.prim .tuple (.cons (.var 1) .nil)))) .nil) (.cons (.set (.sub (.var 2) (.var 3)) (.call 13 (.cons (.var 0) (.cons (.ix (.var 2) (.var 3)) .nil)))) .nil)) .nil)) .nil)) .nil)
def b_rest : Ss := .cons (.set (.nm 2) (.prim .listm (.cons (.var 1) .nil))) (.cons (.set (.nm 3) (.call 5 (.cons (.var 0) (.cons (.prim .len (.cons (.var 2) .nil)) .nil)))) (.cons (.set (.nm 4) (.call 5 (.cons (.var 0) (.cons (.cst (.int 10)) .nil)))) (.cons st_br b_last)))
theorem spoilt_is : b_law_spoilt = .cons (.ite c_sp b_leaf .nil) b_rest := rfl
theorem last_rol {nn : Nat} {cf : Cf} {x : D} {xs ys : List D} {d0 : Option D} {r : List (Option D)} {K : Pt} (h : x = .tup xs ∨ x = .rol xs) (q1 : K.rt (.tup ys) s) (q2 : K.rt (.rol ys) s) : okS (denSs F cf nn b_last (d0 :: some x :: some (.rol ys) :: r) s) K := by
  unfold b_last
  array_get_dec
  rcases h with rfl | rfl
  · array_get_dec; exact q1
  · array_get_dec; exact q2
theorem last_lst {nn : Nat} {cf : Cf} {x : D} {xs ys : List D} {p : Nat} {d0 : Option D} {r : List (Option D)} {K : Pt} (h : x = .tup xs ∨ x = .rol xs) (hs : s[p]? = some (.lst ys)) (q1 : K.rt (.tup ys) s) (q2 : K.rt (.rol ys) (s.set p .dead)) : okS (denSs F cf nn b_last (d0 :: some x :: some (.lst p) :: r) s) K := by
  unfold b_last
  array_get_dec
  rcases h with rfl | rfl
  · array_get_dec; rw [o_tupl hs]; exact q1
  · array_get_dec; rw [o_frzl hs]; exact q2
theorem rest_ok {j k m d c : Nat} (hk : 130 ≤ k) (hk2 : k ≤ 3000) (hm : 4 ≤ m) (hm2 : m ≤ 1000) {x : D} {xs : List D} {K : Pt} (hx : x = .tup xs ∨ x = .rol xs) (h0 : xs ≠ []) (hl : xs.length ≤ m) (he : ∀ y ∈ xs, thB k m d y = true) (hd : Deck s j c) (hc : c + 10 * (d + 1) + 8 < 2 ^ 29)
    (ih : ∀ {y : D} {c : Nat} {s : Sto} {Q : D → Sto → Prop} {X : Nat → Sto → Prop}, thB k m d y = true → Deck s j c → c + 10 * (d + 1) < 2 ^ 29 → (∀ y s', thB (k + 2) (3 * m) (d + 3) y = true → Deck s' j (c + 8 * (d + 1)) → Keep j s s' → Q y s') → okX (callD F G (n + d + 5) 13 [.lst j, y] s) Q X)
    (q : ∀ y s', thB (k + 2) (3 * m) (d + 4) y = true → Deck s' j (c + 8 * (d + 1) + 4) → Keep j s s' → K.rt y s') (hK : K.ex = fun c _ s1 => X c s1) :
    okS (denSs F (callT F G (n + d + 5)) (n + d + 5) b_rest [some (.lst j), some x, none, none, none] s) K := by
  unfold b_rest
  array_get_dec
  rw [hK]
  refine ⟨xs, by rcases hx with rfl | rfl <;> rfl, ?_⟩
  generalize hp : s.length = p
  have hjp : j < p := by rw [← hp]; exact hd.lt
  have s1p : (s ++ [Cell.lst xs])[p]? = some (.lst xs) := by rw [← hp, List.getElem?_append_right (Nat.le_refl _)]; simp
  rw [o_lenl s1p]
  have l0 : xs.length ≠ 0 := fun z => h0 (List.eq_nil_of_length_eq_zero z)
  refine pick_ok (n := n + d + 4) hd.push (by omega) (by omega) (by omega) fun spot s2 a1 a2 hd2 kp2 => ?_
  refine pick_ok (n := n + d + 4) hd2 (by decide) (by decide) (by omega) fun way s3 b1 b2 hd3 kp3 => ?_
  have k13 : Keep j s s3 := (Keep.push.trans kp2).trans kp3
  have s3p : s3[p]? = some (.lst xs) := (kp2.trans kp3) p _ (by omega) s1p
  obtain ⟨i, rfl⟩ : ∃ i : Nat, spot = (i : Int) := ⟨spot.toNat, by omega⟩
  have hi : i < xs.length := by omega
  have whole : ∀ ys : List D, ys.length ≤ 3 * m → (∀ y ∈ ys, y ∈ xs) → ∀ s', Deck s' j (c + 2) → Keep j s s' → K.rt (.tup ys) s' ∧ K.rt (.rol ys) s' := fun ys hy hmem s' h1 h2 => by
    obtain ⟨t1, t2⟩ := thB_parts (k' := k + 2) (m' := 3 * m) (d' := d + 3) (by omega) (by omega) (by omega) hy fun y hy => he y (hmem y hy)
    exact ⟨q _ _ t1 (h1.le (by omega)) h2, q _ _ t2 (h1.le (by omega)) h2⟩
  have lenOk : ∀ a : Nat, a ≤ 3 * m → lineOk a = true := fun a h => decide_eq_true (show a ≤ sizeLine from by unfold sizeLine; omega)
  unfold st_br
  array_get_dec
  refine ⟨fun _ => ?_, fun _ => ?_⟩
  · rw [o_sll s3p, o_sll s3p, o_rols]
    have c1 := @cut_len D xs none (some (i : Int))
    have c2 := @cut_len D xs (some ((i : Int) + 1)) none
    refine ⟨lenOk _ (by omega), ?_⟩
    obtain ⟨w1, w2⟩ := whole (cut xs none (some (i : Int)) ++ cut xs (some ((i : Int) + 1)) none) (by rw [List.length_append]; omega) (fun y hy => (List.mem_append.mp hy).elim cut_mem cut_mem) s3 hd3 k13
    exact last_rol hx w1 w2
  refine ⟨fun _ => ?_, fun _ => ?_⟩
  · rw [o_sll s3p, o_sll s3p, o_rols]
    have c1 := @cut_len D xs none (some (i : Int))
    have c2 := @cut_len D xs (some (i : Int)) (some ((i : Int) + 1))
    have c3 := @cut_len D xs (some (i : Int)) none
    refine ⟨lenOk _ (by omega), ?_⟩
    rw [o_sll s3p, o_rols]
    refine ⟨lenOk _ (by rw [List.length_append]; omega), ?_⟩
    obtain ⟨w1, w2⟩ := whole (cut xs none (some (i : Int)) ++ cut xs (some (i : Int)) (some ((i : Int) + 1)) ++ cut xs (some (i : Int)) none) (by rw [List.length_append, List.length_append]; omega)
      (fun y hy => (List.mem_append.mp hy).elim (fun z => (List.mem_append.mp z).elim cut_mem cut_mem) cut_mem) s3 hd3 k13
    exact last_rol hx w1 w2
  refine ⟨fun _ => ?_, fun _ => ?_⟩
  · rw [o_sll s3p, o_sll s3p, o_rols]
    have c1 := @cut_len D xs (some (i : Int)) none
    have c2 := @cut_len D xs none (some (i : Int))
    refine ⟨lenOk _ (by omega), ?_⟩
    obtain ⟨w1, w2⟩ := whole (cut xs (some (i : Int)) none ++ cut xs none (some (i : Int))) (by rw [List.length_append]; omega) (fun y hy => (List.mem_append.mp hy).elim cut_mem cut_mem) s3 hd3 k13
    exact last_rol hx w1 w2
  refine ⟨fun _ => ?_, fun _ => ?_⟩
  · obtain ⟨w1, w2⟩ := whole xs (by omega) (fun y hy => hy) s3 hd3 k13
    rcases hx with rfl | rfl
    · array_get_dec; exact w2
    · array_get_dec; exact w1
  · have ei : xs[i]? = some xs[i] := List.getElem?_eq_getElem hi
    rw [o_ixl s3p ei]
    refine ih (he _ (List.getElem_mem hi)) hd3 (by omega) fun y s4 hy hd4 kp4 => ?_
    have s4p : s4[p]? = some (.lst xs) := kp4 p _ (by omega) s3p
    refine ⟨_, setIx_at s4p hi, ?_⟩
    have k14 : Keep j s s4 := k13.trans kp4
    have mem : ∀ z ∈ xs.set i y, thB (k + 2) (3 * m) (d + 3) z = true := fun z hz => by
      rcases List.mem_or_eq_of_mem_set hz with h | h
      · exact thB_mono (by omega) (by omega) (by omega) (he z h)
      · rw [h]; exact hy
    obtain ⟨t1, t2⟩ := thB_parts (k' := k + 2) (m' := 3 * m) (d' := d + 3) (Nat.le_refl _) (Nat.le_refl _) (Nat.le_refl _) (by rw [List.length_set]; omega) mem
    have old : ∀ (s' : Sto), (∀ i x, i ≠ p → s4[i]? = some x → s'[i]? = some x) → Keep j s s' := fun s' h i x hi e => by
      refine h i x ?_ (k14 i x hi e)
      have := (List.getElem?_eq_some_iff.mp e).1
      omega
    refine last_lst hx (List.getElem?_set_self (List.getElem?_eq_some_iff.mp s4p).1) ?_ ?_
    · exact q _ _ t1 ((hd4.setp (by omega)).le (by omega)) (old _ fun i x hne e => by rw [List.getElem?_set_ne (Ne.symm hne)]; exact e)
    · exact q _ _ t2 (((hd4.setp (by omega)).setp (by omega)).le (by omega)) (old _ fun i x hne e => by rw [List.getElem?_set_ne (Ne.symm hne), List.getElem?_set_ne (Ne.symm hne)]; exact e)
theorem spoilt_ok {j k m : Nat} (hk : 130 ≤ k) (hk2 : k ≤ 3000) (hm : 4 ≤ m) (hm2 : m ≤ 1000) : ∀ (d : Nat) {x : D} {c n : Nat} {s : Sto} {Q : D → Sto → Prop} {X : Nat → Sto → Prop}, thB k m d x = true → Deck s j c → c + 10 * (d + 1) < 2 ^ 29 →
    (∀ y s', thB (k + 2) (3 * m) (d + 3) y = true → Deck s' j (c + 8 * (d + 1)) → Keep j s s' → Q y s') → okX (callD F G (n + d + 5) 13 [.lst j, x] s) Q X := by
  intro d
  induction d with
  | zero =>
    intro x c n s Q X hx hd hc q
    refine callD_body [some (.lst j), some x, none, none, none] b_law_spoilt g_law_spoilt rfl rfl rfl ?_
    rw [spoilt_is, s_cons, s_ite]
    have lf := leaf_ok (F := F) (n := n) (s := s) (X := X) (K := ⟨fun e s1 => okS (denSs F (callT F G (n + 4)) (n + 4) b_rest e s1) ⟨fun _ s1 => Q .non s1, Q, fun _ _ => False, fun _ _ => False, fun c _ s1 => X c s1⟩, Q, fun _ _ => False, fun _ _ => False, fun c _ s1 => X c s1⟩) (r := [none, none, none])
      hx hk hk2 hm hd (by omega) (fun y s2 hy h2 kp2 => q y s2 (thB_mono (Nat.le_refl _) (Nat.le_refl _) (by omega) hy) (h2.le (by omega)) kp2) rfl
    unfold c_sp
    cases x <;> first | (simp only [thB] at hx; cases hx; done) | (array_get_dec; exact lf)
  | succ d ih =>
    intro x c n s Q X hx hd hc q
    refine callD_body [some (.lst j), some x, none, none, none] b_law_spoilt g_law_spoilt rfl rfl rfl ?_
    rw [spoilt_is, s_cons, s_ite]
    have lf : ∀ s' c', Deck s' j c' → c' ≤ c + 1 → Keep j s s' → okS (denSs F (callT F G (n + d + 1 + 4)) (n + d + 1 + 4) b_leaf [some (.lst j), some x, none, none, none] s') ⟨fun e s1 => okS (denSs F (callT F G (n + d + 1 + 4)) (n + d + 1 + 4) b_rest e s1) ⟨fun _ s1 => Q .non s1, Q, fun _ _ => False, fun _ _ => False, fun c _ s1 => X c s1⟩, Q, fun _ _ => False, fun _ _ => False, fun c _ s1 => X c s1⟩ := fun s' c' h hle kp =>
      leaf_ok hx hk hk2 hm h (by omega) (fun y s2 hy h2 kp2 => q y s2 (thB_mono (Nat.le_refl _) (Nat.le_refl _) (by omega) hy) (h2.le (by omega)) (kp.trans kp2)) rfl
    have go : ∀ xs, x = .tup xs ∨ x = .rol xs → xs ≠ [] → ∀ s', Deck s' j (c + 1) → Keep j s s' → okS (denSs F (callT F G (n + d + 5)) (n + d + 5) b_rest [some (.lst j), some x, none, none, none] s') ⟨fun _ s1 => Q .non s1, Q, fun _ _ => False, fun _ _ => False, fun c _ s1 => X c s1⟩ := fun xs h h0 s' h1 kp => by
      obtain ⟨d', e, hl, he⟩ := parts_of hx h
      cases e
      exact rest_ok hk hk2 hm hm2 h h0 hl he h1 (by omega) (fun hy h2 hc' q' => ih hy h2 hc' q') (fun y s2 hy h2 kp2 => q y s2 hy (h2.le (by omega)) (kp.trans kp2)) rfl
    unfold c_sp
    cases x <;> first | (array_get_dec; exact lf s c hd (by omega) (.refl _ _)) | skip
    case tup xs =>
      array_get_dec
      refine ⟨fun _ => lf s c hd (by omega) (.refl _ _), fun h => ?_⟩
      have h : ¬ (xs.length : Int) = 0 := of_decide_eq_false h
      refine pick_ok hd (by decide) (by decide) (by omega) fun r s1 _ _ hd1 kp1 => ?_
      array_get_dec
      refine ⟨fun _ => lf s1 _ hd1 (by omega) kp1, fun _ => ?_⟩
      exact go xs (.inl rfl) (fun z => h (by rw [z]; rfl)) s1 hd1 kp1
    case rol xs =>
      array_get_dec
      refine ⟨fun _ => lf s c hd (by omega) (.refl _ _), fun h => ?_⟩
      have h : ¬ (xs.length : Int) = 0 := of_decide_eq_false h
      refine pick_ok hd (by decide) (by decide) (by omega) fun r s1 _ _ hd1 kp1 => ?_
      array_get_dec
      refine ⟨fun _ => lf s1 _ hd1 (by omega) kp1, fun _ => ?_⟩
      exact go xs (.inr rfl) (fun z => h (by rw [z]; rfl)) s1 hd1 kp1
    all_goals exact (thB_flat hx).elim
end Dn

end
section
set_option Elab.async false
set_option maxRecDepth 100000
set_option maxHeartbeats 400000
set_option linter.unusedVariables false
set_option exponentiation.threshold 20000
/-! Pu10: numbers. -/
namespace Dn
open PySem
local macro_rules | `(tactic| array_get_dec) => `(tactic| simp only [s_cons, s_nil, s_set, s_par, s_par3, s_ex, s_ret, s_retn, s_ite, s_rai, s_tryo, s_pas, s_brk, s_cnt, s_aug, t_nm, t_tup, t_sub, t_nil, t_cons, w_var, w_cst, w_top, w_bin, w_neg, w_cmp, w_cmp2, w_nt, w_and, w_or, w_ife, w_tup, w_rol, w_lst, w_ix, w_sl, w_call, w_prim, w_app, w_ins, w_bits, w_join, w_frz, w_nil, w_cons, w_no, w_so, c_no, c_so,
  okX_ok, isB_bl, br_true, br_false, o_add, o_sub, o_mul, o_fdiv, o_mod, o_pow, o_shl, o_cat, o_strs, o_rols, o_neg, o_lt, o_le, o_gt, o_ge, o_is, o_isn, o_eq, o_ne, o_in, o_nin, o_t0, o_t1, o_t2, o_t3, o_sl, o_slr, o_len, o_lenr, o_abs, o_int, o_intb, o_tupr, o_tupt, o_listt, o_listr, o_listm, o_isi, o_frzr, cf_self, eq_int,
  List.getElem?_cons_zero, List.getElem?_cons_succ, List.set_cons_zero, List.set_cons_succ, List.length_cons, List.length_nil, Option.some.injEq, exists_eq_left', exists_eq_left, D.int.injEq, D.bl.injEq, D.tup.injEq, and_true, true_and, Nat.zero_add, Nat.reduceAdd, Nat.reduceLT, Nat.lt_irrefl, tysD, tyD, Bool.not_true, Bool.not_false])
variable {F n : Nat} {s : Sto} {Q : D → Sto → Prop} {X : Nat → Sto → Prop}
theorem isq_lt {c k : Nat} (h : c < 2 ^ k) : isq c < 2 ^ ((k + 1) / 2) := by
  have q := (isq_spec c).1
  rcases Nat.lt_or_ge (isq c) (2 ^ ((k + 1) / 2)) with z | z
  · exact z
  · have h1 : 2 ^ ((k + 1) / 2) * 2 ^ ((k + 1) / 2) ≤ isq c * isq c := Nat.mul_le_mul z z
    rw [← Nat.pow_add] at h1
    have h2 : 2 ^ k ≤ 2 ^ ((k + 1) / 2 + (k + 1) / 2) := Nat.pow_le_pow_right (by decide) (by omega)
    omega
theorem sqrtQ_fr {k : Nat} {x w : Int × Int} (hx : Fr k x) (h : sqrtQ x = some w) : Fr ((k + 1) / 2) w ∧ 0 ≤ w.1 ∧ w.1 * w.1 = x.1 ∧ w.2 * w.2 = x.2 := by
  unfold sqrtQ at h
  split at h
  · cases h
  · rename_i hn
    split at h
    · rename_i he
      cases h
      obtain ⟨e1, e2⟩ := he
      have a0 : 0 ≤ x.1 := by omega
      have s1 : x.1.toNat < 2 ^ k := by have := hx.a; unfold Sm at this; omega
      have s2 : x.2.toNat < 2 ^ k := by have := hx.b; have := hx.p; unfold Sm at *; omega
      refine ⟨⟨?_, ?_, ?_, ?_⟩, by omega, e1, e2⟩
      · unfold Sm; rw [Int.natAbs_natCast]; exact isq_lt s1
      · unfold Sm; rw [Int.natAbs_natCast]; exact isq_lt s2
      · have := hx.p
        rcases Nat.eq_zero_or_pos (isq x.2.toNat) with z | z
        · rw [z] at e2; omega
        · show 0 < ((isq x.2.toNat : Nat) : Int); omega
      · have g := hx.g
        rw [← e1, ← e2] at g
        show Nat.gcd (isq x.1.toNat) (isq x.2.toNat) = 1
        have g' : Nat.gcd (isq x.1.toNat * isq x.1.toNat) (isq x.2.toNat * isq x.2.toNat) = 1 := by
          have z : Int.gcd (((isq x.1.toNat : Nat) : Int) * (isq x.1.toNat : Nat)) (((isq x.2.toNat : Nat) : Int) * (isq x.2.toNat : Nat)) = 1 := g
          rw [← Int.natCast_mul, ← Int.natCast_mul] at z
          exact z
        have d := Nat.gcd_dvd_left (isq x.1.toNat) (isq x.2.toNat)
        have d' := Nat.gcd_dvd_right (isq x.1.toNat) (isq x.2.toNat)
        exact Nat.dvd_one.mp (g' ▸ Nat.dvd_gcd (Nat.dvd_trans d (Nat.dvd_mul_right _ _)) (Nat.dvd_trans d' (Nat.dvd_mul_right _ _)))
    · cases h
/-- a number: part, sign, under -/
structure Nm where
  p : Int × Int
  g : Int
  u : Int × Int
def Nm.d (x : Nm) : D := .tup [fr x.p, .int x.g, fr x.u]
def plainQ (p : Int × Int) : Nm := ⟨p, 0, (0, 1)⟩
structure NmOk (k l : Nat) (x : Nm) : Prop where
  p : Fr k x.p
  u : Fr l x.u
  g : x.g = 0 ∧ x.u = (0, 1) ∨ (x.g = 1 ∨ x.g = -1) ∧ 0 < x.u.1 ∧ sqrtQ x.u = none
theorem fr01 {k : Nat} (h : 1 ≤ k) : Fr k (0, 1) := ⟨show (0 : Nat) < 2 ^ k from Nat.two_pow_pos k, show (1 : Nat) < 2 ^ k from Nat.one_lt_two_pow (by omega), by decide, by decide⟩
theorem fr11 {k : Nat} (h : 1 ≤ k) : Fr k (1, 1) := ⟨show (1 : Nat) < 2 ^ k from Nat.one_lt_two_pow (by omega), show (1 : Nat) < 2 ^ k from Nat.one_lt_two_pow (by omega), by decide, by decide⟩
theorem frs1 {g : Int} (h : g.natAbs ≤ 1) : Fr 1 (g, 1) := ⟨show g.natAbs < 2 ^ 1 by omega, show (1 : Nat) < 2 ^ 1 by decide, by show (0 : Int) < 1; decide, by show Int.gcd g 1 = 1; simp⟩
theorem plainQ_ok {k : Nat} {p : Int × Int} (h : Fr k p) : NmOk k 1 (plainQ p) := ⟨h, fr01 (by decide), .inl ⟨rfl, rfl⟩⟩
def numQ (p r u : Int × Int) : Nm := match sqrtQ (byQ (byQ r r) u) with
  | some w => plainQ (plusQ p (byQ (r.1.sign, 1) w))
  | none => ⟨p, r.1.sign, byQ (byQ r r) u⟩
theorem sign_abs (a : Int) : a.sign.natAbs ≤ 1 := by rw [Int.natAbs_sign]; split <;> omega
theorem plain_ok {p : Int × Int} (q : Q (plainQ p).d s) : okX (callD F G (n + 1) 26 [fr p] s) Q X := by
  refine callD_body [some (fr p)] b_plain g_plain rfl rfl rfl ?_
  unfold b_plain
  array_get_dec
  exact ⟨by decide, q⟩
theorem number_ok {a b c : Nat} {p r u : Int × Int} (hp : Fr a p) (hr : Fr b r) (hu : Fr c u) (h1 : 2 * b + c ≤ 8000) (h2 : a + (2 * b + c + 1) / 2 + 3 ≤ 8000) (hF : 2 ^ 10000 ≤ F) (q : Q (numQ p r u).d s) : okX (callD F G (n + 4) 27 [fr p, fr r, fr u] s) Q X := by
  refine callD_body [some (fr p), some (fr r), some (fr u), none, none] b_number g_number rfl rfl rfl ?_
  unfold b_number
  array_get_dec
  refine by_ok hF hr hr (by omega) (by_ok hF (hr.by hr) hu (by omega) ?_)
  have hs := (hr.by hr).by hu
  refine square_root_ok hs (by omega) hF ?_
  unfold numQ at q
  cases e : sqrtQ (byQ (byQ r r) u) with
  | none =>
    rw [e] at q
    rw [show isNon (qo none) = true from rfl, Bool.not_true, br_false]
    refine sign_of_ok ?_
    exact ⟨by decide, q⟩
  | some w =>
    rw [e] at q
    obtain ⟨hw, _⟩ := sqrtQ_fr hs e
    have hw : Fr ((2 * b + c + 1) / 2) w := by
      have z : b + b + c = 2 * b + c := by omega
      rw [z] at hw; exact hw
    rw [show isNon (qo (some w)) = false from rfl, Bool.not_false, br_true]
    refine sign_of_ok ?_
    refine ⟨by decide, ?_⟩
    refine by_ok (x := (r.1.sign, 1)) hF (frs1 (sign_abs _)) hw (by omega) ?_
    refine plus_ok hF hp ((frs1 (sign_abs _)).by hw) (by omega) ?_
    exact plain_ok q
theorem red0 {b : Int} (hb : b ≠ 0) : red 0 b = (0, 1) := by
  have e : Int.gcd 0 b = b.natAbs := by simp [Int.gcd]
  unfold red
  rw [e, Int.mul_zero, Int.zero_ediv, Int.ediv_self (by omega)]
theorem red_pos {a b : Int} (ha : 0 < a) (hb : 0 < b) : 0 < (red a b).1 := by
  obtain ⟨m, hm⟩ := Int.gcd_dvd_left a b
  have g0 := gcd_ne (a := a) (b := b) (by omega)
  show 0 < b.sign * a / ((Int.gcd a b : Nat) : Int)
  rw [Int.sign_eq_one_of_pos hb, Int.one_mul]
  exact Int.ediv_pos_of_pos_of_dvd ha (by omega) (Int.gcd_dvd_left a b)
theorem sqrt01 : sqrtQ (0, 1) = some (0, 1) := by decide
theorem numQ_ok {a b c : Nat} {p r u : Int × Int} (hp : Fr a p) (hr : Fr b r) (hu : Fr c u) (hu0 : 0 < u.1) : NmOk (a + (2 * b + c + 1) / 2 + 3) (2 * b + c + 1) (numQ p r u) := by
  have hs := (hr.by hr).by hu
  have z : b + b + c = 2 * b + c := by omega
  rw [z] at hs
  unfold numQ
  cases e : sqrtQ (byQ (byQ r r) u) with
  | some w =>
    obtain ⟨hw, _⟩ := sqrtQ_fr hs e
    exact ⟨(hp.plus ((frs1 (sign_abs _)).by hw)).le (by omega), fr01 (by omega), .inl ⟨rfl, rfl⟩⟩
  | none =>
    have r0 : r.1 ≠ 0 := fun h => by
      have p2 := hr.p
      have u2 := hu.p
      have e1 : byQ r r = (0, 1) := by unfold byQ; rw [h, Int.zero_mul]; exact red0 (Int.mul_ne_zero (by omega) (by omega))
      have e2 : byQ (0, 1) u = (0, 1) := by unfold byQ; rw [Int.zero_mul, Int.one_mul]; exact red0 (by omega)
      rw [e1, e2, sqrt01] at e
      cases e
    refine ⟨hp.le (by omega), hs.le (by omega), .inr ⟨?_, ?_, e⟩⟩
    · rcases Int.lt_trichotomy r.1 0 with h | h | h
      · exact .inr (Int.sign_eq_neg_one_of_neg h)
      · exact absurd h r0
      · exact .inl (Int.sign_eq_one_of_pos h)
    · have sq : 0 < r.1 * r.1 := by
        rcases Int.lt_or_gt_of_ne r0 with h | h
        · exact Int.mul_pos_of_neg_of_neg h h
        · exact Int.mul_pos h h
      have q1 : 0 < (byQ r r).1 := red_pos sq (fr_mul hr hr)
      exact red_pos (Int.mul_pos q1 hu0) (fr_mul (hr.by hr) hu)
theorem NmOk.u0 {k l : Nat} {x : Nm} (h : NmOk k l x) (hg : x.g ≠ 0) : 0 < x.u.1 := by
  rcases h.g with ⟨z, _⟩ | ⟨_, z, _⟩
  · exact absurd z hg
  · exact z
theorem NmOk.ga {k l : Nat} {x : Nm} (h : NmOk k l x) : x.g.natAbs ≤ 1 := by
  rcases h.g with ⟨z, _⟩ | ⟨z | z, _⟩ <;> rw [z] <;> decide
/-- a number's two parts over under -/
def infQ (x : Nm) (u : Int × Int) : Option ((Int × Int) × (Int × Int)) := if x.g = 0 then some (x.p, (0, 1)) else match sqrtQ (overQ x.u u) with
  | some w => some (x.p, byQ (x.g, 1) w)
  | none => none
theorem in_field_ok {k l c : Nat} {x : Nm} {u : Int × Int} (hx : NmOk k l x) (hu : Fr c u) (hu0 : 0 < u.1) (h1 : l + c ≤ 8000) (hF : 2 ^ 10000 ≤ F) (q : match infQ x u with
    | some r => Q (.tup [fr r.1, fr r.2]) s
    | none => X 2 s) : okX (callD F G (n + 4) 28 [x.d, fr u] s) Q X := by
  refine callD_body [some x.d, some (fr u), none, none, none, none] b_in_field g_in_field rfl rfl rfl ?_
  unfold b_in_field Nm.d
  array_get_dec
  refine ⟨rfl, ?_⟩
  unfold infQ at q
  refine ⟨fun h => ?_, fun h => ?_⟩
  · rw [if_pos (of_decide_eq_true h)] at q
    exact ⟨by decide, q⟩
  · have hg := of_decide_eq_false h
    rw [if_neg hg] at q
    have ho := hx.u.over hu (by omega)
    refine over_ok hF hx.u hu (by omega) h1 (square_root_ok ho h1 hF ?_)
    cases e : sqrtQ (overQ x.u u) with
    | none =>
      rw [e] at q
      rw [show isNon (qo none) = true from rfl, br_true]
      exact q
    | some w =>
      rw [e] at q
      rw [show isNon (qo (some w)) = false from rfl, br_false]
      obtain ⟨hw, _⟩ := sqrtQ_fr ho e
      refine ⟨by decide, ?_⟩
      refine by_ok (x := (x.g, 1)) hF (frs1 hx.ga) hw (by omega) ?_
      exact ⟨by decide, q⟩
end Dn

end
section
set_option Elab.async false
set_option maxRecDepth 100000
set_option maxHeartbeats 400000
set_option linter.unusedVariables false
set_option exponentiation.threshold 20000
/-! Pu11: numbers reckoned, what a number is. -/
namespace Dn
open PySem
local macro_rules | `(tactic| array_get_dec) => `(tactic| simp only [s_cons, s_nil, s_set, s_par, s_par3, s_ex, s_ret, s_retn, s_ite, s_rai, s_tryo, s_pas, s_brk, s_cnt, s_aug, t_nm, t_tup, t_sub, t_nil, t_cons, w_var, w_cst, w_top, w_bin, w_neg, w_cmp, w_cmp2, w_nt, w_and, w_or, w_ife, w_tup, w_rol, w_lst, w_ix, w_sl, w_call, w_prim, w_app, w_ins, w_bits, w_join, w_frz, w_nil, w_cons, w_no, w_so, c_no, c_so,
  okX_ok, isB_bl, br_true, br_false, o_add, o_sub, o_mul, o_fdiv, o_mod, o_pow, o_shl, o_cat, o_strs, o_rols, o_neg, o_lt, o_le, o_gt, o_ge, o_is, o_isn, o_eq, o_ne, o_in, o_nin, o_t0, o_t1, o_t2, o_t3, o_sl, o_slr, o_len, o_lenr, o_abs, o_int, o_intb, o_tupr, o_tupt, o_listt, o_listr, o_listm, o_isi, o_frzr, cf_self, eq_int, okS_then,
  List.getElem?_cons_zero, List.getElem?_cons_succ, List.set_cons_zero, List.set_cons_succ, List.length_cons, List.length_nil, Option.some.injEq, exists_eq_left', exists_eq_left, D.int.injEq, D.bl.injEq, D.tup.injEq, and_true, true_and, Nat.zero_add, Nat.reduceAdd, Nat.reduceLT, Nat.lt_irrefl, tysD, tyD, Bool.not_true, Bool.not_false])
variable {F n : Nat} {s : Sto} {Q : D → Sto → Prop} {X : Nat → Sto → Prop}
def fofQ (x y : Nm) : Int × Int := if x.g ≠ 0 then x.u else if y.g ≠ 0 then y.u else (1, 1)
theorem field_of_ok {x y : Nm} (hF : 2 ^ 10000 ≤ F) (q : Q (fr (fofQ x y)) s) : okX (callD F G (n + 1) 29 [.tup [x.d, y.d]] s) Q X := by
  refine callD_body [some (.tup [x.d, y.d]), none] b_field_of g_field_of rfl rfl rfl ?_
  unfold b_field_of
  rw [s_cons]
  refine s_for (fun i e s' => s' = s ∧ (∃ z, e = [some (.tup [x.d, y.d]), z]) ∧ (0 < i → x.g = 0) ∧ (1 < i → y.g = 0)) ?_
  rw [i_seq]
  array_get_dec
  have two : 2 < F := Nat.lt_of_lt_of_le (by decide) (Nat.le_trans (Nat.pow_le_pow_right (by decide) (by decide : 2 ≤ 10000)) hF)
  refine ⟨_, rfl, _, rfl, two, ⟨⟨none, rfl⟩, fun h => h.elim, fun h => h.elim⟩, ?_, ?_⟩
  · rintro i d e s2 hi ⟨rfl, ⟨z, rfl⟩, h1, h2⟩
    unfold fofQ at q
    match i, hi with
    | 0, hi =>
      cases hi
      unfold Nm.d
      array_get_dec
      refine ⟨fun h => ?_, fun h => ?_⟩
      · rw [if_pos (by simpa using h)] at q; exact q
      · exact ⟨⟨_, rfl⟩, fun _ => by simpa using h, by simp⟩
    | 1, hi =>
      cases hi
      unfold Nm.d
      array_get_dec
      have x0 := h1 (by decide)
      refine ⟨fun h => ?_, fun h => ?_⟩
      · rw [if_neg (by simpa using x0), if_pos (by simpa using h)] at q; exact q
      · exact ⟨⟨_, rfl⟩, fun _ => x0, fun _ => by simpa using h⟩
    | i + 2, hi => simp at hi
  · rintro e s2 ⟨rfl, ⟨z, rfl⟩, h1, h2⟩
    unfold fofQ at q
    rw [if_neg (by simpa using h1 (show 0 < 2 by decide)), if_neg (by simpa using h2 (show 1 < 2 by decide))] at q
    exact ⟨by decide, q⟩
theorem fofQ_ok {k l : Nat} {x y : Nm} (hl : 1 ≤ l) (hx : NmOk k l x) (hy : NmOk k l y) : Fr l (fofQ x y) ∧ 0 < (fofQ x y).1 := by
  unfold fofQ
  split
  · rename_i h; exact ⟨hx.u, hx.u0 h⟩
  · split
    · rename_i h; exact ⟨hy.u, hy.u0 h⟩
    · exact ⟨fr11 hl, by decide⟩
theorem infQ_fr {k l c : Nat} {x : Nm} {u : Int × Int} {r : (Int × Int) × (Int × Int)} (hx : NmOk k l x) (hu : Fr c u) (hu0 : 0 < u.1) (h : infQ x u = some r) : Fr k r.1 ∧ Fr ((l + c + 1) / 2 + 1) r.2 := by
  unfold infQ at h
  split at h
  · cases h; exact ⟨hx.p, fr01 (by omega)⟩
  · split at h
    · rename_i w e
      cases h
      obtain ⟨hw, _⟩ := sqrtQ_fr (hx.u.over hu (by omega)) e
      exact ⟨hx.p, ((frs1 hx.ga).by hw).le (by omega)⟩
    · cases h
def timesQ (x y : Nm) : Option Nm := match infQ x (fofQ x y), infQ y (fofQ x y) with
  | some a, some c => some (numQ (plusQ (byQ a.1 c.1) (byQ (byQ a.2 c.2) (fofQ x y))) (plusQ (byQ a.1 c.2) (byQ a.2 c.1)) (fofQ x y))
  | _, _ => none
def addQ (x y : Nm) : Option Nm := match infQ x (fofQ x y), infQ y (fofQ x y) with
  | some a, some c => some (numQ (plusQ a.1 c.1) (plusQ a.2 c.2) (fofQ x y))
  | _, _ => none
theorem times_ok {k l : Nat} {x y : Nm} (hl : 1 ≤ l) (hx : NmOk k l x) (hy : NmOk k l y) (hb : 4 * k + 6 * l + 20 ≤ 8000) (hF : 2 ^ 10000 ≤ F) (q : match timesQ x y with
    | some z => Q z.d s
    | none => X 2 s) : okX (callD F G (n + 5) 31 [x.d, y.d] s) Q X := by
  refine callD_body [some x.d, some y.d, none, none, none, none, none] b_times g_times rfl rfl rfl ?_
  unfold b_times
  array_get_dec
  refine ⟨by decide, ?_⟩
  refine field_of_ok hF ?_
  obtain ⟨hu, hu0⟩ := fofQ_ok hl hx hy
  unfold timesQ at q
  generalize fofQ x y = u at *
  refine in_field_ok hx hu hu0 (by omega) hF ?_
  cases e1 : infQ x u with
  | none => rw [e1] at q; exact q
  | some a =>
    rw [e1] at q
    refine in_field_ok hy hu hu0 (by omega) hF ?_
    cases e2 : infQ y u with
    | none => rw [e2] at q; exact q
    | some c =>
      rw [e2] at q
      obtain ⟨ha, hb'⟩ := infQ_fr hx hu hu0 e1
      obtain ⟨hc, hd⟩ := infQ_fr hy hu hu0 e2
      dsimp only at q ⊢
      array_get_dec
      refine ⟨by decide, rfl, rfl, rfl, ?_⟩
      refine by_ok hF ha hc (by omega) (by_ok hF hb' hd (by omega) (by_ok hF (hb'.by hd) hu (by omega) (plus_ok hF (ha.by hc) ((hb'.by hd).by hu) (by omega) ?_)))
      refine by_ok hF ha hd (by omega) (by_ok hF hb' hc (by omega) (plus_ok hF (ha.by hd) (hb'.by hc) (by omega) ?_))
      exact number_ok ((ha.by hc).plus ((hb'.by hd).by hu)) ((ha.by hd).plus (hb'.by hc)) hu (by omega) (by omega) hF q
theorem timesQ_ok {k l : Nat} {x y z : Nm} (hl : 1 ≤ l) (hx : NmOk k l x) (hy : NmOk k l y) (h : timesQ x y = some z) : NmOk (4 * k + 6 * l + 12) (4 * k + 5 * l + 8) z := by
  obtain ⟨hu, hu0⟩ := fofQ_ok hl hx hy
  unfold timesQ at h
  generalize fofQ x y = u at *
  cases e1 : infQ x u with
  | none => rw [e1] at h; cases h
  | some a =>
    cases e2 : infQ y u with
    | none => rw [e1, e2] at h; cases h
    | some c =>
      rw [e1, e2] at h
      cases h
      obtain ⟨ha, hb'⟩ := infQ_fr hx hu hu0 e1
      obtain ⟨hc, hd⟩ := infQ_fr hy hu hu0 e2
      have q := numQ_ok ((ha.by hc).plus ((hb'.by hd).by hu)) ((ha.by hd).plus (hb'.by hc)) hu hu0
      exact ⟨q.p.le (by omega), q.u.le (by omega), q.g⟩
theorem added_ok {k l : Nat} {x y : Nm} (hl : 1 ≤ l) (hx : NmOk k l x) (hy : NmOk k l y) (hb0 : 5 * l + 20 ≤ 8000) (hb : 2 * k + 3 * l + 20 ≤ 8000) (hF : 2 ^ 10000 ≤ F) (q : match addQ x y with
    | some z => Q z.d s
    | none => X 2 s) : okX (callD F G (n + 5) 30 [x.d, y.d] s) Q X := by
  refine callD_body [some x.d, some y.d, none, none, none, none, none] b_added g_added rfl rfl rfl ?_
  unfold b_added
  array_get_dec
  refine ⟨by decide, ?_⟩
  refine field_of_ok hF ?_
  obtain ⟨hu, hu0⟩ := fofQ_ok hl hx hy
  unfold addQ at q
  generalize fofQ x y = u at *
  refine in_field_ok hx hu hu0 (by omega) hF ?_
  cases e1 : infQ x u with
  | none => rw [e1] at q; exact q
  | some a =>
    rw [e1] at q
    refine in_field_ok hy hu hu0 (by omega) hF ?_
    cases e2 : infQ y u with
    | none => rw [e2] at q; exact q
    | some c =>
      rw [e2] at q
      obtain ⟨ha, hb'⟩ := infQ_fr hx hu hu0 e1
      obtain ⟨hc, hd⟩ := infQ_fr hy hu hu0 e2
      dsimp only at q ⊢
      array_get_dec
      refine ⟨by decide, rfl, rfl, rfl, ?_⟩
      refine plus_ok hF ha hc (by omega) (plus_ok hF hb' hd (by omega) ?_)
      exact number_ok (ha.plus hc) (hb'.plus hd) hu (by omega) (by omega) hF q
end Dn

end
section
set_option Elab.async false
set_option maxRecDepth 100000
set_option maxHeartbeats 400000
set_option linter.unusedVariables false
set_option exponentiation.threshold 20000
/-! Pu12: what is equal; what a number, a turn, an arc is. -/
namespace Dn
open PySem
local macro_rules | `(tactic| array_get_dec) => `(tactic| simp only [s_cons, s_nil, s_set, s_par, s_par3, s_ex, s_ret, s_retn, s_ite, s_rai, s_tryo, s_pas, s_brk, s_cnt, s_aug, t_nm, t_tup, t_sub, t_nil, t_cons, w_var, w_cst, w_top, w_bin, w_neg, w_cmp, w_cmp2, w_nt, w_and, w_or, w_ife, w_tup, w_rol, w_lst, w_ix, w_sl, w_call, w_prim, w_app, w_ins, w_bits, w_join, w_frz, w_nil, w_cons, w_no, w_so, c_no, c_so,
  okX_ok, isB_bl, br_true, br_false, o_add, o_sub, o_mul, o_fdiv, o_mod, o_pow, o_shl, o_cat, o_strs, o_rols, o_neg, o_lt, o_le, o_gt, o_ge, o_is, o_isn, o_eq, o_ne, o_in, o_nin, o_t0, o_t1, o_t2, o_t3, o_sl, o_slr, o_len, o_lenr, o_abs, o_int, o_intb, o_tupr, o_tupt, o_listt, o_listr, o_listm, o_isi, o_frzr, cf_self, eq_int, okS_then,
  List.getElem?_cons_zero, List.getElem?_cons_succ, List.set_cons_zero, List.set_cons_succ, List.length_cons, List.length_nil, Option.some.injEq, exists_eq_left', exists_eq_left, D.int.injEq, D.bl.injEq, D.tup.injEq, and_true, true_and, Nat.zero_add, Nat.reduceAdd, Nat.reduceLT, Nat.lt_irrefl, tysD, tyD, Bool.not_true, Bool.not_false])
variable {F n : Nat} {s : Sto} {Q : D → Sto → Prop} {X : Nat → Sto → Prop}
mutual
def D.nb : D → Bool
  | .bl _ => false
  | .lst _ => false
  | .obj _ => false
  | .tup xs => D.nbs xs
  | .rol xs => D.nbs xs
  | _ => true
def D.nbs : List D → Bool
  | [] => true
  | x :: xs => D.nb x && D.nbs xs
end
theorem beq_dec {α : Type} [DecidableEq α] {a b : α} : (a == b) = decide (a = b) := by
  by_cases h : a = b
  · subst h; simp
  · rw [decide_eq_false h]; simpa using h
mutual
theorem eqv_eqb : ∀ (x y : D), x.nb = true → y.nb = true → PyData.eqv x.py y.py = D.eqb x y
  | .non, y, _, h => by cases y <;> first | rfl | (simp [D.nb] at h; done)
  | .bl b, _, h, _ => by cases h
  | .lst _, _, h, _ => by cases h
  | .obj _, _, h, _ => by cases h
  | .int i, y, _, h => by cases y <;> first | rfl | (simp [D.nb] at h; done) | (simp only [D.py, PyData.eqv, D.eqb, beq_dec])
  | .str i, y, _, h => by cases y <;> first | rfl | (simp [D.nb] at h; done)
  | .tup xs, y, hx, h => by
    cases y <;> first | rfl | (simp [D.nb] at h; done) | skip
    simp only [D.py, PyData.eqv, D.eqb]
    exact eqvs_eqbs xs _ (by simpa [D.nb] using hx) (by simpa [D.nb] using h)
  | .rol xs, y, hx, h => by
    cases y <;> first | rfl | (simp [D.nb] at h; done) | skip
    simp only [D.py, PyData.eqv, D.eqb]
    exact eqvs_eqbs xs _ (by simpa [D.nb] using hx) (by simpa [D.nb] using h)
theorem eqvs_eqbs : ∀ (xs ys : List D), D.nbs xs = true → D.nbs ys = true → PyData.eqvAll (D.pys xs) (D.pys ys) = D.eqbs xs ys
  | [], ys, _, _ => by cases ys <;> rfl
  | x :: xs, ys, hx, hy => by
    cases ys with
    | nil => rfl
    | cons y ys =>
      simp only [D.nbs, Bool.and_eq_true] at hx hy
      simp only [D.pys, PyData.eqvAll, D.eqbs]
      rw [eqv_eqb x y hx.1 hy.1, eqvs_eqbs xs ys hx.2 hy.2]
end
mutual
theorem eqb_refl : ∀ (x : D), x.nb = true → D.eqb x x = true
  | .non, _ => rfl
  | .bl b, h => by cases h
  | .lst _, h => by cases h
  | .obj _, h => by cases h
  | .int i, _ => by simp [D.eqb]
  | .str i, _ => by simp [D.eqb]
  | .tup xs, h => by simp only [D.eqb]; exact eqbs_refl xs (by simpa [D.nb] using h)
  | .rol xs, h => by simp only [D.eqb]; exact eqbs_refl xs (by simpa [D.nb] using h)
theorem eqbs_refl : ∀ (xs : List D), D.nbs xs = true → D.eqbs xs xs = true
  | [], _ => rfl
  | x :: xs, h => by
    simp only [D.nbs, Bool.and_eq_true] at h
    simp only [D.eqbs, eqb_refl x h.1, eqbs_refl xs h.2]; rfl
end
theorem eqb_dec {x y : D} (hx : x.nb = true) : D.eqb x y = true ↔ x = y := ⟨D.eqb_eq x y, fun h => by rw [← h]; exact eqb_refl x hx⟩
theorem eqD_nb {x y : D} (hx : x.nb = true) (hy : y.nb = true) (sx : SeqAt.shaped x.py = true) (sy : SeqAt.shaped y.py = true) : eqD x y = some (D.eqb x y) := by
  unfold eqD
  rw [sx, sy, eqv_eqb x y hx hy]; rfl
theorem thB_lay {k m : Nat} : ∀ {d : Nat} {x : D}, thB k m d x = true → x.py.canLay0 = true ∧ x.py.depth ≤ d := by
  intro d
  induction d with
  | zero =>
    intro x h
    cases x <;> first | exact ⟨rfl, Nat.zero_le _⟩ | (simp only [thB] at h; cases h; done) | skip
    simp only [thB, Bool.and_eq_true] at h
    exact ⟨h.2, Nat.zero_le _⟩
  | succ d ih =>
    intro x h
    have all : ∀ xs : List D, (∀ y ∈ xs, thB k m d y = true) → PyData.canLayAll0 (D.pys xs) = true ∧ PyData.depthAll (D.pys xs) ≤ d := by
      intro xs
      induction xs with
      | nil => exact fun _ => ⟨rfl, Nat.zero_le _⟩
      | cons y ys ih2 =>
        intro h
        obtain ⟨a, b⟩ := ih (h y (by simp))
        obtain ⟨a', b'⟩ := ih2 fun z hz => h z (by simp [hz])
        simp only [D.pys, PyData.canLayAll0, PyData.depthAll, a, a', Bool.and_self, true_and]
        omega
    cases x with
    | tup xs =>
      simp only [thB, Bool.and_eq_true, List.all_eq_true] at h
      obtain ⟨a, b⟩ := all xs h.2
      simp only [D.py, PyData.canLay0, PyData.depth]
      exact ⟨a, by omega⟩
    | rol xs =>
      simp only [thB, Bool.and_eq_true, List.all_eq_true] at h
      obtain ⟨a, b⟩ := all xs h.2
      simp only [D.py, PyData.canLay0, PyData.depth]
      exact ⟨a, by omega⟩
    | str z =>
      simp only [thB, Bool.and_eq_true] at h
      exact ⟨h.2, Nat.zero_le _⟩
    | lst i => simp only [thB] at h; cases h
    | obj i => simp only [thB] at h; cases h
    | _ => exact ⟨rfl, Nat.zero_le _⟩
theorem thB_sh {k m d : Nat} {x : D} (h : thB k m d x = true) (hd : d ≤ 64) : SeqAt.shaped x.py = true := by
  obtain ⟨a, b⟩ := thB_lay h
  unfold SeqAt.shaped
  rw [a, decide_eq_true (by omega)]; rfl
/-- whole numbers in tuples -/
theorem sh_fr (x : Int × Int) : SeqAt.shaped (fr x).py = true := by
  simp [SeqAt.shaped, fr, D.py, D.pys, PyData.canLay0, PyData.canLayAll0, PyData.depth, PyData.depthAll]
theorem sh_nm (x : Nm) : SeqAt.shaped x.d.py = true := by
  simp [SeqAt.shaped, Nm.d, fr, D.py, D.pys, PyData.canLay0, PyData.canLayAll0, PyData.depth, PyData.depthAll]
theorem nb_fr (x : Int × Int) : (fr x).nb = true := rfl
theorem nb_nm (x : Nm) : x.d.nb = true := rfl
instance : DecidableEq Nm := fun a b => by
  obtain ⟨p, g, u⟩ := a
  obtain ⟨p', g', u'⟩ := b
  exact decidable_of_iff (p = p' ∧ g = g' ∧ u = u') ⟨fun ⟨a, b, c⟩ => by rw [a, b, c], fun h => by cases h; exact ⟨rfl, rfl, rfl⟩⟩
theorem fr_inj {x y : Int × Int} (h : fr x = fr y) : x = y := by
  unfold fr at h
  injection h with h
  injection h with h1 h2
  injection h2 with h2 _
  injection h1 with h1
  injection h2 with h2
  exact Prod.ext h1 h2
theorem nm_inj {x y : Nm} (h : x.d = y.d) : x = y := by
  obtain ⟨p, g, u⟩ := x
  obtain ⟨p', g', u'⟩ := y
  unfold Nm.d at h
  injection h with h
  injection h with h1 h2
  injection h2 with h2 h3
  injection h3 with h3 _
  injection h2 with h2
  have e1 : p = p' := fr_inj h1
  have e2 : u = u' := fr_inj h3
  have e3 : g = g' := h2
  rw [e1, e2, e3]
theorem eq_fr {x y : Int × Int} : eqD (fr x) (fr y) = some (decide (x = y)) := by
  rw [eqD_nb (nb_fr x) (nb_fr y) (sh_fr x) (sh_fr y)]
  congr 1
  by_cases h : x = y
  · rw [h, decide_eq_true rfl]; exact eqb_refl _ (nb_fr y)
  · rw [decide_eq_false h]
    exact Bool.eq_false_iff.mpr fun z => h (fr_inj (D.eqb_eq _ _ z))
theorem eq_nm {x y : Nm} : eqD x.d y.d = some (decide (x = y)) := by
  rw [eqD_nb (nb_nm x) (nb_nm y) (sh_nm x) (sh_nm y)]
  congr 1
  by_cases h : x = y
  · rw [h, decide_eq_true rfl]; exact eqb_refl _ (nb_nm y)
  · rw [decide_eq_false h]
    exact Bool.eq_false_iff.mpr fun z => h (nm_inj (D.eqb_eq _ _ z))
end Dn

end
section
set_option Elab.async false
set_option maxRecDepth 100000
set_option maxHeartbeats 400000
set_option linter.unusedVariables false
set_option exponentiation.threshold 20000
/-! Pu13: what a number, a turn, an arc is, of any thing. -/
namespace Dn
open PySem
local macro_rules | `(tactic| array_get_dec) => `(tactic| simp only [s_cons, s_nil, s_set, s_par, s_par3, s_ex, s_ret, s_retn, s_ite, s_rai, s_tryo, s_pas, s_brk, s_cnt, s_aug, t_nm, t_tup, t_sub, t_nil, t_cons, w_var, w_cst, w_top, w_bin, w_neg, w_cmp, w_cmp2, w_nt, w_and, w_or, w_ife, w_tup, w_rol, w_lst, w_ix, w_sl, w_call, w_prim, w_app, w_ins, w_bits, w_join, w_frz, w_nil, w_cons, w_no, w_so, c_no, c_so,
  okX_ok, isB_bl, br_true, br_false, o_add, o_sub, o_mul, o_fdiv, o_mod, o_pow, o_shl, o_cat, o_strs, o_rols, o_neg, o_lt, o_le, o_gt, o_ge, o_is, o_isn, o_eq, o_ne, o_in, o_nin, o_t0, o_t1, o_t2, o_t3, o_sl, o_slr, o_len, o_lenr, o_abs, o_int, o_intb, o_tupr, o_tupt, o_listt, o_listr, o_listm, o_isi, o_frzr, cf_self, eq_int, okS_then,
  List.getElem?_cons_zero, List.getElem?_cons_succ, List.set_cons_zero, List.set_cons_succ, List.length_cons, List.length_nil, Option.some.injEq, exists_eq_left', exists_eq_left, D.int.injEq, D.bl.injEq, D.tup.injEq, and_true, true_and, Nat.zero_add, Nat.reduceAdd, Nat.reduceLT, Nat.lt_irrefl, tysD, tyD, Bool.not_true, Bool.not_false])
variable {F n : Nat} {s : Sto} {Q : D → Sto → Prop} {X : Nat → Sto → Prop}
theorem isFr_true {x : D} (h : isFr x = true) : ∃ a : Int × Int, x = fr a ∧ 0 < a.2 ∧ Int.gcd a.1 a.2 = 1 := by
  unfold isFr at h
  split at h
  · rename_i a b
    simp only [Bool.and_eq_true, decide_eq_true_eq] at h
    exact ⟨(a, b), rfl, h.1, h.2⟩
  · cases h
theorem fr_of {k m d : Nat} {a : Int × Int} (hx : thB k m d (fr a) = true) (h1 : 0 < a.2) (h2 : Int.gcd a.1 a.2 = 1) : Fr k a := by
  have q := thB_okT hx
  exact ⟨(q (.int a.1) (by simp)).2 _ rfl, (q (.int a.2) (by simp)).2 _ rfl, h1, h2⟩
def nmGood (x : Nm) : Bool := decide (x.g = 0 ∧ x.u = (0, 1)) || (decide (x.g = 1 ∨ x.g = -1) && (decide (0 < x.u.1) && (sqrtQ x.u).isNone))
def toNm : D → Option Nm
  | .tup [.tup [.int a, .int b], .int g, .tup [.int c, .int d]] => if isFr (fr (a, b)) && isFr (fr (c, d)) && nmGood ⟨(a, b), g, (c, d)⟩ then some ⟨(a, b), g, (c, d)⟩ else none
  | _ => none
theorem three_or (x : D) : (∃ a b c, x = .tup [a, b, c]) ∨ (∃ xs, x = .tup xs ∧ xs.length ≠ 3) ∨ (∀ xs, x ≠ .tup xs) := by
  cases x with
  | tup xs =>
    by_cases h : xs.length = 3
    · match xs, h with
      | [a, b, c], _ => exact .inl ⟨a, b, c, rfl⟩
    · exact .inr (.inl ⟨xs, rfl, h⟩)
  | _ => exact .inr (.inr fun _ z => nomatch z)
theorem toNm_other {x : D} (h : ∀ a b c, x ≠ .tup [a, b, c]) : toNm x = none := by
  unfold toNm
  split
  · exact absurd rfl (h _ _ _)
  · rfl
theorem toNm_nfr {p g u : D} (h : isFr p = false ∨ isFr u = false) : toNm (.tup [p, g, u]) = none := by
  unfold toNm
  split
  · rename_i a b g' c d e
    injection e with e
    injection e with e1 e2
    injection e2 with e2 e3
    injection e3 with e3 _
    subst e1 e2 e3
    have h' : (isFr (fr (a, b)) && isFr (fr (c, d))) = false := by
      rcases h with h | h
      · rw [show isFr (fr (a, b)) = false from h]; rfl
      · rw [show isFr (fr (c, d)) = false from h]; simp
    rw [h']; rfl
  · rfl
theorem toNm_nint {p u : Int × Int} {g : D} (h : isInt g = false) : toNm (.tup [fr p, g, fr u]) = none := by
  cases g <;> first | rfl | cases h
theorem toNm_eq {p u : Int × Int} {g : Int} (h1 : isFr (fr p) = true) (h2 : isFr (fr u) = true) : (toNm (.tup [fr p, .int g, fr u])).isSome = nmGood ⟨p, g, u⟩ := by
  show (if (isFr (fr p) && isFr (fr u) && nmGood ⟨p, g, u⟩) = true then some (Nm.mk p g u) else none).isSome = _
  rw [h1, h2, Bool.true_and, Bool.true_and]
  cases nmGood ⟨p, g, u⟩ <;> rfl
theorem toNm_some {x : D} {y : Nm} (h : toNm x = some y) : x = y.d ∧ nmGood y = true ∧ isFr (fr y.p) = true ∧ isFr (fr y.u) = true := by
  unfold toNm at h
  split at h
  · split at h
    · rename_i e
      cases h
      simp only [Bool.and_eq_true] at e
      exact ⟨rfl, e.2, e.1.1, e.1.2⟩
    · cases h
  · cases h
theorem nm_ok {k m d : Nat} {y : Nm} (hx : thB k m d y.d = true) (h : nmGood y = true) (h1 : isFr (fr y.p) = true) (h2 : isFr (fr y.u) = true) : NmOk k k y := by
  cases d with
  | zero => simp only [Nm.d, thB] at hx; cases hx
  | succ d =>
    have e := hx
    simp only [Nm.d, thB, Bool.and_eq_true, List.all_eq_true] at e
    obtain ⟨a, ea, pa, ga⟩ := isFr_true h1
    obtain ⟨b, eb, pb, gb⟩ := isFr_true h2
    have ea := fr_inj ea
    have eb := fr_inj eb
    subst ea eb
    refine ⟨fr_of (e.2 (fr y.p) (by simp)) pa ga, fr_of (e.2 (fr y.u) (by simp)) pb gb, ?_⟩
    unfold nmGood at h
    simp only [Bool.or_eq_true, Bool.and_eq_true, decide_eq_true_eq, Option.isNone_iff_eq_none] at h
    rcases h with h | h
    · exact .inl h
    · exact .inr ⟨h.1, h.2.1, h.2.2⟩
theorem in3 {g : Int} : inD s (.int g) (.tup [.int (-1), .int 0, .int 1]) = some (decide (g = -1 ∨ g = 0 ∨ g = 1)) := by
  have sh : ∀ k : Int, SeqAt.shaped (D.int k).py = true := fun k => by simp [SeqAt.shaped, D.py, PyData.canLay0, PyData.depth]
  have s3 : SeqAt.shaped (D.tup [.int (-1), .int 0, .int 1]).py = true := by decide
  simp only [inD]
  rw [sh g, s3]
  simp only [Bool.and_self, if_true, D.pys, D.py, List.any_cons, List.any_nil, PyData.eqv, beq_dec]
  congr 1
  by_cases h1 : g = -1
  · subst h1; rfl
  · by_cases h2 : g = 0
    · subst h2; rfl
    · by_cases h3 : g = 1
      · subst h3; rfl
      · rw [decide_eq_false (by omega), decide_eq_false (by omega), decide_eq_false (by omega), decide_eq_false (by omega)]; rfl
theorem is_number_ok {k m d : Nat} {x : D} (hx : thB k m d x = true) (hk : k ≤ 8000) (hF : 2 ^ 10000 ≤ F) (q : Q (.bl (toNm x).isSome) s) : okX (callD F G (n + 3) 25 [x] s) Q X := by
  refine callD_body [some x] b_is_number g_is_number rfl rfl rfl ?_
  unfold b_is_number
  rcases three_or x with ⟨p, g, u, rfl⟩ | ⟨xs, rfl, hl⟩ | hn
  · obtain ⟨d', rfl, _, he⟩ := parts_of hx (.inl rfl)
    have hp := he p (by simp)
    have hg := he g (by simp)
    have hu := he u (by simp)
    array_get_dec
    rw [show (!decide (((3 : Nat) : Int) = 3)) = false from rfl, br_false]
    refine is_fraction_ok (thB_okT hp) hk hF ?_
    rw [isB_bl]
    cases fp : isFr p with
    | false => rw [toNm_nfr (.inl fp)] at q; rw [Bool.not_false, br_true]; exact q
    | true =>
      rw [Bool.not_true, br_false]
      refine is_fraction_ok (thB_okT hu) hk hF ?_
      rw [isB_bl]
      cases fu : isFr u with
      | false => rw [toNm_nfr (.inr fu)] at q; rw [Bool.not_false, br_true]; exact q
      | true =>
        rw [Bool.not_true, br_false]
        obtain ⟨a, ea, pa, ga⟩ := isFr_true fp
        obtain ⟨b, eb, pb, gb⟩ := isFr_true fu
        subst ea eb
        refine is_whole_ok (thB_flat hg) ?_
        rw [isB_bl]
        cases gi : isInt g with
        | false => rw [toNm_nint gi] at q; rw [Bool.not_false, br_true]; exact q
        | true =>
          obtain ⟨z, ez⟩ : ∃ i, g = D.int i := by cases g <;> first | exact ⟨_, rfl⟩ | cases gi
          subst ez
          revert q
          generalize z = g
          intro q
          rw [toNm_eq fp fu] at q
          rw [Bool.not_true, br_false]
          refine ⟨by decide, _, in3, ?_⟩
          unfold nmGood at q
          by_cases hg3 : g = -1 ∨ g = 0 ∨ g = 1
          · rw [decide_eq_true hg3, Bool.not_true, br_false]
            refine ⟨_, eq_int, ?_⟩
            by_cases g0 : g = 0
            · rw [decide_eq_true g0, br_true]
              refine ⟨_, eq_fr (x := b) (y := (0, 1)), ?_⟩
              have e : (decide (g = 0 ∧ b = (0, 1)) || (decide (g = 1 ∨ g = -1) && (decide (0 < b.1) && (sqrtQ b).isNone))) = decide (b = (0, 1)) := by
                rw [decide_eq_false (show ¬ (g = 1 ∨ g = -1) by omega)]
                simp [g0]
              rw [e] at q
              exact q
            · rw [decide_eq_false g0, br_false]
              have e : (decide (g = 0 ∧ b = (0, 1)) || (decide (g = 1 ∨ g = -1) && (decide (0 < b.1) && (sqrtQ b).isNone))) = (decide (0 < b.1) && (sqrtQ b).isNone) := by
                rw [decide_eq_true (show g = 1 ∨ g = -1 by omega), decide_eq_false (fun z : g = 0 ∧ b = (0, 1) => g0 z.1)]
                simp
              rw [e] at q
              have fb := fr_of hu pb gb
              unfold fr at hu ⊢
              rw [o_t0, o_gt, isB_bl]
              refine ⟨fun h => ?_, fun h => ?_⟩
              · rw [h, Bool.true_and] at q
                refine square_root_ok fb hk hF ?_
                cases es : sqrtQ b with
                | none => rw [es] at q; exact q
                | some w => rw [es] at q; exact q
              · rw [h, Bool.false_and] at q
                exact q
          · rw [decide_eq_false hg3, Bool.not_false, br_true]
            have e : (decide (g = 0 ∧ b = (0, 1)) || (decide (g = 1 ∨ g = -1) && (decide (0 < b.1) && (sqrtQ b).isNone))) = false := by
              rw [decide_eq_false (show ¬ (g = 1 ∨ g = -1) by omega), decide_eq_false (fun z : g = 0 ∧ b = (0, 1) => hg3 (.inr (.inl z.1)))]; rfl
            rw [e] at q
            exact q
  · rw [toNm_other (fun a b c z => hl (by cases z; rfl))] at q
    array_get_dec
    refine ⟨fun _ => q, fun h => ?_⟩
    exfalso
    have z : ¬ (xs.length : Int) = 3 := by omega
    rw [decide_eq_false z] at h; cases h
  · rw [toNm_other (fun a b c => hn _)] at q
    cases x <;> first | exact (thB_flat hx).elim | exact absurd rfl (hn _) | (array_get_dec; exact q)
end Dn

end
section
set_option Elab.async false
set_option maxRecDepth 100000
set_option maxHeartbeats 400000
set_option linter.unusedVariables false
set_option exponentiation.threshold 20000
/-! Pu14: what a turn, an arc is, of any thing. -/
namespace Dn
open PySem
local macro_rules | `(tactic| array_get_dec) => `(tactic| simp only [s_cons, s_nil, s_set, s_par, s_par3, s_ex, s_ret, s_retn, s_ite, s_rai, s_tryo, s_pas, s_brk, s_cnt, s_aug, t_nm, t_tup, t_sub, t_nil, t_cons, w_var, w_cst, w_top, w_bin, w_neg, w_cmp, w_cmp2, w_nt, w_and, w_or, w_ife, w_tup, w_rol, w_lst, w_ix, w_sl, w_call, w_prim, w_app, w_ins, w_bits, w_join, w_frz, w_nil, w_cons, w_no, w_so, c_no, c_so,
  okX_ok, isB_bl, br_true, br_false, o_add, o_sub, o_mul, o_fdiv, o_mod, o_pow, o_shl, o_cat, o_strs, o_rols, o_neg, o_lt, o_le, o_gt, o_ge, o_is, o_isn, o_eq, o_ne, o_in, o_nin, o_t0, o_t1, o_t2, o_t3, o_sl, o_slr, o_len, o_lenr, o_abs, o_int, o_intb, o_tupr, o_tupt, o_listt, o_listr, o_listm, o_isi, o_frzr, cf_self, eq_int, okS_then,
  List.getElem?_cons_zero, List.getElem?_cons_succ, List.set_cons_zero, List.set_cons_succ, List.length_cons, List.length_nil, Option.some.injEq, exists_eq_left', exists_eq_left, D.int.injEq, D.bl.injEq, D.tup.injEq, and_true, true_and, Nat.zero_add, Nat.reduceAdd, Nat.reduceLT, Nat.lt_irrefl, tysD, tyD, Bool.not_true, Bool.not_false])
variable {F n : Nat} {s : Sto} {Q : D → Sto → Prop} {X : Nat → Sto → Prop}
def toPair : D → Option (Nm × Nm)
  | .tup [a, b] => match toNm a, toNm b with
    | some y, some z => some (y, z)
    | _, _ => none
  | _ => none
theorem toPair_other {x : D} (h : ∀ a b, x ≠ .tup [a, b]) : toPair x = none := by
  unfold toPair
  split
  · exact absurd rfl (h _ _)
  · rfl
theorem toPair_some {k m d : Nat} {x : D} {p : Nm × Nm} (hx : thB k m d x = true) (h : toPair x = some p) : x = .tup [p.1.d, p.2.d] ∧ NmOk k k p.1 ∧ NmOk k k p.2 := by
  unfold toPair at h
  split at h
  · rename_i a b
    split at h
    · rename_i y z e1 e2
      cases h
      obtain ⟨r1, g1, f1, u1⟩ := toNm_some e1
      obtain ⟨r2, g2, f2, u2⟩ := toNm_some e2
      obtain ⟨d', rfl, _, he⟩ := parts_of hx (.inl rfl)
      have h1 := he a (by simp)
      have h2 := he b (by simp)
      rw [r1] at h1
      rw [r2] at h2
      exact ⟨by rw [r1, r2], nm_ok h1 g1 f1 u1, nm_ok h2 g2 f2 u2⟩
    · cases h
  · cases h
theorem eq2 {xs : List D} : decide (((xs.length : Nat) : Int) = 2) = decide (xs.length = 2) := by
  by_cases h : xs.length = 2
  · rw [h]; rfl
  · rw [decide_eq_false h, decide_eq_false (by omega)]
theorem is_pair_ok {k m d : Nat} {x : D} (hx : thB k m d x = true) (hk : k ≤ 8000) (hF : 2 ^ 10000 ≤ F) (q : Q (.bl (toPair x).isSome) s) : okX (callD F G (n + 4) 32 [x] s) Q X := by
  refine callD_body [some x] b_is_pair g_is_pair rfl rfl rfl ?_
  unfold b_is_pair
  rcases two_or x with ⟨a, b, rfl⟩ | ⟨xs, rfl, hl⟩ | hn
  · obtain ⟨d', rfl, _, he⟩ := parts_of hx (.inl rfl)
    array_get_dec
    rw [show decide (((2 : Nat) : Int) = 2) = true from rfl, br_true]
    refine is_number_ok (he a (by simp)) hk hF ?_
    rw [isB_bl]
    simp only [toPair] at q
    cases e1 : toNm a with
    | none => rw [e1] at q; exact ⟨fun z => (nomatch z), fun _ => q⟩
    | some y =>
      rw [e1] at q
      refine ⟨fun _ => ?_, fun z => (nomatch z)⟩
      refine is_number_ok (he b (by simp)) hk hF ?_
      cases e2 : toNm b with
      | none => rw [e2] at q; exact q
      | some z => rw [e2] at q; exact q
  · rw [toPair_other (fun a b z => hl (by cases z; rfl))] at q
    array_get_dec
    refine ⟨fun h => ?_, fun _ => q⟩
    exfalso
    rw [eq2, decide_eq_false hl] at h; cases h
  · rw [toPair_other (fun a b => hn _)] at q
    cases x <;> first | exact (thB_flat hx).elim | exact absurd rfl (hn _) | (array_get_dec; exact q)
def isTurn (x : D) : Bool := match toPair x with
  | none => false
  | some p => match timesQ p.1 p.1, timesQ p.2 p.2 with
    | some a, some b => (match addQ a b, timesQ p.1 p.2 with
      | some c, some _ => decide (c = plainQ (1, 1))
      | _, _ => false)
    | _, _ => false
theorem is_turn_ok {k m d : Nat} {x : D} (hx : thB k m d x = true) (hk0 : 1 ≤ k) (hk : k ≤ 150) (hF : 2 ^ 10000 ≤ F) (q : Q (.bl (isTurn x)) s) : okX (callD F G (n + 6) 33 [x] s) Q X := by
  refine callD_body [some x, none] b_is_turn g_is_turn rfl rfl rfl ?_
  unfold b_is_turn
  array_get_dec
  refine is_pair_ok hx (by omega) hF ?_
  rw [isB_bl]
  unfold isTurn at q
  cases e : toPair x with
  | none => rw [e] at q; rw [show (!(none : Option (Nm × Nm)).isSome) = true from rfl, br_true]; exact q
  | some p =>
    rw [e] at q
    rw [show (!(some p).isSome) = false from rfl, br_false]
    obtain ⟨ex, h1, h2⟩ := toPair_some hx e
    subst ex
    dsimp only at q
    have ex2 : ∀ s1, Q (.bl false) s1 → (2 ∈ [2] ∧ br (takesC 2 2) (Q (.bl false) s1) (X 2 s1)) := fun s1 h => ⟨by simp, by rw [show takesC 2 2 = true from rfl, br_true]; exact h⟩
    array_get_dec
    refine times_ok hk0 h1 h1 (by omega) hF ?_
    cases e1 : timesQ p.1 p.1 with
    | none => rw [e1] at q; exact ex2 _ q
    | some a =>
      rw [e1] at q
      have a1 := timesQ_ok hk0 h1 h1 e1
      refine times_ok hk0 h2 h2 (by omega) hF ?_
      cases e2 : timesQ p.2 p.2 with
      | none => rw [e2] at q; exact ex2 _ q
      | some b =>
        rw [e2] at q
        dsimp only at q
        have b1 := timesQ_ok hk0 h2 h2 e2
        refine added_ok (by omega) a1 b1 (by omega) (by omega) hF ?_
        cases e3 : addQ a b with
        | none => rw [e3] at q; exact ex2 _ q
        | some c =>
          rw [e3] at q
          refine times_ok hk0 h1 h2 (by omega) hF ?_
          cases e4 : timesQ p.1 p.2 with
          | none => rw [e4] at q; exact ex2 _ q
          | some w =>
            rw [e4] at q
            refine ⟨by decide, ?_⟩
            refine plain_ok (p := (1, 1)) ?_
            exact ⟨_, eq_nm, q⟩
end Dn

end
section
set_option Elab.async false
set_option maxRecDepth 100000
set_option maxHeartbeats 400000
set_option linter.unusedVariables false
set_option exponentiation.threshold 20000
/-! Pu15: even turns, arcs, joints, of any thing. -/
namespace Dn
open PySem
local macro_rules | `(tactic| array_get_dec) => `(tactic| simp only [s_cons, s_nil, s_set, s_par, s_par3, s_ex, s_ret, s_retn, s_ite, s_rai, s_tryo, s_pas, s_brk, s_cnt, s_aug, t_nm, t_tup, t_sub, t_nil, t_cons, w_var, w_cst, w_top, w_bin, w_neg, w_cmp, w_cmp2, w_nt, w_and, w_or, w_ife, w_tup, w_rol, w_lst, w_ix, w_sl, w_call, w_prim, w_app, w_ins, w_bits, w_join, w_frz, w_nil, w_cons, w_no, w_so, c_no, c_so,
  okX_ok, isB_bl, br_true, br_false, o_add, o_sub, o_mul, o_fdiv, o_mod, o_pow, o_shl, o_cat, o_strs, o_rols, o_neg, o_lt, o_le, o_gt, o_ge, o_is, o_isn, o_eq, o_ne, o_in, o_nin, o_t0, o_t1, o_t2, o_t3, o_sl, o_slr, o_len, o_lenr, o_abs, o_int, o_intb, o_tupr, o_tupt, o_listt, o_listr, o_listm, o_isi, o_frzr, cf_self, eq_int, okS_then,
  List.getElem?_cons_zero, List.getElem?_cons_succ, List.set_cons_zero, List.set_cons_succ, List.length_cons, List.length_nil, Option.some.injEq, exists_eq_left', exists_eq_left, D.int.injEq, D.bl.injEq, D.tup.injEq, and_true, true_and, Nat.zero_add, Nat.reduceAdd, Nat.reduceLT, Nat.lt_irrefl, tysD, tyD, Bool.not_true, Bool.not_false])
variable {F n : Nat} {s : Sto} {Q : D → Sto → Prop} {X : Nat → Sto → Prop}
theorem isTurn_pair {x : D} (h : isTurn x = true) : ∃ p, toPair x = some p := by
  unfold isTurn at h
  cases e : toPair x with
  | none => rw [e] at h; cases h
  | some p => exact ⟨p, rfl⟩
def flatPair (x : D) : Bool := match toPair x with
  | some p => decide (p.1.g = 0) && decide (p.2.g = 0)
  | none => false
def isEven (x : D) : Bool := isTurn x && flatPair x
theorem is_even_ok {k m d : Nat} {x : D} (hx : thB k m d x = true) (hk0 : 1 ≤ k) (hk : k ≤ 150) (hF : 2 ^ 10000 ≤ F) (q : Q (.bl (isEven x)) s) : okX (callD F G (n + 7) 34 [x] s) Q X := by
  refine callD_body [some x] b_is_even g_is_even rfl rfl rfl ?_
  unfold b_is_even
  array_get_dec
  refine is_turn_ok hx hk0 hk hF ?_
  rw [isB_bl]
  unfold isEven at q
  cases e : isTurn x with
  | false => rw [e] at q; rw [br_false]; exact q
  | true =>
    rw [e] at q
    rw [br_true]
    obtain ⟨p, ep⟩ := isTurn_pair e
    obtain ⟨ex, _, _⟩ := toPair_some hx ep
    unfold flatPair at q
    rw [ep] at q
    subst ex
    unfold Nm.d
    array_get_dec
    refine ⟨fun h => ?_, fun h => ?_⟩
    · dsimp only at q; rw [h] at q; exact q
    · dsimp only at q; rw [h] at q; exact q
def isArc : D → Bool
  | .tup [a, b] => isEven a && (isEven b && !(D.eqb a b))
  | _ => false
theorem isArc_other {x : D} (h : ∀ a b, x ≠ .tup [a, b]) : isArc x = false := by
  unfold isArc
  split
  · exact absurd rfl (h _ _)
  · rfl
theorem even_nb {k m d : Nat} {x : D} (hx : thB k m d x = true) (h : isEven x = true) : x.nb = true := by
  unfold isEven at h
  rw [Bool.and_eq_true] at h
  obtain ⟨p, ep⟩ := isTurn_pair h.1
  obtain ⟨ex, _, _⟩ := toPair_some hx ep
  rw [ex]; rfl
theorem is_arc_ok {k m d : Nat} {x : D} (hx : thB k m d x = true) (hk0 : 1 ≤ k) (hk : k ≤ 150) (hd : d ≤ 60) (hF : 2 ^ 10000 ≤ F) (q : Q (.bl (isArc x)) s) : okX (callD F G (n + 8) 35 [x] s) Q X := by
  refine callD_body [some x] b_is_arc g_is_arc rfl rfl rfl ?_
  unfold b_is_arc
  rcases two_or x with ⟨a, b, rfl⟩ | ⟨xs, rfl, hl⟩ | hn
  · obtain ⟨d', rfl, _, he⟩ := parts_of hx (.inl rfl)
    have ha := he a (by simp)
    have hb := he b (by simp)
    array_get_dec
    rw [show (!decide (((2 : Nat) : Int) = 2)) = false from rfl, br_false]
    refine is_even_ok ha hk0 hk hF ?_
    rw [isB_bl]
    simp only [isArc] at q
    cases e1 : isEven a with
    | false => rw [e1] at q; rw [Bool.not_false, br_true]; exact q
    | true =>
      rw [e1, Bool.true_and] at q
      rw [Bool.not_true, br_false]
      refine is_even_ok hb hk0 hk hF ?_
      rw [isB_bl]
      cases e2 : isEven b with
      | false => rw [e2] at q; rw [Bool.not_false, br_true]; exact q
      | true =>
        rw [e2, Bool.true_and] at q
        rw [Bool.not_true, br_false]
        exact ⟨_, eqD_nb (even_nb ha e1) (even_nb hb e2) (thB_sh ha (by omega)) (thB_sh hb (by omega)), q⟩
  · rw [isArc_other (fun a b z => hl (by cases z; rfl))] at q
    array_get_dec
    refine ⟨fun _ => q, fun h => ?_⟩
    exfalso
    rw [eq2, decide_eq_false hl] at h; cases h
  · rw [isArc_other (fun a b => hn _)] at q
    cases x <;> first | exact (thB_flat hx).elim | exact absurd rfl (hn _) | (array_get_dec; exact q)
def below : D → D → Bool
  | .tup [.int a, .int b], .tup [.int c, .int d] => decide (a * d < c * b)
  | _, _ => false
def isJoint : D → Bool
  | .tup [.str z, a, b] => decide (z = "turn") && (isFr a && ((match a with | .tup [.int c, _] => decide (0 < c) | _ => false) && (isNon b || isArc b)))
  | .tup [.str z, a, b, c] => decide (z = "slide") && (isEven a && (isFr b && (isFr c && below b c)))
  | _ => false
theorem eq_nil {k m d : Nat} {xs : List D} (hx : thB k m d (.tup xs) = true) (hd : d ≤ 60) : eqD (.tup xs) (.tup []) = some (xs.isEmpty) := by
  unfold eqD
  rw [thB_sh hx (by omega), show SeqAt.shaped (D.tup []).py = true from by decide]
  cases xs <;> rfl
theorem eq_strs {z w : Str} (hz : SeqAt.shaped (D.str z).py = true) (hw : SeqAt.shaped (D.str w).py = true) : eqD (.str z) (.str w) = some (decide (z = w)) := by
  unfold eqD
  rw [hz, hw]
  show some (z == w) = _
  rw [beq_dec]
theorem sh_turn : SeqAt.shaped (D.str "turn").py = true := by decide +kernel
theorem sh_slide : SeqAt.shaped (D.str "slide").py = true := by decide +kernel
theorem is_below_ok {k l : Nat} {x y : Int × Int} (hx : Fr k x) (hy : Fr l y) (hk : k + l ≤ 8000) (q : Q (.bl (decide (x.1 * y.2 < y.1 * x.2))) s) : okX (callD F G (n + 1) 21 [fr x, fr y] s) Q X := by
  refine callD_body [some (fr x), some (fr y)] b_is_below g_is_below rfl rfl rfl ?_
  unfold b_is_below fr
  array_get_dec
  exact ⟨hx.a.mulOk hy.b (by omega), hy.a.mulOk hx.b (by omega), q⟩
theorem isJ_nstr {h : D} {r : List D} (hn : ∀ z, h ≠ .str z) : isJoint (.tup (h :: r)) = false := by
  unfold isJoint
  split
  · rename_i e; injection e with e; injection e with e _; exact absurd e (hn _)
  · rename_i e; injection e with e; injection e with e _; exact absurd e (hn _)
  · rfl
theorem ts_ne : ¬ ("turn" : Str) = "slide" := by decide +kernel
theorem isJ_turn {r : List D} (h : r.length ≠ 2) : isJoint (.tup (.str "turn" :: r)) = false := by
  unfold isJoint
  split
  · rename_i e; injection e with e; injection e with _ e; subst e; exact absurd rfl h
  · rename_i e
    injection e with e
    injection e with e _
    injection e with e
    rw [← e, decide_eq_false ts_ne]; rfl
  · rfl
theorem isJ_slide {r : List D} (h : r.length ≠ 3) : isJoint (.tup (.str "slide" :: r)) = false := by
  unfold isJoint
  split
  · rename_i e
    injection e with e
    injection e with e _
    injection e with e
    rw [← e, decide_eq_false (fun z => ts_ne z.symm)]; rfl
  · rename_i e; injection e with e; injection e with _ e; subst e; exact absurd rfl h
  · rfl
theorem isJ_other {z : Str} {r : List D} (h1 : ¬ z = "turn") (h2 : ¬ z = "slide") : isJoint (.tup (.str z :: r)) = false := by
  unfold isJoint
  split
  · rename_i e
    injection e with e
    injection e with e _
    injection e with e
    rw [← e, decide_eq_false h1]; rfl
  · rename_i e
    injection e with e
    injection e with e _
    injection e with e
    rw [← e, decide_eq_false h2]; rfl
  · rfl
theorem len_is {a b : Nat} (h : a ≠ b) : decide (((a + 1 : Nat) : Int) = ((b + 1 : Nat) : Int)) = false := decide_eq_false (by omega)
theorem is_joint_ok {k m d : Nat} {x : D} (hx : thB k m d x = true) (hk0 : 1 ≤ k) (hk : k ≤ 150) (hd : d ≤ 60) (hF : 2 ^ 10000 ≤ F) (q : Q (.bl (isJoint x)) s) : okX (callD F G (n + 9) 37 [x] s) Q X := by
  refine callD_body [some x] b_is_joint g_is_joint rfl rfl rfl ?_
  unfold b_is_joint
  cases x <;> first | exact (thB_flat hx).elim | (array_get_dec; exact q) | skip
  rename_i xs
  obtain ⟨d', rfl, _, he⟩ := parts_of hx (.inl rfl)
  cases xs with
  | nil => 
    array_get_dec
    refine ⟨by decide, _, eq_nil hx hd, ?_⟩
    rw [show ([] : List D).isEmpty = true from rfl, br_true]
    exact q
  | cons h r =>
    have hh := he h (by simp)
    array_get_dec
    refine ⟨by decide, _, eq_nil hx hd, ?_⟩
    rw [show (h :: r).isEmpty = false from rfl, br_false]
    by_cases hs : ∃ z, h = D.str z
    · obtain ⟨z, rfl⟩ := hs
      array_get_dec
      have sz := thB_sh hh (by omega)
      refine ⟨_, eq_strs sz sh_turn, ?_⟩
      by_cases z1 : z = "turn"
      · subst z1
        rw [decide_eq_true rfl, br_true]
        by_cases l2 : r.length = 2
        · match r, l2 with
          | [a, b], _ =>
            have ha := he a (by simp)
            have hb := he b (by simp)
            array_get_dec
            rw [show decide (((3 : Nat) : Int) = 3) = true from rfl, br_true]
            refine is_fraction_ok (thB_okT ha) (by omega) hF ?_
            simp only [isJoint] at q
            rw [decide_eq_true trivial, Bool.true_and] at q
            rw [isB_bl]
            cases fa : isFr a with
            | false => rw [fa] at q; rw [br_false]; exact q
            | true =>
              rw [fa, Bool.true_and] at q
              rw [br_true]
              obtain ⟨w, ew, _, _⟩ := isFr_true fa
              subst ew
              unfold fr at q ⊢
              array_get_dec
              dsimp only at q
              refine ⟨fun h => ?_, fun h => ?_⟩
              · rw [h, Bool.true_and] at q
                refine ⟨fun h2 => ?_, fun h2 => ?_⟩
                · rw [h2] at q; exact q
                · rw [h2, Bool.false_or] at q
                  exact is_arc_ok hb hk0 hk (by omega) hF q
              · rw [h, Bool.false_and] at q
                exact q
        · have e := len_is l2
          rw [isJ_turn l2] at q
          rw [show decide (((r.length + 1 : Nat) : Int) = 3) = false from e, br_false]
          refine ⟨_, eq_strs sz sh_slide, ?_⟩
          rw [decide_eq_false ts_ne, Bool.not_false, br_true]
          exact q
      · rw [decide_eq_false z1, br_false]
        refine ⟨_, eq_strs sz sh_slide, ?_⟩
        by_cases z2 : z = "slide"
        · subst z2
          rw [decide_eq_true rfl, Bool.not_true, br_false]
          by_cases l3 : r.length = 3
          · match r, l3 with
            | [a, b, c], _ =>
              have ha := he a (by simp)
              have hb := he b (by simp)
              have hc := he c (by simp)
              array_get_dec
              rw [show (!decide (((4 : Nat) : Int) = 4)) = false from rfl, br_false]
              refine is_even_ok ha hk0 hk hF ?_
              simp only [isJoint] at q
              rw [decide_eq_true trivial, Bool.true_and] at q
              rw [isB_bl]
              cases ea : isEven a with
              | false => rw [ea] at q; rw [Bool.not_false, br_true]; exact q
              | true =>
                rw [ea, Bool.true_and] at q
                rw [Bool.not_true, br_false]
                refine is_fraction_ok (thB_okT hb) (by omega) hF ?_
                rw [isB_bl]
                cases fb : isFr b with
                | false => rw [fb] at q; rw [br_false]; exact q
                | true =>
                  rw [fb, Bool.true_and] at q
                  rw [br_true]
                  refine is_fraction_ok (thB_okT hc) (by omega) hF ?_
                  rw [isB_bl]
                  cases fc : isFr c with
                  | false => rw [fc] at q; rw [br_false]; exact q
                  | true =>
                    rw [fc, Bool.true_and] at q
                    rw [br_true]
                    obtain ⟨w, ew, w1, w2⟩ := isFr_true fb
                    obtain ⟨v, ev, v1, v2⟩ := isFr_true fc
                    subst ew ev
                    exact is_below_ok (fr_of hb w1 w2) (fr_of hc v1 v2) (by omega) q
          · have e := len_is l3
            rw [isJ_slide l3] at q
            rw [show decide (((r.length + 1 : Nat) : Int) = 4) = false from e, Bool.not_false, br_true]
            exact q
        · rw [isJ_other z1 z2] at q
          rw [decide_eq_false z2, Bool.not_false, br_true]
          exact q
    · rw [isJ_nstr (fun z e => hs ⟨z, e⟩)] at q
      cases h <;> first | exact (thB_flat hh).elim | exact absurd ⟨_, rfl⟩ hs | (array_get_dec; exact q)
end Dn

end
section
set_option Elab.async false
set_option maxRecDepth 100000
set_option maxHeartbeats 400000
set_option linter.unusedVariables false
set_option exponentiation.threshold 20000
/-! Pu16: the law's word for joints and arms. -/
namespace Dn
open PySem
local macro_rules | `(tactic| array_get_dec) => `(tactic| simp only [s_cons, s_nil, s_set, s_par, s_par3, s_ex, s_ret, s_retn, s_ite, s_rai, s_tryo, s_pas, s_brk, s_cnt, s_aug, t_nm, t_tup, t_sub, t_nil, t_cons, w_var, w_cst, w_top, w_bin, w_neg, w_cmp, w_cmp2, w_nt, w_and, w_or, w_ife, w_tup, w_rol, w_lst, w_ix, w_sl, w_call, w_prim, w_app, w_ins, w_bits, w_join, w_frz, w_nil, w_cons, w_no, w_so, c_no, c_so,
  okX_ok, isB_bl, br_true, br_false, o_add, o_sub, o_mul, o_fdiv, o_mod, o_pow, o_shl, o_cat, o_strs, o_rols, o_neg, o_lt, o_le, o_gt, o_ge, o_is, o_isn, o_eq, o_ne, o_in, o_nin, o_t0, o_t1, o_t2, o_t3, o_sl, o_slr, o_len, o_lenr, o_abs, o_int, o_intb, o_tupr, o_tupt, o_listt, o_listr, o_listm, o_isi, o_frzr, cf_self, eq_int, okS_then,
  List.getElem?_cons_zero, List.getElem?_cons_succ, List.set_cons_zero, List.set_cons_succ, List.length_cons, List.length_nil, Option.some.injEq, exists_eq_left', exists_eq_left, D.int.injEq, D.bl.injEq, D.tup.injEq, and_true, true_and, Nat.zero_add, Nat.reduceAdd, Nat.reduceLT, Nat.lt_irrefl, tysD, tyD, Bool.not_true, Bool.not_false])
variable {F n : Nat} {s : Sto} {Q : D → Sto → Prop} {X : Nat → Sto → Prop}
def oddParts (l : List Nm) : List D := (l.filter fun y => decide (y.g ≠ 0)).map Nm.d
theorem odd_sh (l : List Nm) : SeqAt.shaped (D.rol (oddParts l)).py = true := by
  have all : ∀ l : List Nm, PyData.canLayAll0 (D.pys (l.map Nm.d)) = true ∧ PyData.depthAll (D.pys (l.map Nm.d)) ≤ 2 := by
    intro l
    induction l with
    | nil => exact ⟨rfl, Nat.zero_le _⟩
    | cons y r ih =>
      obtain ⟨a, b⟩ := ih
      simp only [List.map_cons, D.pys, PyData.canLayAll0, PyData.depthAll, a, Bool.and_true]
      refine ⟨?_, ?_⟩
      · simp [Nm.d, fr, D.py, D.pys, PyData.canLay0, PyData.canLayAll0]
      · have : y.d.py.depth ≤ 2 := by simp [Nm.d, fr, D.py, D.pys, PyData.depth, PyData.depthAll]
        omega
  obtain ⟨a, b⟩ := all (l.filter fun y => decide (y.g ≠ 0))
  unfold SeqAt.shaped oddParts
  simp only [D.py, PyData.canLay0, PyData.depth, a, Bool.true_and, decide_eq_true_eq]
  omega
theorem odd_eq (l : List Nm) : eqD (.rol (oddParts l)) (.rol []) = some (oddParts l).isEmpty := by
  unfold eqD
  rw [odd_sh l, show SeqAt.shaped (D.rol []).py = true from by decide]
  cases oddParts l <;> rfl
theorem two_lt (hF : 2 ^ 10000 ≤ F) {k : Nat} (hk : k ≤ 2 ^ 30) : k < F := by
  have : 2 ^ 31 ≤ 2 ^ 10000 := Nat.pow_le_pow_right (by decide) (by decide)
  omega
theorem o_ixt1 {a : List D} {d : D} (h : a[1]? = some d) : okX (ixD s (.tup a) (.int 1)) Q X = Q d s := o_ixt (k := 1) h
theorem parts_lc {nn : Nat} {cf : Cf} {y z : Nm} {o : Option D} (hF : 2 ^ 10000 ≤ F) {a : List D} (h : a[1]? = some (.tup [y.d, z.d])) (q : Q (.rol (oddParts [y, z])) s) :
    okX (denE F cf nn (.lc [1] (.nm 1) (.seq (.ix (.var 0) (.cst (.int 1)))) (.so (.cmp .ne (.ix (.var 1) (.cst (.int 1))) (.cst (.int 0)))) (.var 1)) [some (.tup a), o] s) Q X := by
  refine w_lc (fun i acc s2 => s2 = s ∧ acc = oddParts (([y, z] : List Nm).take i)) ?_
  rw [i_seq]
  rw [w_ix, w_var]
  refine ⟨_, rfl, ?_⟩
  rw [w_cst, o_ixt1 h]
  refine ⟨_, rfl, _, rfl, two_lt hF (show (2 : Nat) ≤ 2 ^ 30 by decide), ⟨rfl, rfl⟩, ?_, ?_⟩
  · rintro i d acc s2 hi ⟨rfl, rfl⟩
    match i, hi with
    | 0, hi =>
      cases hi
      unfold Nm.d
      simp only [wipeE]
      array_get_dec
      refine ⟨fun h => ?_, fun h => ?_⟩
      · refine ⟨show lineLt 0 = true by decide, ?_⟩
        have h : y.g ≠ 0 := by simpa using h
        simp [oddParts, h, Nm.d]
      · have h : y.g = 0 := by simpa using h
        simp [oddParts, h]
    | 1, hi =>
      cases hi
      unfold Nm.d
      simp only [wipeE]
      array_get_dec
      refine ⟨fun h => ?_, fun h => ?_⟩
      · have h : z.g ≠ 0 := by simpa using h
        refine ⟨?_, ?_⟩
        · have : (oddParts (([y, z] : List Nm).take 1)).length ≤ 1 := by
            unfold oddParts; rw [List.length_map]
            exact Nat.le_trans (List.length_filter_le _ _) (by simp)
          unfold lineLt
          have : (1 : Nat) < sizeLine := by decide
          exact decide_eq_true (by omega)
        · by_cases hy : y.g = 0 <;> simp [oddParts, h, hy, Nm.d]
      · have h : z.g = 0 := by simpa using h
        by_cases hy : y.g = 0 <;> simp [oddParts, h, hy]
    | i + 2, hi => simp at hi
  · rintro acc s2 ⟨rfl, rfl⟩
    exact q
theorem odd_none {x : D} {p : Nm × Nm} (h : toPair x = some p) : flatPair x = (oddParts [p.1, p.2]).isEmpty := by
  unfold flatPair
  rw [h]
  by_cases h1 : p.1.g = 0 <;> by_cases h2 : p.2.g = 0 <;> simp [oddParts, h1, h2]
theorem law_is_joint_ok {k m d : Nat} {x : D} (hx : thB k m d x = true) (hk0 : 1 ≤ k) (hk : k ≤ 150) (hd : d ≤ 60) (hF : 2 ^ 10000 ≤ F) (q : Q (.bl (isJoint x)) s) : okX (callD F G (n + 9) 47 [x] s) Q X := by
  refine callD_body [some x, none] b_law_is_joint g_law_is_joint rfl rfl rfl ?_
  unfold b_law_is_joint
  cases x <;> first | exact (thB_flat hx).elim | (array_get_dec; exact q) | skip
  rename_i xs
  obtain ⟨d', rfl, _, he⟩ := parts_of hx (.inl rfl)
  cases xs with
  | nil =>
    array_get_dec
    refine ⟨by decide, _, eq_nil hx hd, ?_⟩
    rw [show ([] : List D).isEmpty = true from rfl, br_true]
    exact q
  | cons h r =>
    have hh := he h (by simp)
    array_get_dec
    refine ⟨by decide, _, eq_nil hx hd, ?_⟩
    rw [show (h :: r).isEmpty = false from rfl, br_false]
    by_cases hs : ∃ z, h = D.str z
    · obtain ⟨z, rfl⟩ := hs
      array_get_dec
      have sz := thB_sh hh (by omega)
      refine ⟨_, eq_strs sz sh_turn, ?_⟩
      by_cases z1 : z = "turn"
      · subst z1
        rw [decide_eq_true rfl, br_true]
        by_cases l2 : r.length = 2
        · match r, l2 with
          | [a, b], _ =>
            have ha := he a (by simp)
            have hb := he b (by simp)
            array_get_dec
            rw [show decide (((3 : Nat) : Int) = 3) = true from rfl, br_true]
            refine is_fraction_ok (thB_okT ha) (by omega) hF ?_
            simp only [isJoint] at q
            rw [decide_eq_true trivial, Bool.true_and] at q
            rw [isB_bl]
            cases fa : isFr a with
            | false => rw [fa] at q; rw [br_false]; exact q
            | true =>
              rw [fa, Bool.true_and] at q
              rw [br_true]
              obtain ⟨w, ew, _, _⟩ := isFr_true fa
              subst ew
              unfold fr at q ⊢
              array_get_dec
              dsimp only at q
              refine ⟨fun h => ?_, fun h => ?_⟩
              · rw [h, Bool.true_and] at q
                refine ⟨fun h2 => ?_, fun h2 => ?_⟩
                · rw [h2] at q; exact q
                · rw [h2, Bool.false_or] at q
                  exact is_arc_ok hb hk0 hk (by omega) hF q
              · rw [h, Bool.false_and] at q
                exact q
        · have e := len_is l2
          rw [isJ_turn l2] at q
          rw [show decide (((r.length + 1 : Nat) : Int) = 3) = false from e, br_false]
          refine ⟨_, eq_strs sz sh_slide, ?_⟩
          rw [decide_eq_false ts_ne, Bool.not_false, br_true]
          exact q
      · rw [decide_eq_false z1, br_false]
        refine ⟨_, eq_strs sz sh_slide, ?_⟩
        by_cases z2 : z = "slide"
        · subst z2
          rw [decide_eq_true rfl, Bool.not_true, br_false]
          by_cases l3 : r.length = 3
          · match r, l3 with
            | [a, b, c], _ =>
              have ha := he a (by simp)
              have hb := he b (by simp)
              have hc := he c (by simp)
              array_get_dec
              rw [show (!decide (((4 : Nat) : Int) = 4)) = false from rfl, br_false]
              refine is_turn_ok (n := n + 2) ha hk0 hk hF ?_
              simp only [isJoint, isEven] at q
              rw [decide_eq_true trivial, Bool.true_and] at q
              rw [isB_bl]
              cases ea : isTurn a with
              | false => rw [ea] at q; rw [Bool.not_false, br_true]; exact q
              | true =>
                rw [ea, Bool.true_and] at q
                rw [Bool.not_true, br_false]
                refine is_fraction_ok (thB_okT hb) (by omega) hF ?_
                rw [isB_bl]
                obtain ⟨p, ep⟩ := isTurn_pair ea
                obtain ⟨ex, _, _⟩ := toPair_some ha ep
                rw [odd_none ep] at q
                cases fb : isFr b with
                | false => rw [fb] at q; rw [Bool.not_false, br_true]; rw [Bool.false_and, Bool.and_false] at q; exact q
                | true =>
                  rw [fb, Bool.true_and] at q
                  rw [Bool.not_true, br_false]
                  refine parts_lc (y := p.1) (z := p.2) hF (by rw [ex]; rfl) ?_
                  refine ⟨by decide, _, odd_eq _, ?_⟩
                  cases eo : (oddParts [p.1, p.2]).isEmpty with
                  | false => rw [eo] at q; rw [Bool.not_false, br_true]; exact q
                  | true =>
                    rw [eo, Bool.true_and] at q
                    rw [Bool.not_true, br_false]
                    refine is_fraction_ok (thB_okT hc) (by omega) hF ?_
                    rw [isB_bl]
                    cases fc : isFr c with
                    | false => rw [fc] at q; rw [Bool.not_false, br_true]; exact q
                    | true =>
                      rw [fc, Bool.true_and] at q
                      rw [Bool.not_true, br_false]
                      obtain ⟨w, ew, w1, w2⟩ := isFr_true fb
                      obtain ⟨v, ev, v1, v2⟩ := isFr_true fc
                      subst ew ev
                      have f1 := fr_of hb w1 w2
                      have f2 := fr_of hc v1 v2
                      unfold fr at q ⊢
                      array_get_dec
                      exact ⟨f1.a.mulOk f2.b (by omega), f2.a.mulOk f1.b (by omega), q⟩
          · have e := len_is l3
            rw [isJ_slide l3] at q
            rw [show decide (((r.length + 1 : Nat) : Int) = 4) = false from e, Bool.not_false, br_true]
            exact q
        · rw [isJ_other z1 z2] at q
          rw [decide_eq_false z2, Bool.not_false, br_true]
          exact q
    · rw [isJ_nstr (fun z e => hs ⟨z, e⟩)] at q
      cases h <;> first | exact (thB_flat hh).elim | exact absurd ⟨_, rfl⟩ hs | (array_get_dec; exact q)
end Dn

end
section
set_option Elab.async false
set_option maxRecDepth 100000
set_option maxHeartbeats 400000
set_option linter.unusedVariables false
set_option exponentiation.threshold 20000
/-! Pu17: arms, of any thing. -/
namespace Dn
open PySem
local macro_rules | `(tactic| array_get_dec) => `(tactic| simp only [s_cons, s_nil, s_set, s_par, s_par3, s_ex, s_ret, s_retn, s_ite, s_rai, s_tryo, s_pas, s_brk, s_cnt, s_aug, t_nm, t_tup, t_sub, t_nil, t_cons, w_var, w_cst, w_top, w_bin, w_neg, w_cmp, w_cmp2, w_nt, w_and, w_or, w_ife, w_tup, w_rol, w_lst, w_ix, w_sl, w_call, w_prim, w_app, w_ins, w_bits, w_join, w_frz, w_nil, w_cons, w_no, w_so, c_no, c_so,
  okX_ok, isB_bl, br_true, br_false, o_add, o_sub, o_mul, o_fdiv, o_mod, o_pow, o_shl, o_cat, o_strs, o_rols, o_neg, o_lt, o_le, o_gt, o_ge, o_is, o_isn, o_eq, o_ne, o_in, o_nin, o_t0, o_t1, o_t2, o_t3, o_sl, o_slr, o_len, o_lenr, o_abs, o_int, o_intb, o_tupr, o_tupt, o_listt, o_listr, o_listm, o_isi, o_frzr, cf_self, eq_int, okS_then,
  List.getElem?_cons_zero, List.getElem?_cons_succ, List.set_cons_zero, List.set_cons_succ, List.length_cons, List.length_nil, Option.some.injEq, exists_eq_left', exists_eq_left, D.int.injEq, D.bl.injEq, D.tup.injEq, and_true, true_and, Nat.zero_add, Nat.reduceAdd, Nat.reduceLT, Nat.lt_irrefl, tysD, tyD, Bool.not_true, Bool.not_false])
variable {F n : Nat} {s : Sto} {Q : D → Sto → Prop} {X : Nat → Sto → Prop}
/-- a comprehension that leaves the store: each thing turned -/
theorem lc_map {cf : Cf} {env : Env} {own : List Nat} {v : Nat} {it : It} {el : E} {xs : List D} (f : D → D) (hit : okX (denIt F cf n it env s) (fun w s1 => w = .items xs ∧ s1 = s) X) (hF : xs.length < F) (hl : xs.length ≤ 1000000) (hv : v < (wipeE env own).length)
    (hel : ∀ d ∈ xs, ∀ Q' : D → Sto → Prop, Q' (f d) s → okX (denE F cf n el ((wipeE env own).set v (some d)) s) Q' NoE) (q : Q (.rol (xs.map f)) s) : okX (denE F cf n (.lc own (.nm v) it .no el) env s) Q X := by
  refine w_lc (fun i acc s2 => s2 = s ∧ acc = (xs.take i).map f) (okX_mono hit (fun w s1 => ?_) fun _ _ h => h)
  rintro ⟨rfl, rfl⟩
  refine ⟨xs, rfl, hF, ⟨rfl, rfl⟩, ?_, ?_⟩
  · rintro i d acc s2 hi ⟨rfl, rfl⟩
    rw [t_nm]
    refine ⟨hv, ?_⟩
    dsimp only
    rw [c_no, isB_bl, br_true]
    refine hel d (List.mem_of_getElem? hi) _ ⟨?_, rfl, ?_⟩
    · have lt : i < xs.length := (List.getElem?_eq_some_iff.mp hi).1
      unfold lineLt
      refine decide_eq_true ?_
      rw [List.length_map, List.length_take]
      unfold sizeLine
      omega
    · rw [List.take_succ, hi, List.map_append]; rfl
  · rintro acc s2 ⟨rfl, rfl⟩
    rw [List.take_length]
    exact q
/-- .. some of the things -/
theorem lc_filter {cf : Cf} {env : Env} {own : List Nat} {v : Nat} {it : It} {c : E} {xs : List D} (p : D → Bool) (hit : okX (denIt F cf n it env s) (fun w s1 => w = .items xs ∧ s1 = s) X) (hF : xs.length < F) (hl : xs.length ≤ 1000000) (hv : v < (wipeE env own).length)
    (hel : ∀ d ∈ xs, ∀ Q' : D → Sto → Prop, Q' (.bl (p d)) s → okX (denE F cf n c ((wipeE env own).set v (some d)) s) Q' NoE) (q : Q (.rol (xs.filter p)) s) : okX (denE F cf n (.lc own (.nm v) it (.so c) (.var v)) env s) Q X := by
  refine w_lc (fun i acc s2 => s2 = s ∧ acc = (xs.take i).filter p) (okX_mono hit (fun w s1 => ?_) fun _ _ h => h)
  rintro ⟨rfl, rfl⟩
  refine ⟨xs, rfl, hF, ⟨rfl, rfl⟩, ?_, ?_⟩
  · rintro i d acc s2 hi ⟨rfl, rfl⟩
    rw [t_nm]
    refine ⟨hv, ?_⟩
    dsimp only
    rw [c_so]
    have et : xs.take (i + 1) = xs.take i ++ [d] := by rw [List.take_succ, hi]; rfl
    refine hel d (List.mem_of_getElem? hi) _ ?_
    rw [isB_bl]
    refine ⟨fun h => ?_, fun h => ?_⟩
    · rw [w_var]
      refine ⟨d, List.getElem?_set_self hv, ?_, rfl, ?_⟩
      · have lt : i < xs.length := (List.getElem?_eq_some_iff.mp hi).1
        unfold lineLt
        refine decide_eq_true ?_
        have := List.length_filter_le p (xs.take i)
        rw [List.length_take] at this
        unfold sizeLine
        omega
      · rw [et, List.filter_append]; simp [h]
    · refine ⟨rfl, ?_⟩
      rw [et, List.filter_append]; simp [h]
  · rintro acc s2 ⟨rfl, rfl⟩
    rw [List.take_length]
    exact q
def headTurn : D → Bool
  | .tup (.str z :: _) => decide (z = "turn")
  | _ => false
def isArm : D → Bool
  | .tup xs => (decide (xs.length = 2) || decide (xs.length = 3)) && (xs.all isJoint && (decide (xs.length = 2) || xs.any headTurn))
  | _ => false
theorem in23 {xs : List D} : inD s (.int (xs.length : Nat)) (.tup [.int 2, .int 3]) = some (decide (xs.length = 2) || decide (xs.length = 3)) := by
  have sh : ∀ k : Int, SeqAt.shaped (D.int k).py = true := fun k => by simp [SeqAt.shaped, D.py, PyData.canLay0, PyData.depth]
  have s3 : SeqAt.shaped (D.tup [.int 2, .int 3]).py = true := by decide
  simp only [inD]
  rw [sh, s3]
  simp only [Bool.and_self, if_true, D.pys, D.py, List.any_cons, List.any_nil, PyData.eqv, beq_dec, Bool.or_false]
  congr 1
  have e2 : decide ((2 : Int) = ((xs.length : Nat) : Int)) = decide (xs.length = 2) := by
    by_cases h : xs.length = 2
    · rw [h]; rfl
    · rw [decide_eq_false h, decide_eq_false (by omega)]
  have e3 : decide ((3 : Int) = ((xs.length : Nat) : Int)) = decide (xs.length = 3) := by
    by_cases h : xs.length = 3
    · rw [h]; rfl
    · rw [decide_eq_false h, decide_eq_false (by omega)]
  rw [e2, e3]
theorem bools_map {xs : List D} {p : D → Bool} : boolsOf (xs.map fun y => .bl (p y)) = some (xs.map p) := by
  induction xs with
  | nil => rfl
  | cons y r ih => simp only [List.map_cons, boolsOf, ih]; rfl
theorem joint_head {y : D} (h : isJoint y = true) : ∃ z r, y = .tup (.str z :: r) := by
  unfold isJoint at h
  split at h
  · exact ⟨_, _, rfl⟩
  · exact ⟨_, _, rfl⟩
  · cases h
theorem is_arm_ok {k m d : Nat} {x : D} (hx : thB k m d x = true) (hk0 : 1 ≤ k) (hk : k ≤ 150) (hd : d ≤ 60) (hm : m ≤ 1000) (hF : 2 ^ 10000 ≤ F) (q : Q (.bl (isArm x)) s) : okX (callD F G (n + 10) 38 [x] s) Q X := by
  refine callD_body [some x, none] b_is_arm g_is_arm rfl rfl rfl ?_
  unfold b_is_arm
  cases x <;> first | exact (thB_flat hx).elim | (array_get_dec; exact q) | skip
  rename_i xs
  obtain ⟨d', rfl, hl, he⟩ := parts_of hx (.inl rfl)
  array_get_dec
  refine ⟨by decide, _, in23, ?_⟩
  simp only [isArm] at q
  cases e0 : (decide (xs.length = 2) || decide (xs.length = 3)) with
  | false => rw [e0] at q; rw [Bool.not_false, br_true]; exact q
  | true =>
    rw [e0, Bool.true_and] at q
    rw [Bool.not_true, br_false]
    have hit : okX (denIt F (callT F G (n + 9)) (n + 9) (.seq (.var 0)) [some (.tup xs), none] s) (fun w s1 => w = .items xs ∧ s1 = s) X := by
      rw [i_seq, w_var]
      exact ⟨_, rfl, _, rfl, rfl, rfl⟩
    refine lc_map (fun y => .bl (isJoint y)) hit (two_lt hF (by omega)) (by omega) (show (1 : Nat) < 2 by decide) (fun y hy Q' hq => ?_) ?_
    · rw [w_call, w_cons, w_var]
      refine ⟨y, rfl, ?_⟩
      rw [w_nil]
      exact is_joint_ok (he y hy) hk0 hk (by omega) hF hq
    · rw [o_all bools_map, isB_bl]
      have ea : (xs.map isJoint).all id = xs.all isJoint := by rw [List.all_map]; rfl
      rw [ea]
      cases e1 : xs.all isJoint with
      | false => rw [e1] at q; rw [Bool.not_false, br_true]; exact q
      | true =>
        rw [e1, Bool.true_and] at q
        rw [Bool.not_true, br_false]
        rw [eq2]
        cases e2 : decide (xs.length = 2) with
        | true => rw [e2] at q; rw [br_true]; exact q
        | false =>
          rw [e2, Bool.false_or] at q
          rw [br_false]
          refine lc_map (fun y => .bl (headTurn y)) hit (two_lt hF (by omega)) (by omega) (show (1 : Nat) < 2 by decide) (fun y hy Q' hq => ?_) ?_
          · obtain ⟨z, r, rfl⟩ := joint_head (List.all_eq_true.mp e1 y hy)
            have hy' := he _ hy
            obtain ⟨d2, rfl, _, he2⟩ := parts_of hy' (.inl rfl)
            have sz := thB_sh (he2 (.str z) (by simp)) (by omega)
            rw [w_cmp, w_ix, w_var]
            refine ⟨_, rfl, ?_⟩
            rw [w_cst, o_t0, w_cst, o_eq]
            exact ⟨_, eq_strs sz sh_turn, hq⟩
          · rw [o_any bools_map]
            have ea : (xs.map headTurn).any id = xs.any headTurn := by rw [List.any_map]; rfl
            rw [ea]; exact q
end Dn

end
section
set_option Elab.async false
set_option maxRecDepth 100000
set_option maxHeartbeats 400000
set_option linter.unusedVariables false
set_option exponentiation.threshold 20000
/-! Pu18: the law's arms; what is the same. -/
namespace Dn
open PySem
local macro_rules | `(tactic| array_get_dec) => `(tactic| simp only [s_cons, s_nil, s_set, s_par, s_par3, s_ex, s_ret, s_retn, s_ite, s_rai, s_tryo, s_pas, s_brk, s_cnt, s_aug, t_nm, t_tup, t_sub, t_nil, t_cons, w_var, w_cst, w_top, w_bin, w_neg, w_cmp, w_cmp2, w_nt, w_and, w_or, w_ife, w_tup, w_rol, w_lst, w_ix, w_sl, w_call, w_prim, w_app, w_ins, w_bits, w_join, w_frz, w_nil, w_cons, w_no, w_so, c_no, c_so,
  okX_ok, isB_bl, br_true, br_false, o_add, o_sub, o_mul, o_fdiv, o_mod, o_pow, o_shl, o_cat, o_strs, o_rols, o_neg, o_lt, o_le, o_gt, o_ge, o_is, o_isn, o_eq, o_ne, o_in, o_nin, o_t0, o_t1, o_t2, o_t3, o_sl, o_slr, o_len, o_lenr, o_abs, o_int, o_intb, o_tupr, o_tupt, o_listt, o_listr, o_listm, o_isi, o_frzr, cf_self, eq_int, okS_then,
  List.getElem?_cons_zero, List.getElem?_cons_succ, List.set_cons_zero, List.set_cons_succ, List.length_cons, List.length_nil, Option.some.injEq, exists_eq_left', exists_eq_left, D.int.injEq, D.bl.injEq, D.tup.injEq, and_true, true_and, Nat.zero_add, Nat.reduceAdd, Nat.reduceLT, Nat.lt_irrefl, tysD, tyD, Bool.not_true, Bool.not_false])
variable {F n : Nat} {s : Sto} {Q : D → Sto → Prop} {X : Nat → Sto → Prop}
theorem eq_rnil {k m d : Nat} {ys : List D} (h : thB k m d (.rol ys) = true) (hd : d ≤ 64) : eqD (.rol ys) (.rol []) = some ys.isEmpty := by
  unfold eqD
  rw [thB_sh h hd, show SeqAt.shaped (D.rol []).py = true from by decide]
  cases ys <;> rfl
def headD : D → D
  | .tup (h :: _) => h
  | _ => .non
theorem head_any {xs : List D} (h : ∀ y ∈ xs, isJoint y = true) : ((D.pys (xs.map headD)).any fun z => PyData.eqv z (D.str "turn").py) = xs.any headTurn := by
  induction xs with
  | nil => rfl
  | cons y r ih =>
    obtain ⟨z, q, rfl⟩ := joint_head (h y (by simp))
    simp only [List.map_cons, D.pys, List.any_cons]
    rw [ih fun y hy => h y (by simp [hy])]
    rfl
theorem law_is_arm_ok {k m d : Nat} {x : D} (hx : thB k m d x = true) (hk0 : 1 ≤ k) (hk : k ≤ 150) (hd : d ≤ 60) (hm : m ≤ 1000) (hF : 2 ^ 10000 ≤ F) (q : Q (.bl (isArm x)) s) : okX (callD F G (n + 10) 48 [x] s) Q X := by
  refine callD_body [some x, none, none] b_law_is_arm g_law_is_arm rfl rfl rfl ?_
  unfold b_law_is_arm
  cases x <;> first | exact (thB_flat hx).elim | (array_get_dec; exact q) | skip
  rename_i xs
  obtain ⟨d', rfl, hl, he⟩ := parts_of hx (.inl rfl)
  array_get_dec
  refine ⟨by decide, _, in23, ?_⟩
  simp only [isArm] at q
  cases e0 : (decide (xs.length = 2) || decide (xs.length = 3)) with
  | false => rw [e0] at q; rw [Bool.not_false, br_true]; exact q
  | true =>
    rw [e0, Bool.true_and] at q
    rw [Bool.not_true, br_false]
    have hit : okX (denIt F (callT F G (n + 9)) (n + 9) (.seq (.var 0)) [some (.tup xs), none, none] s) (fun w s1 => w = .items xs ∧ s1 = s) X := by
      rw [i_seq, w_var]
      exact ⟨_, rfl, _, rfl, rfl, rfl⟩
    refine lc_filter (fun y => !isJoint y) hit (two_lt hF (by omega)) (by omega) (show (1 : Nat) < 3 by decide) (fun y hy Q' hq => ?_) ?_
    · rw [w_nt, w_call, w_cons, w_var]
      refine ⟨y, rfl, ?_⟩
      rw [w_nil]
      refine law_is_joint_ok (he y hy) hk0 hk (by omega) hF ?_
      rw [isB_bl]; exact hq
    · have sub : thB k m (d' + 1) (.rol (xs.filter fun y => !isJoint y)) = true :=
        (thB_parts (Nat.le_refl _) (Nat.le_refl _) (Nat.le_refl _) (Nat.le_trans (List.length_filter_le _ _) hl) fun y hy => he y ((List.mem_filter.mp hy).1)).2
      refine ⟨by decide, _, eq_rnil sub (by omega), ?_⟩
      have ee : (xs.filter fun y => !isJoint y).isEmpty = xs.all isJoint := by
        clear e0 hit sub q hl he hx
        induction xs with
        | nil => rfl
        | cons y r ih =>
          cases hj : isJoint y <;> simp [hj, ih]
      rw [ee]
      cases e1 : xs.all isJoint with
      | false => rw [e1] at q; rw [Bool.not_false, br_true]; exact q
      | true =>
        rw [e1, Bool.true_and] at q
        rw [Bool.not_true, br_false]
        rw [eq2]
        cases e2 : decide (xs.length = 2) with
        | true => rw [e2] at q; rw [br_true]; exact q
        | false =>
          rw [e2, Bool.false_or] at q
          rw [br_false]
          have all := List.all_eq_true.mp e1
          refine lc_map headD hit (two_lt hF (by omega)) (by omega) (show (2 : Nat) < 3 by decide) (fun y hy Q' hq => ?_) ?_
          · obtain ⟨z, r, rfl⟩ := joint_head (all y hy)
            rw [w_ix, w_var]
            refine ⟨_, rfl, ?_⟩
            rw [w_cst, o_t0]
            exact hq
          · have hsh : thB k m (d' + 1) (.rol (xs.map headD)) = true := by
              refine (thB_parts (k := k) (m := m) (d := d') (Nat.le_refl _) (Nat.le_refl _) (Nat.le_refl _) (by rw [List.length_map]; exact hl) fun w hw => ?_).2
              obtain ⟨y, hy, rfl⟩ := List.mem_map.mp hw
              obtain ⟨z, r, rfl⟩ := joint_head (all y hy)
              obtain ⟨d2, e, _, he2⟩ := parts_of (he _ hy) (.inl rfl)
              exact thB_mono (Nat.le_refl _) (Nat.le_refl _) (by omega) (he2 (.str z) (by simp))
            refine ⟨xs.any headTurn, ?_, q⟩
            show (if (SeqAt.shaped (D.str "turn").py && SeqAt.shaped (D.rol (xs.map headD)).py) = true then some ((D.pys (xs.map headD)).any fun z => PyData.eqv z (D.str "turn").py) else none) = _
            rw [sh_turn, thB_sh hsh (by omega), head_any all]; rfl
theorem sort_bl {b : Bool} (q : Q (.str "truth") s) : okX (callD F G (n + 1) 10 [.bl b] s) Q X := by
  refine callD_body [some (.bl b)] b_law_sort g_law_sort rfl rfl rfl ?_
  unfold b_law_sort
  array_get_dec
  exact q
theorem same_bl {a b : Bool} (q : Q (.bl (decide (a = b))) s) : okX (callD F G (n + 2) 11 [.bl a, .bl b] s) Q X := by
  refine callD_body [some (.bl a), some (.bl b), none, none] b_law_same g_law_same rfl rfl rfl ?_
  unfold b_law_same
  array_get_dec
  refine sort_bl (sort_bl ?_)
  have st : SeqAt.shaped (D.str "truth").py = true := by decide +kernel
  refine ⟨_, eq_strs st st, ?_⟩
  rw [decide_eq_true rfl, Bool.not_true, br_false]
  refine ⟨_, ?_, q⟩
  cases a <;> cases b <;> decide
end Dn

end
section
set_option Elab.async false
set_option maxRecDepth 100000
set_option maxHeartbeats 400000
set_option linter.unusedVariables false
set_option exponentiation.threshold 20000
/-! Pu19: the law's own arms. -/
namespace Dn
open PySem
local macro_rules | `(tactic| array_get_dec) => `(tactic| simp only [s_cons, s_nil, s_set, s_par, s_par3, s_ex, s_ret, s_retn, s_ite, s_rai, s_tryo, s_pas, s_brk, s_cnt, s_aug, t_nm, t_tup, t_sub, t_nil, t_cons, w_var, w_cst, w_top, w_bin, w_neg, w_cmp, w_cmp2, w_nt, w_and, w_or, w_ife, w_tup, w_rol, w_lst, w_ix, w_sl, w_call, w_prim, w_app, w_ins, w_bits, w_join, w_frz, w_nil, w_cons, w_no, w_so, c_no, c_so,
  okX_ok, isB_bl, br_true, br_false, o_add, o_sub, o_mul, o_fdiv, o_mod, o_pow, o_shl, o_cat, o_strs, o_rols, o_neg, o_lt, o_le, o_gt, o_ge, o_is, o_isn, o_eq, o_ne, o_in, o_nin, o_t0, o_t1, o_t2, o_t3, o_sl, o_slr, o_len, o_lenr, o_abs, o_int, o_intb, o_tupr, o_tupt, o_listt, o_listr, o_listm, o_isi, o_frzr, cf_self, eq_int, okS_then,
  List.getElem?_cons_zero, List.getElem?_cons_succ, List.set_cons_zero, List.set_cons_succ, List.length_cons, List.length_nil, Option.some.injEq, exists_eq_left', exists_eq_left, D.int.injEq, D.bl.injEq, D.tup.injEq, and_true, true_and, Nat.zero_add, Nat.reduceAdd, Nat.reduceLT, Nat.lt_irrefl, tysD, tyD, Bool.not_true, Bool.not_false])
variable {F n : Nat} {s : Sto} {Q : D → Sto → Prop} {X : Nat → Sto → Prop}
theorem small_sm {r : Int} {a : Nat} (h0 : -(2 ^ a : Nat) < r) (h : r < (2 ^ a : Nat)) : Sm a r := by
  unfold Sm; omega
theorem thB_fr {k m : Nat} {p : Int × Int} (h : Fr k p) (hm : 2 ≤ m) : thB k m 1 (fr p) = true := by
  have a := h.a
  have b := h.b
  unfold Sm at a b
  simp [fr, thB, a, b, hm]
theorem sq0 (u : Int) : 0 ≤ u * u := by
  rcases Int.le_total 0 u with z | z
  · exact Int.mul_nonneg z z
  · exact Int.mul_nonneg_of_nonpos_of_nonpos z z
theorem law_plain_ok {x : D} (q : Q (.tup [x, .int 0, fr (0, 1)]) s) : okX (callD F G (n + 1) 40 [x] s) Q X := by
  refine callD_body [some x] b_law_plain g_law_plain rfl rfl rfl ?_
  unfold b_law_plain
  array_get_dec
  exact ⟨by decide, by decide, q⟩
theorem law_plus_ok {k l : Nat} {x y : Int × Int} (hx : Fr k x) (hy : Fr l y) (hk : k + l + 1 ≤ 8000) (hF : 2 ^ 10000 ≤ F) (q : ∀ p, Fr (k + l + 1) p → Q (fr p) s) : okX (callD F G (n + 2) 39 [fr x, fr y] s) Q X := by
  refine callD_body [some (fr x), some (fr y)] b_law_plus g_law_plus rfl rfl rfl ?_
  unfold b_law_plus fr
  array_get_dec
  have p : x.2 * y.2 ≠ 0 := Int.mul_ne_zero (Int.ne_of_gt hx.p) (Int.ne_of_gt hy.p)
  have s1 : Sm (k + l + 1) (x.1 * y.2 + y.1 * x.2) := (hx.a.mul hy.b).add ((hy.a.mul hx.b).le (by omega))
  have s2 : Sm (k + l + 1) (x.2 * y.2) := (hx.b.mul hy.b).le (by omega)
  refine ⟨hx.a.mulOk hy.b (by omega), hy.a.mulOk hx.b (by omega), hx.b.mulOk hy.b (by omega), ?_⟩
  exact frac_ok p s1 s2 hk hF (q _ (red_fr p s1 s2))
/-- a turn of the law's own -/
def turnP (a b : Int × Int) : D := .tup [.tup [fr a, .int 0, fr (0, 1)], .tup [fr b, .int 0, fr (0, 1)]]
theorem thB_turn {a b : Int × Int} (ha : Fr 20 a) (hb : Fr 20 b) : thB 20 4 3 (turnP a b) = true := by
  have a1 := ha.a
  have a2 := ha.b
  have b1 := hb.a
  have b2 := hb.b
  unfold Sm at a1 a2 b1 b2
  simp [turnP, fr, thB, a1, a2, b1, b2]
theorem law_turn_ok {j c : Nat} (hd : Deck s j c) (hc : c < 2 ^ 29) (hF : 2 ^ 10000 ≤ F) (q : ∀ a b s', Fr 20 a → Fr 20 b → Deck s' j (c + 2) → Keep j s s' → Q (turnP a b) s') : okX (callD F G (n + 3) 41 [.lst j] s) Q X := by
  refine callD_body [some (.lst j), none, none, none, none] b_law_turn g_law_turn rfl rfl rfl ?_
  unfold b_law_turn
  array_get_dec
  refine pick_ok hd (by decide) (by decide) (by omega) fun p s1 p0 p1 hd1 kp1 => ?_
  refine pick_ok hd1 (by decide) (by decide) (by omega) fun r s2 r0 r1 hd2 kp2 => ?_
  array_get_dec
  have kp := kp1.trans kp2
  have fin : ∀ u v : Int, Sm 4 u → Sm 4 v → u * u + v * v ≠ 0 → mulOk u u = true ∧ mulOk v v = true ∧ mulOk u u = true ∧ mulOk v v = true ∧ okX (callD F G (n + 2) 14 [D.int (u * u - v * v), D.int (u * u + v * v)] s2)
      (fun d s1 => okX (callD F G (n + 2) 40 [d] s1) (fun x s1 => mulOk 2 u = true ∧ mulOk (2 * u) v = true ∧ okX (callD F G (n + 2) 14 [D.int (2 * u * v), D.int (u * u + v * v)] s1) (fun x_1 s1 => okX (callD F G (n + 2) 40 [x_1] s1) (fun x_2 s1 => lineOk 2 = true ∧ Q (D.tup [x, x_2]) s1) X) X) X) X := by
    intro u v hu hv h0
    have s3 : Sm 20 (u * u + v * v) := ((hu.mul hu).add (hv.mul hv)).le (by decide)
    have s4 : Sm 20 (u * u - v * v) := by rw [Int.sub_eq_add_neg]; exact ((hu.mul hu).add (hv.mul hv).neg).le (by decide)
    have t2 : Sm 2 2 := by unfold Sm; decide
    have s5 : Sm 20 (2 * u * v) := ((t2.mul hu).mul hv).le (by decide)
    refine ⟨hu.mulOk hu (by decide), hv.mulOk hv (by decide), hu.mulOk hu (by decide), hv.mulOk hv (by decide), ?_⟩
    refine frac_ok h0 s4 s3 (by decide) hF ?_
    refine law_plain_ok ?_
    refine ⟨t2.mulOk hu (by decide), (t2.mul hu).mulOk hv (by decide), ?_⟩
    refine frac_ok h0 s5 s3 (by decide) hF ?_
    refine law_plain_ok ?_
    exact ⟨by decide, q _ _ _ (red_fr h0 s4 s3) (red_fr h0 s5 s3) hd2 kp⟩
  have sp : Sm 4 p := by unfold Sm; omega
  have sr : Sm 4 (r - 4) := by unfold Sm; omega
  have sq : ∀ u v : Int, ¬ (u = 0 ∧ v = 0) → u * u + v * v ≠ 0 := fun u v h e => by
    have a : 0 ≤ u * u := sq0 u
    have b : 0 ≤ v * v := sq0 v
    have a0 : u * u = 0 := by omega
    have b0 : v * v = 0 := by omega
    rw [Int.mul_eq_zero] at a0 b0
    exact h ⟨by omega, by omega⟩
  have m1 : Sm 4 1 := by unfold Sm; decide
  refine ⟨fun hp => ?_, fun hp => ?_⟩
  · refine ⟨fun hr => ?_, fun hr => ?_⟩
    · exact fin 1 (r - 4) m1 sr (sq _ _ fun h => by omega)
    · have hr : ¬ r - 4 = 0 := of_decide_eq_false hr
      exact fin p (r - 4) sp sr (sq _ _ fun h => hr h.2)
  · have hp : ¬ p = 0 := of_decide_eq_false hp
    exact fin p (r - 4) sp sr (sq _ _ fun h => hp h.1)
end Dn

end
section
set_option Elab.async false
set_option maxRecDepth 100000
set_option maxHeartbeats 400000
set_option linter.unusedVariables false
set_option exponentiation.threshold 20000
/-! Pu20: the law's own arcs, joints. -/
namespace Dn
open PySem
local macro_rules | `(tactic| array_get_dec) => `(tactic| simp only [s_cons, s_nil, s_set, s_par, s_par3, s_ex, s_ret, s_retn, s_ite, s_rai, s_tryo, s_pas, s_brk, s_cnt, s_aug, t_nm, t_tup, t_sub, t_nil, t_cons, w_var, w_cst, w_top, w_bin, w_neg, w_cmp, w_cmp2, w_nt, w_and, w_or, w_ife, w_tup, w_rol, w_lst, w_ix, w_sl, w_call, w_prim, w_app, w_ins, w_bits, w_join, w_frz, w_nil, w_cons, w_no, w_so, c_no, c_so,
  okX_ok, isB_bl, br_true, br_false, o_add, o_sub, o_mul, o_fdiv, o_mod, o_pow, o_shl, o_cat, o_strs, o_rols, o_neg, o_lt, o_le, o_gt, o_ge, o_is, o_isn, o_eq, o_ne, o_in, o_nin, o_t0, o_t1, o_t2, o_t3, o_sl, o_slr, o_len, o_lenr, o_abs, o_int, o_intb, o_tupr, o_tupt, o_listt, o_listr, o_listm, o_isi, o_frzr, cf_self, eq_int, okS_then,
  List.getElem?_cons_zero, List.getElem?_cons_succ, List.set_cons_zero, List.set_cons_succ, List.length_cons, List.length_nil, Option.some.injEq, exists_eq_left', exists_eq_left, D.int.injEq, D.bl.injEq, D.tup.injEq, and_true, true_and, Nat.zero_add, Nat.reduceAdd, Nat.reduceLT, Nat.lt_irrefl, tysD, tyD, Bool.not_true, Bool.not_false])
variable {F n : Nat} {s : Sto} {Q : D → Sto → Prop} {X : Nat → Sto → Prop}
theorem law_arc_ok {j c : Nat} (hd : Deck s j c) (hc : c + 10 < 2 ^ 29) (hF : 2 ^ 10000 ≤ F) (q : ∀ y s', thB 20 4 4 y = true → Deck s' j (c + 4) → Keep j s s' → Q y s') : okX (callD F G (n + 4) 42 [.lst j] s) Q X := by
  refine callD_body [some (.lst j), none, none] b_law_arc g_law_arc rfl rfl rfl ?_
  unfold b_law_arc
  array_get_dec
  refine law_turn_ok hd (by omega) hF fun a b s1 ha hb hd1 kp1 => ?_
  refine law_turn_ok hd1 (by omega) hF fun a' b' s2 ha' hb' hd2 kp2 => ?_
  have t1 := thB_turn ha hb
  have t2 := thB_turn ha' hb'
  have kp := kp1.trans kp2
  refine ⟨D.eqb (turnP a b) (turnP a' b'), ?_, fun _ => ⟨by decide, q _ _ ?_ hd2 kp⟩, fun _ => q _ _ rfl hd2 kp⟩
  · rw [eqD_nb rfl rfl (thB_sh t1 (by omega)) (thB_sh t2 (by omega))]
  · exact (thB_parts (k := 20) (m := 4) (d := 3) (Nat.le_refl _) (Nat.le_refl _) (Nat.le_refl _) (by simp) fun y hy => by
      simp only [List.mem_cons, List.not_mem_nil, or_false] at hy
      rcases hy with rfl | rfl
      · exact t1
      · exact t2).1
theorem law_small_ok {j c : Nat} (hd : Deck s j c) (hc : c + 10 < 2 ^ 29) (hF : 2 ^ 10000 ≤ F) (q : ∀ p s', Fr 20 p → Deck s' j (c + 2) → Keep j s s' → Q (fr p) s') : okX (callD F G (n + 3) 43 [.lst j] s) Q X := by
  refine callD_body [some (.lst j)] b_law_small g_law_small rfl rfl rfl ?_
  unfold b_law_small
  array_get_dec
  refine pick_ok hd (by decide) (by decide) (by omega) fun p s1 p0 p1 hd1 kp1 => ?_
  refine ⟨by decide, ?_⟩
  refine one_ok hd1 (by omega) (by simp) (by decide) fun y s2 hy hd2 kp2 => ?_
  have sp : Sm 20 (p - 16) := by unfold Sm; omega
  simp only [List.mem_cons, List.not_mem_nil, or_false] at hy
  have fin : ∀ z : Int, z = 4 ∨ z = 3 ∨ z = 5 → okX (callD F G (n + 2) 14 [.int (p - 16), .int z] s2) Q X := fun z hz => by
    have z0 : z ≠ 0 := by omega
    have sz : Sm 20 z := by unfold Sm; omega
    exact frac_ok z0 sp sz (by decide) hF (q _ _ (red_fr z0 sp sz) hd2 (kp1.trans kp2))
  rcases hy with rfl | rfl | rfl | rfl
  · exact fin 4 (.inl rfl)
  · exact fin 4 (.inl rfl)
  · exact fin 3 (.inr (.inl rfl))
  · exact fin 5 (.inr (.inr rfl))
theorem law_joint_ok {j c : Nat} {z : Str} {b : Bool} (hz : SeqAt.shaped (D.str z).py = true) (hd : Deck s j c) (hc : c + 20 < 2 ^ 29) (hF : 2 ^ 10000 ≤ F) (q : ∀ y s', thB 60 4 5 y = true → Deck s' j (c + 6) → Keep j s s' → Q y s') : okX (callD F G (n + 5) 44 [.lst j, .str z, .bl b] s) Q X := by
  refine callD_body [some (.lst j), some (.str z), some (.bl b), none, none, none] b_law_joint g_law_joint rfl rfl rfl ?_
  unfold b_law_joint
  array_get_dec
  have sT : SeqAt.shaped (D.str "T").py = true := by decide +kernel
  refine ⟨_, eq_strs hz sT, fun _ => ?_, fun _ => ?_⟩
  · refine pick_ok hd (by decide) (by decide) (by omega) fun p s1 p0 p1 hd1 kp1 => ?_
    refine ⟨by decide, ?_⟩
    refine one_ok hd1 (by omega) (by simp) (by decide) fun y s2 hy hd2 kp2 => ?_
    have sp : Sm 20 (1 + p) := by unfold Sm; omega
    simp only [List.mem_cons, List.not_mem_nil, or_false] at hy
    obtain ⟨z, rfl, z0, zs⟩ : ∃ z : Int, y = .int z ∧ z ≠ 0 ∧ Sm 20 z := by
      rcases hy with rfl | rfl | rfl | rfl <;> exact ⟨_, rfl, by decide, by unfold Sm; decide⟩
    refine frac_ok z0 sp zs (by decide) hF ?_
    have tw := thB_fr (m := 4) (red_fr z0 sp zs) (by decide)
    have fin : ∀ y s', thB 20 4 4 y = true → Deck s' j (c + 6) → Keep j s2 s' → Q (.tup [.str "turn", fr (red (1 + p) z), y]) s' := fun y s' hy hd' kp' => by
      refine q _ _ ?_ hd' ((kp1.trans kp2).trans kp')
      refine (thB_parts (k := 20) (m := 4) (d := 4) (by decide) (Nat.le_refl _) (Nat.le_refl _) (by simp) fun y hy' => ?_).1
      simp only [List.mem_cons, List.not_mem_nil, or_false] at hy'
      rcases hy' with rfl | rfl | rfl
      · decide +kernel
      · exact thB_mono (Nat.le_refl _) (Nat.le_refl _) (by decide) tw
      · exact hy
    cases b with
    | false => rw [br_false]; exact ⟨by decide, fin _ _ rfl (hd2.le (by omega)) (.refl _ _)⟩
    | true =>
      rw [br_true]
      exact law_arc_ok hd2 (by omega) hF fun y s3 hy hd3 kp3 => ⟨by decide, fin _ _ hy (hd3.le (by omega)) kp3⟩
  · refine law_small_ok hd (by omega) hF fun p s1 hp hd1 kp1 => ?_
    have fin : ∀ (a b : Int × Int) s', Fr 20 a → Fr 20 b → Deck s' j (c + 4) → Keep j s s' → okX (callD F G (n + 4) 41 [.lst j] s') (fun x s1 => okX (callD F G (n + 4) 39 [fr a, fr b] s1) (fun y s1 => lineOk 4 = true ∧ Q (.tup [.str "slide", x, fr a, y]) s1) X) X := fun a b s' ha hb hd' kp' => by
      refine law_turn_ok hd' (by omega) hF fun u v s2 hu hv hd2 kp2 => ?_
      refine law_plus_ok ha hb (by decide) hF fun w hw => ?_
      refine ⟨by decide, q _ _ ?_ hd2 (kp'.trans kp2)⟩
      refine (thB_parts (k := 60) (m := 4) (d := 4) (by decide) (Nat.le_refl _) (Nat.le_refl _) (by simp) fun y hy' => ?_).1
      simp only [List.mem_cons, List.not_mem_nil, or_false] at hy'
      rcases hy' with rfl | rfl | rfl | rfl
      · decide +kernel
      · exact thB_mono (by decide) (Nat.le_refl _) (by decide) (thB_turn hu hv)
      · exact thB_mono (by decide) (Nat.le_refl _) (by decide) (thB_fr (m := 4) ha (by decide))
      · exact thB_mono (by decide) (Nat.le_refl _) (by decide) (thB_fr (m := 4) hw (by decide))
    have f100 : Fr 20 (100, 1) := ⟨by unfold Sm; decide, by unfold Sm; decide, by decide, by decide⟩
    have f50 : Fr 20 (-50, 1) := ⟨by unfold Sm; decide, by unfold Sm; decide, by decide, by decide⟩
    cases b with
    | false =>
      simp only [br_false]
      exact ⟨by decide, by decide, fin (-50, 1) (100, 1) s1 f50 f100 (hd1.le (by omega)) kp1⟩
    | true =>
      simp only [br_true]
      refine pick_ok hd1 (by decide) (by decide) (by omega) fun r s2 r0 r1 hd2 kp2 => ?_
      have sr : Sm 20 (1 + r) := by unfold Sm; omega
      have s4 : Sm 20 4 := by unfold Sm; decide
      refine frac_ok (by decide) sr s4 (by decide) hF ?_
      exact fin p _ s2 hp (red_fr (by decide) sr s4) (hd2.le (by omega)) (kp1.trans kp2)
end Dn

end
section
set_option Elab.async false
set_option maxRecDepth 100000
set_option maxHeartbeats 400000
set_option linter.unusedVariables false
set_option exponentiation.threshold 20000
/-! Pu21: the law's own arms. -/
namespace Dn
open PySem
local macro_rules | `(tactic| array_get_dec) => `(tactic| simp only [s_cons, s_nil, s_set, s_par, s_par3, s_ex, s_ret, s_retn, s_ite, s_rai, s_tryo, s_pas, s_brk, s_cnt, s_aug, t_nm, t_tup, t_sub, t_nil, t_cons, w_var, w_cst, w_top, w_bin, w_neg, w_cmp, w_cmp2, w_nt, w_and, w_or, w_ife, w_tup, w_rol, w_lst, w_ix, w_sl, w_call, w_prim, w_app, w_ins, w_bits, w_join, w_frz, w_nil, w_cons, w_no, w_so, c_no, c_so,
  okX_ok, isB_bl, br_true, br_false, o_add, o_sub, o_mul, o_fdiv, o_mod, o_pow, o_shl, o_cat, o_strs, o_rols, o_neg, o_lt, o_le, o_gt, o_ge, o_is, o_isn, o_eq, o_ne, o_in, o_nin, o_t0, o_t1, o_t2, o_t3, o_sl, o_slr, o_len, o_lenr, o_abs, o_int, o_intb, o_tupr, o_tupt, o_listt, o_listr, o_listm, o_isi, o_frzr, cf_self, eq_int, okS_then,
  List.getElem?_cons_zero, List.getElem?_cons_succ, List.set_cons_zero, List.set_cons_succ, List.length_cons, List.length_nil, Option.some.injEq, exists_eq_left', exists_eq_left, D.int.injEq, D.bl.injEq, D.tup.injEq, and_true, true_and, Nat.zero_add, Nat.reduceAdd, Nat.reduceLT, Nat.lt_irrefl, tysD, tyD, Bool.not_true, Bool.not_false])
variable {F n : Nat} {s : Sto} {Q : D → Sto → Prop} {X : Nat → Sto → Prop}
def sorts2 : List D := [.str "TT", .str "TS", .str "ST", .str "SS"]
def sorts3 : List D := [.str "TTT", .str "TTS", .str "TST", .str "STT", .str "TSS", .str "STS", .str "SST"]
def isSh : D → Bool
  | .str w => SeqAt.shaped (D.str w).py
  | _ => false
def okSorts : D → Bool
  | .str z => decide ((signs z).length ≤ 3) && (signs z).all isSh
  | _ => false
theorem sorts_all : (sorts2 ++ sorts3).all okSorts = true := by decide +kernel
theorem sorts_ok {k : Int} (q : ∀ xs, xs ≠ [] → xs.length ≤ 10 → (∀ y ∈ xs, okSorts y = true) → Q (.rol xs) s) : okX (callD F G (n + 1) 45 [.int k] s) Q X := by
  refine callD_body [some (.int k)] b_law_sorts g_law_sorts rfl rfl rfl ?_
  unfold b_law_sorts
  array_get_dec
  have a := List.all_eq_true.mp sorts_all
  refine ⟨fun _ => ⟨by decide, ?_⟩, fun _ => ⟨by decide, ?_⟩⟩
  · exact q sorts2 (by simp [sorts2]) (by decide) fun y hy => a y (List.mem_append.mpr (.inl hy))
  · exact q sorts3 (by simp [sorts3]) (by decide) fun y hy => a y (List.mem_append.mpr (.inr hy))
theorem law_arm_ok {j c : Nat} {k : Int} (hd : Deck s j c) (hc : c + 100 < 2 ^ 29) (hF : 2 ^ 10000 ≤ F) (q : ∀ y s', (∃ xs, y = .tup xs) → thB 60 4 6 y = true → Deck s' j (c + 22) → Keep j s s' → Q y s') : okX (callD F G (n + 6) 46 [.lst j, .int k, .int 1] s) Q X := by
  refine callD_body [some (.lst j), some (.int k), some (.int 1), none, none, none] b_law_arm g_law_arm rfl rfl rfl ?_
  unfold b_law_arm
  array_get_dec
  refine sorts_ok fun ys h0 hl ha => ?_
  refine one_ok hd (by omega) h0 (by omega) fun y s1 hy hd1 kp1 => ?_
  have hy := ha y hy
  obtain ⟨z, rfl⟩ : ∃ z, y = .str z := by cases y <;> first | exact ⟨_, rfl⟩ | cases hy
  simp only [okSorts, Bool.and_eq_true, decide_eq_true_eq, List.all_eq_true] at hy
  generalize hp : s1.length = p
  refine ⟨by decide, ?_⟩
  have hjp : j < p := by rw [← hp]; exact hd1.lt
  have lt : ∀ i c, i ≠ j → s[i]? = some c → i < p := fun i c hi e => by rw [← hp]; exact (List.getElem?_eq_some_iff.mp (kp1 i c hi e)).1
  refine s_for (fun i e s2 => ∃ o acc, e = [some (.lst j), some (.int k), some (.int 1), some (.str z), some (.lst p), o] ∧ Deck s2 j (c + 1 + 7 * i) ∧ Keep j s s2 ∧ s2[p]? = some (.lst acc) ∧ acc.length = i ∧ ∀ y ∈ acc, thB 60 4 5 y = true) ?_
  rw [i_seq, w_var]
  refine ⟨_, rfl, _, rfl, _, rfl, two_lt hF (by omega), ⟨none, [], rfl, hd1.push, kp1.trans .push, ?_, rfl, nofun⟩, ?_, ?_⟩
  · rw [← hp, List.getElem?_append_right (Nat.le_refl _)]; simp
  · rintro i d e s2 hi ⟨o, acc, rfl, hd2, kp2, hs2, rfl, hacc⟩
    have hd0 := hy.2 d (List.mem_of_getElem? hi)
    have hi3 : acc.length < (signs z).length := (List.getElem?_eq_some_iff.mp hi).1
    obtain ⟨w, rfl⟩ : ∃ w, d = .str w := by cases d <;> first | exact ⟨_, rfl⟩ | cases hd0
    have add : ∀ y s3, thB 60 4 5 y = true → Deck s3 j (c + 1 + 7 * (acc.length + 1)) → Keep j s2 s3 → lineLt acc.length = true ∧ ∃ o acc', [some (.lst j), some (.int k), some (.int 1), some (.str z), some (.lst p), some (.str w)] = [some (D.lst j), some (.int k), some (.int 1), some (.str z), some (.lst p), o] ∧ Deck (s3.set p (.lst (acc ++ [y]))) j (c + 1 + 7 * (acc.length + 1)) ∧ Keep j s (s3.set p (.lst (acc ++ [y]))) ∧ (s3.set p (.lst (acc ++ [y])))[p]? = some (.lst acc') ∧ acc'.length = acc.length + 1 ∧ ∀ y ∈ acc', thB 60 4 5 y = true := by
      intro y s3 hy3 hd3 kp3
      refine ⟨decide_eq_true (by unfold sizeLine; omega), _, _, rfl, hd3.setp (by omega), ?_, get_set (kp3 p _ (by omega) hs2), by simp, ?_⟩
      · intro a b ha hb
        rw [List.getElem?_set_ne (by have := lt a b ha hb; omega)]
        exact kp3 a b ha (kp2 a b ha hb)
      · intro y' hy'
        rcases List.mem_append.mp hy' with h | h
        · exact hacc y' h
        · rw [List.mem_singleton.mp h]; exact hy3
    array_get_dec
    refine ⟨by rw [listOf, hs2]; rfl, ?_⟩
    refine ⟨fun _ => ?_, fun h => absurd h (by decide)⟩
    refine pick_ok hd2 (by decide) (by decide) (by omega) fun r s3 _ _ hd3 kp3 => ⟨_, eq_int, ?_⟩
    refine law_joint_ok hd0 hd3 (by omega) hF fun y s4 hy4 hd4 kp4 => ?_
    have kp := kp3.trans kp4
    rw [o_app (kp p _ (by omega) hs2)]
    exact add y s4 hy4 (hd4.le (by omega)) kp
  · rintro e s2 ⟨o, acc, rfl, hd2, kp2, hs2, hl2, hacc⟩
    array_get_dec
    rw [o_tupl hs2]
    refine q _ _ ⟨_, rfl⟩ ?_ (hd2.le (by omega)) kp2
    exact (thB_parts (k := 60) (m := 4) (d := 5) (Nat.le_refl _) (Nat.le_refl _) (Nat.le_refl _) (by omega) hacc).1
end Dn

end
section
set_option Elab.async false
set_option maxRecDepth 100000
set_option maxHeartbeats 400000
set_option linter.unusedVariables false
set_option exponentiation.threshold 20000
/-! Pu22: law k08. -/
namespace Dn
open PySem
local macro_rules | `(tactic| array_get_dec) => `(tactic| simp only [s_cons, s_nil, s_set, s_par, s_par3, s_ex, s_ret, s_retn, s_ite, s_rai, s_tryo, s_pas, s_brk, s_cnt, s_aug, t_nm, t_tup, t_sub, t_nil, t_cons, w_var, w_cst, w_top, w_bin, w_neg, w_cmp, w_cmp2, w_nt, w_and, w_or, w_ife, w_tup, w_rol, w_lst, w_ix, w_sl, w_call, w_prim, w_app, w_ins, w_bits, w_join, w_frz, w_nil, w_cons, w_no, w_so, c_no, c_so,
  okX_ok, isB_bl, br_true, br_false, o_add, o_sub, o_mul, o_fdiv, o_mod, o_pow, o_shl, o_cat, o_strs, o_rols, o_neg, o_lt, o_le, o_gt, o_ge, o_is, o_isn, o_eq, o_ne, o_in, o_nin, o_t0, o_t1, o_t2, o_t3, o_sl, o_slr, o_len, o_lenr, o_abs, o_int, o_intb, o_tupr, o_tupt, o_listt, o_listr, o_listm, o_isi, o_frzr, cf_self, eq_int, okS_then,
  List.getElem?_cons_zero, List.getElem?_cons_succ, List.set_cons_zero, List.set_cons_succ, List.length_cons, List.length_nil, Option.some.injEq, exists_eq_left', exists_eq_left, D.int.injEq, D.bl.injEq, D.tup.injEq, and_true, true_and, Nat.zero_add, Nat.reduceAdd, Nat.reduceLT, Nat.lt_irrefl, tysD, tyD, Bool.not_true, Bool.not_false])
variable {F n : Nat} {s : Sto} {Q : D → Sto → Prop} {X : Nat → Sto → Prop}
def evenT : D := turnP (1, 1) (0, 1)
theorem even_turn_ok (hF : 2 ^ 10000 ≤ F) (q : Q evenT s) : okX (callD F G (n + 3) 36 [.int 1, .int 0] s) Q X := by
  refine callD_body [some (.int 1), some (.int 0), none] b_even_turn g_even_turn rfl rfl rfl ?_
  unfold b_even_turn
  array_get_dec
  have s1 : Sm 20 (1 * 1 + 0 * 0 : Int) := by unfold Sm; decide
  have s2 : Sm 20 (1 * 1 - 0 * 0 : Int) := by unfold Sm; decide
  have s3 : Sm 20 (2 * 1 * 0 : Int) := by unfold Sm; decide
  have f2 : 2 ^ 20 ≤ F := Nat.le_of_lt (two_lt hF (by decide))
  refine ⟨by decide, by decide, by decide, by decide, ?_⟩
  refine fraction_ok (by decide) s1 (by decide) f2 ?_
  refine plain_ok ?_
  refine ⟨by decide, by decide, ?_⟩
  refine fraction_ok (by decide) s1 (by decide) f2 ?_
  refine plain_ok ?_
  exact ⟨by decide, q⟩
def turnT : D := .tup [.str "turn", fr (1, 1), .non]
def slideT : D := .tup [.str "slide", evenT, fr (0, 1), fr (1, 1)]
def some0 : List D := [.tup [slideT, slideT, slideT], .tup [turnT], .tup [turnT, turnT, turnT, turnT], .tup [slideT, slideT], .tup [], .rol [turnT, turnT], turnT,
  .tup [turnT, .tup [.str "turn", fr (0, 1), .non]], .tup [turnT, .tup [.str "slide", evenT, fr (0, 1), fr (0, 1)]], .tup [turnT, .tup [.str "turn", fr (-1, 2), .non]]]
theorem some0_ok : some0.all (thB 134 36 12) = true := by decide +kernel
theorem k08_ok {ns : List Int} (hn : ns.length ≤ 100000) (hF : 2 ^ 10000 ≤ F) (q : ∀ s', Q (.bl true) s') : okX (callD F G (n + 16) 49 [.rol (ns.map D.int)] s) Q X := by
  refine callD_body [some (.rol (ns.map D.int)), none, none, none, none, none, none, none, none, none] b_law_k08 g_law_k08 rfl rfl rfl ?_
  unfold b_law_k08
  array_get_dec
  iterate 2 (refine ⟨by decide, ?_⟩)
  refine even_turn_ok hF ?_
  iterate 22 (refine ⟨by first | decide | rfl, ?_⟩)
  refine s_for (fun i e s2 => ∃ acc o4 o5 o6 o7 o8 o9, e = [some (.rol (ns.map D.int)), some turnT, some slideT, some (.rol acc), o4, o5, o6, o7, o8, o9] ∧ acc.length ≤ 10 + 24 * i ∧ ∀ y ∈ acc, thB 134 36 12 y = true) ?_
  rw [i_seq]
  array_get_dec
  have l10 : (cut (D.int 0 :: ns.map D.int) none (some 10)).length ≤ 10 := by
    unfold cut
    rw [List.length_take]
    have : HT.sIx (D.int 0 :: ns.map D.int).length (D.int 0 :: ns.map D.int).length (some 10) ≤ 10 := by
      unfold HT.sIx
      simp
      omega
    omega
  have mem : ∀ d ∈ cut (D.int 0 :: ns.map D.int) none (some 10), ∃ c : Int, d = .int c := fun d hd => by
    have := cut_mem hd
    rcases List.mem_cons.mp this with h | h
    · exact ⟨0, h⟩
    · obtain ⟨c, _, rfl⟩ := List.mem_map.mp h
      exact ⟨c, rfl⟩
  refine ⟨by decide, decide_eq_true (by unfold sizeLine; simp; omega), _, rfl, _, rfl, two_lt hF (Nat.le_trans l10 (by decide)), ⟨some0, none, none, none, none, none, none, rfl, by decide, fun y hy => List.all_eq_true.mp some0_ok y hy⟩, ?_, ?_⟩
  · rintro i d e s2 hi ⟨acc, o4, o5, o6, o7, o8, o9, rfl, hl, hacc⟩
    obtain ⟨c, rfl⟩ := mem d (List.mem_of_getElem? hi)
    have hi10 : i < 10 := Nat.lt_of_lt_of_le (List.getElem?_eq_some_iff.mp hi).1 l10
    array_get_dec
    refine deck_ok (by decide) fun s3 hd3 _ => ?_
    generalize s2.length = j at *
    refine s_for (fun k e s2 => ∃ acc o6 o7 o8, e = [some (.rol (ns.map D.int)), some turnT, some slideT, some (.rol acc), some (.int c), some (.lst j), o6, o7, o8, o9] ∧ acc.length ≤ 10 + 24 * i + 6 * k ∧ (∀ y ∈ acc, thB 134 36 12 y = true) ∧ Deck s2 j (8 + 1000 * k)) ?_
    rw [i_rng]
    array_get_dec
    refine ⟨by decide, _, rfl, two_lt hF (by decide), ⟨acc, o6, o7, o8, rfl, by omega, hacc, hd3⟩, ?_, ?_⟩
    · rintro k d e s4 hk ⟨acc, o6, o7, o8, rfl, hl, hacc, hd4⟩
      have hk4 : k < 4 := (List.getElem?_eq_some_iff.mp hk).1
      array_get_dec
      refine pick_ok hd4 (by decide) (by decide) (by omega) fun r s5 _ _ hd5 _ => ?_
      refine law_arm_ok hd5 (by omega) hF fun y s6 ht hy hd6 _ => ?_
      obtain ⟨xs, rfl⟩ := ht
      have y1 := thB_mono (show 60 ≤ 130 by decide) (Nat.le_refl _) (Nat.le_refl _) hy
      refine spoilt_ok (n := n + 4) (by decide) (by decide) (by decide) (by decide) 6 y1 hd6 (by omega) fun z s7 hz hd7 _ => ?_
      refine spoilt_ok (n := n + 1) (by decide) (by decide) (by decide) (by decide) 9 hz hd7 (by omega) fun z2 s8 hz2 hd8 _ => ?_
      refine spoilt_ok (n := n + 4) (by decide) (by decide) (by decide) (by decide) 6 y1 hd8 (by omega) fun z3 s9 hz3 hd9 _ => ?_
      array_get_dec
      refine odd_ok hd9 (by omega) fun z4 s10 hz4 hd10 _ => ?_
      have hx := thB_mono (show 130 ≤ 134 by decide) (show 4 ≤ 36 by decide) (show 6 ≤ 12 by decide) y1
      have hxr : thB 134 36 12 (.rol xs) = true := hx
      refine ⟨by decide, decide_eq_true (by unfold sizeLine; omega), _, _, _, _, rfl, by simp; omega, ?_, hd10.le (by omega)⟩
      intro w hw
      rcases List.mem_append.mp hw with h | h
      · exact hacc w h
      · simp only [List.mem_cons, List.not_mem_nil, or_false] at h
        rcases h with rfl | rfl | rfl | rfl | rfl | rfl
        · exact hx
        · exact thB_mono (by decide) (by decide) (by decide) hz
        · exact thB_mono (by decide) (by decide) (by decide) hz2
        · exact thB_mono (by decide) (by decide) (by decide) hz3
        · exact hxr
        · exact thB_mono (by decide) (by decide) (by decide) hz4
    · rintro e s4 ⟨acc, o6, o7, o8, rfl, hl, hacc, hd4⟩
      exact ⟨acc, _, _, _, _, _, _, rfl, by have : (4 : Int).toNat = 4 := rfl; simp at hl; omega, hacc⟩
  · rintro e s2 ⟨acc, o4, o5, o6, o7, o8, o9, rfl, hl, hacc⟩
    have hit : okX (denIt F (callT F G (n + 15)) (n + 15) (.seq (.var 3)) [some (.rol (ns.map D.int)), some turnT, some slideT, some (.rol acc), o4, o5, o6, o7, o8, o9] s2) (fun w s1 => w = .items acc ∧ s1 = s2) X := by
      rw [i_seq, w_var]
      exact ⟨_, rfl, _, rfl, rfl, rfl⟩
    have l10' : (cut ([D.int 0] ++ ns.map D.int) none (some 10)).length ≤ 10 := l10
    refine lc_filter (fun y => false) hit (two_lt hF (by omega)) (by omega) (show (9 : Nat) < 10 by decide) (fun y hy Q' hq => ?_) ?_
    · have hy' := thB_mono (show 134 ≤ 134 by decide) (show 36 ≤ 36 by decide) (show 12 ≤ 12 by decide) (hacc y hy)
      simp only [wipeE]
      array_get_dec
      refine is_arm_ok hy' (by decide) (by decide) (by decide) (by decide) hF ?_
      refine law_is_arm_ok hy' (by decide) (by decide) (by decide) (by decide) hF ?_
      refine same_bl ?_
      rw [decide_eq_true rfl, isB_bl]
      exact hq
    · have e : acc.filter (fun _ => false) = [] := by simp
      rw [e]
      exact ⟨by decide, true, by decide, q _⟩
def KL : Nat := 60
def FU : Nat := 2 ^ 10000
theorem FU_le : 2 ^ 10000 ≤ FU := Nat.le_refl _
theorem of_okX {r : Res D} (h : okX r (fun d _ => d = .bl true) (fun _ _ => False)) : ∃ s, r = .ok (.bl true) s := by
  cases r with
  | ok d s =>
    rw [okX_ok] at h
    rw [h]; exact ⟨s, rfl⟩
  | exc c fs s => exact h.2.elim
  | bad => exact h.elim
theorem pure_k08 {ns : List Int} (hn : ns.length ≤ 100000) : ∃ s, callD FU G KL 49 [.rol (ns.map D.int)] [] = .ok (.bl true) s :=
  of_okX (k08_ok (n := 44) hn FU_le fun _ => rfl)
end Dn

end
section
set_option Elab.async false
set_option maxRecDepth 100000
set_option maxHeartbeats 400000
set_option linter.unusedVariables false
set_option exponentiation.threshold 20000
/-! Pv1: lambdas tried; fractions drawn and spoilt; law k01. -/
namespace Dn
open PySem
theorem w_tryl {F m : Nat} {cf : Cf} {cs : List Nat} {e : E} {env : Env} {s : Sto} {Q : D → Sto → Prop} {X : Nat → Sto → Prop} :
    okX (denE F cf (m + 2) (.tryl cs e) env s) Q X = okX (denE F cf m e env s) (fun d s1 => Q (.tup [.str "told", d]) s1) (fun c s1 => c ∈ cs ∧ Q (.str (kinStr c)) s1) := by
  simp only [denE]
  cases denE F cf m e env s with
  | ok d s1 => rfl
  | bad => rfl
  | exc c fs s1 =>
    cases fs with
    | cons f r => exact propext ⟨fun h => h.elim, fun h => nomatch h.1⟩
    | nil =>
      dsimp only
      by_cases hc : c ∈ cs
      · rw [if_pos hc]; exact propext ⟨fun h => ⟨rfl, hc, h⟩, fun h => h.2.2⟩
      · rw [if_neg hc]; exact propext ⟨fun h => h.elim, fun h => hc h.2.1⟩
theorem cf_low1 {F : Nat} {G : List Fn} {n : Nat} : callT F G (n + 1) n = callD F G n := callT_low F G (by omega)
theorem cf_low2 {F : Nat} {G : List Fn} {n : Nat} : callT F G (n + 2) n = callD F G n := callT_low F G (by omega)
local macro_rules | `(tactic| array_get_dec) => `(tactic| simp only [w_tryl, cf_low2, cf_low1, s_cons, s_nil, s_set, s_par, s_par3, s_ex, s_ret, s_retn, s_ite, s_rai, s_tryo, s_pas, s_brk, s_cnt, s_aug, t_nm, t_tup, t_sub, t_nil, t_cons, w_var, w_cst, w_top, w_bin, w_neg, w_cmp, w_cmp2, w_nt, w_and, w_or, w_ife, w_tup, w_rol, w_lst, w_ix, w_sl, w_call, w_prim, w_app, w_ins, w_bits, w_join, w_frz, w_nil, w_cons, w_no, w_so, c_no, c_so,
  okX_ok, isB_bl, br_true, br_false, o_add, o_sub, o_mul, o_fdiv, o_mod, o_pow, o_shl, o_cat, o_strs, o_rols, o_neg, o_lt, o_le, o_gt, o_ge, o_is, o_isn, o_eq, o_ne, o_in, o_nin, o_t0, o_t1, o_t2, o_t3, o_sl, o_slr, o_len, o_lenr, o_abs, o_int, o_intb, o_tupr, o_tupt, o_listt, o_listr, o_listm, o_isi, o_frzr, cf_self, eq_int, okS_then,
  List.getElem?_cons_zero, List.getElem?_cons_succ, List.set_cons_zero, List.set_cons_succ, List.length_cons, List.length_nil, Option.some.injEq, exists_eq_left', exists_eq_left, D.int.injEq, D.bl.injEq, D.tup.injEq, and_true, true_and, Nat.zero_add, Nat.reduceAdd, Nat.reduceLT, Nat.lt_irrefl, tysD, tyD, Bool.not_true, Bool.not_false])
variable {F n : Nat} {s : Sto} {Q : D → Sto → Prop} {X : Nat → Sto → Prop}
/-- the sum of both ways: a fraction, or its refusal -/
theorem fraction_by {a b : Int} {k : Nat} (hs : Sm k b) (hk : k ≤ 8000) (hF : 2 ^ 10000 ≤ F) (q : b ≠ 0 → Q (fr (red a b)) s) (x : b = 0 → X 1 s) : okX (callD F G (n + 2) 3 [.int a, .int b] s) Q X := by
  by_cases hb : b = 0
  · refine callD_body [some (.int a), some (.int b), none] b_fraction g_fraction rfl rfl rfl ?_
    unfold b_fraction
    array_get_dec
    rw [decide_eq_true hb, br_true]
    exact x hb
  · exact fraction_ok hb hs hk (Nat.le_trans (Nat.pow_le_pow_right (by decide) (by omega)) hF) (q hb)
theorem fr_int {k : Nat} {a : Int} (h : Sm k a) (hk : 1 ≤ k) : Fr k (a, 1) := ⟨h, show (1 : Nat) < 2 ^ k from Nat.one_lt_two_pow (by omega), show (0 : Int) < 1 by decide, by show Int.gcd a 1 = 1; simp⟩
theorem some_fraction_ok {j c : Nat} (hd : Deck s j c) (hc : c + 10 < 2 ^ 29) (hF : 2 ^ 10000 ≤ F) (q : ∀ p s', Fr 21 p → Deck s' j (c + 3) → Keep j s s' → Q (fr p) s') : okX (callD F G (n + 3) 15 [.lst j] s) Q X := by
  refine callD_body [some (.lst j), none] b_law_some_fraction g_law_some_fraction rfl rfl rfl ?_
  unfold b_law_some_fraction
  array_get_dec
  refine pick_ok hd (by decide) (by decide) (by omega) fun w s1 w0 w1 hd1 kp1 => ?_
  array_get_dec
  have fin : ∀ u v : Int, 0 < v → Sm 21 u → Sm 21 v → ∀ s2 : Sto, Deck s2 j (c + 3) → Keep j s1 s2 → okX (callD F G (n + 2) 14 [.int u, .int v] s2) Q X := fun u v v0 hu hv s2 hd2 kp2 =>
    frac_ok (by omega) hu hv (by decide) hF (q _ _ (red_fr (by omega) hu hv) hd2 (kp1.trans kp2))
  refine ⟨fun _ => ?_, fun _ => ⟨fun _ => ?_, fun _ => ?_⟩⟩
  · refine pick_ok hd1 (by decide) (by decide) (by omega) fun r s2 r0 r1 hd2 kp2 => ?_
    exact ⟨by decide, q (r - 6, 1) _ (fr_int (by unfold Sm; omega) (by decide)) (hd2.le (by omega)) (kp1.trans kp2)⟩
  · refine pick_ok hd1 (by decide) (by decide) (by omega) fun r s2 r0 r1 hd2 kp2 => ?_
    refine pick_ok hd2 (by decide) (by decide) (by omega) fun t s3 t0 t1 hd3 kp3 => ?_
    exact fin _ _ (by omega) (by unfold Sm; omega) (by unfold Sm; omega) _ (hd3.le (by omega)) (kp2.trans kp3)
  · refine pick_ok hd1 (by decide) (by decide) (by omega) fun r s2 r0 r1 hd2 kp2 => ?_
    refine pick_ok hd2 (by decide) (by decide) (by omega) fun t s3 t0 t1 hd3 kp3 => ?_
    exact fin _ _ (by omega) (by unfold Sm; omega) (by unfold Sm; omega) _ (hd3.le (by omega)) (kp2.trans kp3)
theorem red_self {a b : Int} (hb : 0 < b) : decide (red a b = (a, b)) = decide (Int.gcd a b = 1) := by
  congr 1
  refine propext ⟨fun h => ?_, fun h => ?_⟩
  · have := (red_fr (k := max a.natAbs b.natAbs) (by omega) (show a.natAbs < 2 ^ _ from Nat.lt_of_le_of_lt (Nat.le_max_left _ _) Nat.lt_two_pow_self) (show b.natAbs < 2 ^ _ from Nat.lt_of_le_of_lt (Nat.le_max_right _ _) Nat.lt_two_pow_self)).g
    rw [h] at this
    exact this
  · unfold red
    rw [h, Int.sign_eq_one_of_pos hb, Int.one_mul]
    simp
    omega
theorem law_is_fraction_ok {x : D} {k : Nat} (hx : okT k x) (hk : k ≤ 8000) (hF : 2 ^ 10000 ≤ F) (q : Q (.bl (isFr x)) s) : okX (callD F G (n + 2) 16 [x] s) Q X := by
  refine callD_body [some x] b_law_is_fraction g_law_is_fraction rfl rfl rfl ?_
  unfold b_law_is_fraction
  rcases two_or x with ⟨a, b, rfl⟩ | ⟨xs, rfl, hl⟩ | hn
  · array_get_dec
    rw [show (!decide (((2 : Nat) : Int) = 2)) = false from rfl, br_false]
    have ha := hx a (by simp)
    have hb := hx b (by simp)
    refine law_whole_ok ha.1 ?_
    array_get_dec
    cases a <;> first | exact ha.1.elim | skip
    case int a =>
      rw [ii, br_false]
      refine law_whole_ok hb.1 ?_
      array_get_dec
      cases b <;> first | exact hb.1.elim | skip
      case int b =>
        rw [ii, br_false]
        array_get_dec
        have sa := ha.2 a rfl
        have sb := hb.2 b rfl
        simp only [isFr] at q
        refine ⟨fun h => ?_, fun h => ?_⟩
        · have b0 : 0 < b := of_decide_eq_true h
          refine frac_ok (by omega) sa sb hk hF ?_
          refine ⟨decide (red a b = (a, b)), ?_, ?_⟩
          · exact eq_fr (x := red a b) (y := (a, b))
          · rw [h, Bool.true_and] at q
            rw [red_self b0]
            exact q
        · rw [h, Bool.false_and] at q
          exact q
      all_goals
        first
        | (simp only [isInt, Bool.not_false, br_true, isFr] at q ⊢; exact q)
    all_goals
      first
      | (simp only [isInt, Bool.not_false, br_true, isFr] at q ⊢; exact q)
  · rw [isFr_other (fun a b z => hl (by cases z; rfl))] at q
    array_get_dec
    have z := lens hl
    refine ⟨fun _ => q, fun h => ?_⟩
    exfalso
    have : (!decide ((xs.length : Int) = 2)) = true := z
    rw [this] at h; cases h
  · rw [isFr_other (fun a b => hn _)] at q
    cases x <;> first | exact hx.elim | exact absurd rfl (hn _) | (array_get_dec; exact q)
end Dn

end
section
set_option Elab.async false
set_option maxRecDepth 100000
set_option maxHeartbeats 400000
set_option linter.unusedVariables false
set_option exponentiation.threshold 20000
/-! Pv2: law k01. -/
namespace Dn
open PySem
local macro_rules | `(tactic| array_get_dec) => `(tactic| simp only [w_tryl, cf_low2, cf_low1, s_cons, s_nil, s_set, s_par, s_par3, s_ex, s_ret, s_retn, s_ite, s_rai, s_tryo, s_pas, s_brk, s_cnt, s_aug, t_nm, t_tup, t_sub, t_nil, t_cons, w_var, w_cst, w_top, w_bin, w_neg, w_cmp, w_cmp2, w_nt, w_and, w_or, w_ife, w_tup, w_rol, w_lst, w_ix, w_sl, w_call, w_prim, w_app, w_ins, w_bits, w_join, w_frz, w_nil, w_cons, w_no, w_so, c_no, c_so,
  okX_ok, isB_bl, br_true, br_false, o_add, o_sub, o_mul, o_fdiv, o_mod, o_pow, o_shl, o_cat, o_strs, o_rols, o_neg, o_lt, o_le, o_gt, o_ge, o_is, o_isn, o_eq, o_ne, o_in, o_nin, o_t0, o_t1, o_t2, o_t3, o_sl, o_slr, o_len, o_lenr, o_abs, o_int, o_intb, o_tupr, o_tupt, o_listt, o_listr, o_listm, o_isi, o_frzr, cf_self, eq_int, okS_then,
  List.getElem?_cons_zero, List.getElem?_cons_succ, List.set_cons_zero, List.set_cons_succ, List.length_cons, List.length_nil, Option.some.injEq, exists_eq_left', exists_eq_left, D.int.injEq, D.bl.injEq, D.tup.injEq, and_true, true_and, Nat.zero_add, Nat.reduceAdd, Nat.reduceLT, Nat.lt_irrefl, tysD, tyD, Bool.not_true, Bool.not_false])
variable {F n : Nat} {s : Sto} {Q : D → Sto → Prop} {X : Nat → Sto → Prop}
theorem eq_self {x : D} (hx : x.nb = true) (sx : SeqAt.shaped x.py = true) : eqD x x = some true := by
  rw [eqD_nb hx hx sx sx, eqb_refl x hx]
theorem told_nb {x : D} (hx : x.nb = true) : (D.tup [.str "told", x]).nb = true := by simp [D.nb, D.nbs, hx]
theorem told_sh {k m d : Nat} {x : D} (hx : thB k m d x = true) (hd : d ≤ 60) : SeqAt.shaped (D.tup [.str "told", x]).py = true := by
  refine thB_sh (k := k) (m := m + 2) (d := d + 1) ?_ (by omega)
  refine (thB_parts (k := k) (m := m + 2) (d := d) (Nat.le_refl _) (Nat.le_refl _) (Nat.le_refl _) (by simp) fun y hy => ?_).1
  simp only [List.mem_cons, List.not_mem_nil, or_false] at hy
  rcases hy with rfl | rfl
  · have : thB k (m + 2) d (.str "told") = thB 0 0 0 (.str "told") := by cases d <;> rfl
    rw [this]; decide +kernel
  · exact thB_mono (Nat.le_refl _) (by omega) (Nat.le_refl _) hx
/-- the cells that a law walks -/
theorem cells_of {ns : List Int} {k : Nat} (hk : k ≤ 100) : (cut (D.int 0 :: ns.map D.int) none (some (k : Nat))).length ≤ k ∧ ∀ d ∈ cut (D.int 0 :: ns.map D.int) none (some (k : Nat)), ∃ c : Int, d = .int c := by
  refine ⟨?_, fun d hd => ?_⟩
  · unfold cut
    rw [List.length_take]
    have : HT.sIx (D.int 0 :: ns.map D.int).length (D.int 0 :: ns.map D.int).length (some (k : Nat)) ≤ k := by
      unfold HT.sIx
      simp only [show ¬ ((k : Int) < 0) by omega, if_false]
      simp
      omega
    omega
  · have := cut_mem hd
    rcases List.mem_cons.mp this with h | h
    · exact ⟨0, h⟩
    · obtain ⟨c, _, rfl⟩ := List.mem_map.mp h
      exact ⟨c, rfl⟩
theorem k01_ok {ns : List Int} (hn : ns.length ≤ 100000) (hF : 2 ^ 10000 ≤ F) (q : ∀ s', Q (.bl true) s') : okX (callD F G (n + 16) 17 [.rol (ns.map D.int)] s) Q X := by
  refine callD_body [some (.rol (ns.map D.int)), none, none, none, none, none, none, none, none, none] b_law_k01 g_law_k01 rfl rfl rfl ?_
  unfold b_law_k01
  array_get_dec
  obtain ⟨l12, mem⟩ := cells_of (ns := ns) (k := 12) (by decide)
  refine s_for (fun i e s2 => ∃ o1 o2 o3 o4 o5 o6 o7 o8 o9, e = [some (.rol (ns.map D.int)), o1, o2, o3, o4, o5, o6, o7, o8, o9]) ?_
  rw [i_seq]
  array_get_dec
  refine ⟨by decide, decide_eq_true (by unfold sizeLine; simp; omega), _, rfl, _, rfl, two_lt hF (Nat.le_trans l12 (by decide)), ⟨_, _, _, _, _, _, _, _, _, rfl⟩, ?_, ?_⟩
  · rintro i d e s2 hi ⟨o1, o2, o3, o4, o5, o6, o7, o8, o9, rfl⟩
    obtain ⟨c, rfl⟩ := mem d (List.mem_of_getElem? hi)
    array_get_dec
    refine deck_ok (by decide) fun s3 hd3 _ => ?_
    generalize s2.length = j at *
    refine ⟨by decide, ?_⟩
    refine s_for (fun k e s2 => ∃ acc o4 o5 o6 o7 o8, e = [some (.rol (ns.map D.int)), some (.int c), some (.lst j), some (.rol acc), o4, o5, o6, o7, o8, o9] ∧ acc.length ≤ 5 * k ∧ (∀ y ∈ acc, thB 132 12 4 y = true) ∧ Deck s2 j (1 + 1000 * k)) ?_
    rw [i_rng]
    array_get_dec
    refine ⟨by decide, _, rfl, two_lt hF (by decide), ⟨[], o4, o5, o6, o7, o8, rfl, by simp, by simp, hd3⟩, ?_, ?_⟩
    · rintro k d e s4 hk ⟨acc, o4, o5, o6, o7, o8, rfl, hl, hacc, hd4⟩
      have hk5 : k < 5 := (List.getElem?_eq_some_iff.mp hk).1
      array_get_dec
      refine some_fraction_ok hd4 (by omega) hF fun p s5 hp hd5 _ => ?_
      refine pick_ok hd5 (by decide) (by decide) (by omega) fun r s6 r0 r1 hd6 _ => ?_
      array_get_dec
      refine ⟨by decide, ?_⟩
      refine one_ok hd6 (by omega) (by simp) (by decide) fun y s7 hy hd7 _ => ?_
      obtain ⟨b, rfl, sb⟩ : ∃ b : Int, y = .int b ∧ Sm 20 b := by
        simp only [List.mem_cons, List.not_mem_nil, or_false] at hy
        rcases hy with rfl | rfl | rfl | rfl | rfl | rfl | rfl <;> exact ⟨_, rfl, by unfold Sm; decide⟩
      array_get_dec
      have tp : thB 130 4 1 (fr p) = true := thB_fr (hp.le (by decide)) (by decide)
      refine ⟨by decide, rfl, ?_⟩
      refine spoilt_ok (n := n + 9) (by decide) (by decide) (by decide) (by decide) 1 tp hd7 (by omega) fun z s8 hz hd8 _ => ?_
      refine odd_ok hd8 (by omega) fun z2 s9 hz2 hd9 _ => ?_
      have sr : Sm 20 (r - 499999) := by unfold Sm; omega
      have t2 : Sm 2 2 := by unfold Sm; decide
      unfold fr
      array_get_dec
      refine ⟨by decide, t2.mulOk hp.a (by decide), t2.mulOk hp.b (by decide), by decide, by decide, decide_eq_true (by unfold sizeLine; omega), ?_⟩
      have ht : ∀ u v : Int, Sm 100 u → Sm 100 v → thB 132 12 4 (.tup [.int u, .int v]) = true := fun u v hu hv => by
        have a := lt_pow hu (show 100 ≤ 132 by decide)
        have b := lt_pow hv (show 100 ≤ 132 by decide)
        simp [thB, a, b]
      have new : (acc ++ [fr p, z, z2, .tup [.int (r - 499999), .int b], .tup [.int (2 * p.1), .int (2 * p.2)]]).length ≤ 5 * (k + 1) ∧ ∀ y ∈ acc ++ [fr p, z, z2, .tup [.int (r - 499999), .int b], .tup [.int (2 * p.1), .int (2 * p.2)]], thB 132 12 4 y = true := by
        refine ⟨by simp; omega, fun w hw => ?_⟩
        rcases List.mem_append.mp hw with h | h
        · exact hacc w h
        · simp only [List.mem_cons, List.not_mem_nil, or_false] at h
          rcases h with rfl | rfl | rfl | rfl | rfl
          · exact thB_mono (by decide) (by decide) (by decide) tp
          · exact hz
          · exact thB_mono (by decide) (by decide) (by decide) hz2
          · exact ht _ _ (sr.le (by decide)) (sb.le (by decide))
          · exact ht _ _ ((t2.mul hp.a).le (by decide)) ((t2.mul hp.b).le (by decide))
      refine fraction_by sb (by decide) hF (fun hb => ?_) fun hb => ⟨by decide, ?_⟩
      · rw [decide_eq_false hb, Bool.not_false, br_true]
        refine frac_ok hb sr sb (by decide) hF ⟨by decide, true, ?_, ?_⟩
        · have tf : thB 130 4 1 (fr (red (r - 499999) b)) = true := thB_fr ((red_fr hb sr sb).le (by decide)) (by decide)
          exact eq_self (told_nb rfl) (told_sh tf (by decide))
        · rw [Bool.not_true, br_false]
          exact ⟨_, _, _, _, _, _, rfl, new.1, new.2, hd9.le (by omega)⟩
      · rw [decide_eq_true hb, Bool.not_true, br_false]
        refine ⟨true, by decide +kernel, ?_⟩
        rw [Bool.not_true, br_false]
        exact ⟨_, _, _, _, _, _, rfl, new.1, new.2, hd9.le (by omega)⟩
    · rintro e s4 ⟨acc, o4, o5, o6, o7, o8, rfl, hl, hacc, hd4⟩
      refine s_for (fun k e s2 => ∃ o9, e = [some (.rol (ns.map D.int)), some (.int c), some (.lst j), some (.rol acc), o4, o5, o6, o7, o8, o9]) ?_
      rw [i_seq]
      array_get_dec
      have h5 : ([0, 1, 2, 3, 4] : List Nat).length = 5 := rfl
      simp only [List.length_map, List.length_range] at hl
      replace hl : acc.length ≤ 25 := hl
      refine ⟨_, rfl, _, rfl, two_lt hF (Nat.le_trans hl (by decide)), ⟨_, rfl⟩, ?_, ?_⟩
      · rintro k d e s2 hk ⟨o9, rfl⟩
        have hd : d ∈ acc := List.mem_of_getElem? hk
        have ok := thB_okT (hacc d hd)
        array_get_dec
        refine is_fraction_ok ok (by decide) hF ?_
        refine law_is_fraction_ok ok (by decide) hF ?_
        refine same_bl ?_
        array_get_dec
        rw [show (!decide True) = false from rfl, br_false]
        exact ⟨_, rfl⟩
      · rintro e s2 ⟨o9, rfl⟩
        exact ⟨_, _, _, _, _, _, _, _, _, rfl⟩
  · rintro e s2 ⟨o1, o2, o3, o4, o5, o6, o7, o8, o9, rfl⟩
    have f1 : Sm 20 (-5) := by unfold Sm; decide
    have f2 : Sm 20 (-6) := by unfold Sm; decide
    refine fraction_by f1 (by decide) hF (fun _ => ?_) fun h => absurd h (by decide)
    have e1 : eqD (fr (red 0 (-5))) (fr (0, 1)) = some true := by decide +kernel
    have e2 : eqD (fr (red (-4) (-6))) (fr (2, 3)) = some true := by decide +kernel
    refine ⟨by decide, true, e1, ?_⟩
    rw [br_true]
    refine fraction_by f2 (by decide) hF (fun _ => ?_) fun h => absurd h (by decide)
    exact ⟨by decide, true, e2, q _⟩
theorem pure_k01 {ns : List Int} (hn : ns.length ≤ 100000) : ∃ s F, callD F G KL 17 [.rol (ns.map D.int)] [] = .ok (.bl true) s := by
  obtain ⟨s, e⟩ := of_okX (k01_ok (n := 44) (F := FU) (s := []) (Q := fun d _ => d = .bl true) (X := fun _ _ => False) hn FU_le fun _ => rfl)
  exact ⟨s, FU, e⟩
end Dn

end
section
set_option Elab.async false
set_option maxRecDepth 100000
set_option maxHeartbeats 400000
set_option linter.unusedVariables false
set_option exponentiation.threshold 20000
/-! Pv3: roots by halves; numbers by the law. -/
namespace Dn
open PySem
local macro_rules | `(tactic| array_get_dec) => `(tactic| simp only [w_tryl, cf_low2, cf_low1, s_cons, s_nil, s_set, s_par, s_par3, s_ex, s_ret, s_retn, s_ite, s_rai, s_tryo, s_pas, s_brk, s_cnt, s_aug, t_nm, t_tup, t_sub, t_nil, t_cons, w_var, w_cst, w_top, w_bin, w_neg, w_cmp, w_cmp2, w_nt, w_and, w_or, w_ife, w_tup, w_rol, w_lst, w_ix, w_sl, w_call, w_prim, w_app, w_ins, w_bits, w_join, w_frz, w_nil, w_cons, w_no, w_so, c_no, c_so,
  okX_ok, isB_bl, br_true, br_false, o_add, o_sub, o_mul, o_fdiv, o_mod, o_pow, o_shl, o_cat, o_strs, o_rols, o_neg, o_lt, o_le, o_gt, o_ge, o_is, o_isn, o_eq, o_ne, o_in, o_nin, o_t0, o_t1, o_t2, o_t3, o_sl, o_slr, o_len, o_lenr, o_abs, o_int, o_intb, o_tupr, o_tupt, o_listt, o_listr, o_listm, o_isi, o_frzr, cf_self, eq_int, okS_then,
  List.getElem?_cons_zero, List.getElem?_cons_succ, List.set_cons_zero, List.set_cons_succ, List.length_cons, List.length_nil, Option.some.injEq, exists_eq_left', exists_eq_left, D.int.injEq, D.bl.injEq, D.tup.injEq, and_true, true_and, Nat.zero_add, Nat.reduceAdd, Nat.reduceLT, Nat.lt_irrefl, tysD, tyD, Bool.not_true, Bool.not_false])
variable {F n : Nat} {s : Sto} {Q : D → Sto → Prop} {X : Nat → Sto → Prop}
def rootD (x : Nat) : D := if isq x * isq x = x then .int (isq x : Nat) else .non
theorem low_root {x l : Nat} (h1 : x ≤ l * l) (h2 : ∀ r, r < l → r * r < x) : rootD x = if l * l = x then .int (l : Nat) else .non := by
  unfold rootD
  by_cases h : l * l = x
  · have e : isq x = l := isq_uniq (by omega) (by
      have : (l + 1) * (l + 1) = l * l + 2 * l + 1 := by grind
      omega)
    rw [e]
  · rw [if_neg h, if_neg]
    intro z
    rcases Nat.lt_or_ge (isq x) l with q | q
    · have := h2 _ q; omega
    · have : l * l ≤ isq x * isq x := Nat.mul_le_mul q q
      omega
theorem root_of_ok {x k : Nat} (hx : x < 2 ^ k) (hk : k ≤ 8000) (hF : 2 ^ 10000 ≤ F) (q : Q (rootD x) s) : okX (callD F G (n + 1) 52 [.int x] s) Q X := by
  refine callD_body [some (.int x), none, none, none] b_law_root_of g_law_root_of rfl rfl rfl ?_
  unfold b_law_root_of
  array_get_dec
  refine ⟨by decide, rfl, ?_⟩
  have xF : x < F := Nat.lt_of_lt_of_le (Nat.lt_of_lt_of_le hx (Nat.pow_le_pow_right (by decide) (by omega))) hF
  have big : ∀ h : Nat, h ≤ 2 * x + 1 → Sm 8010 (h : Int) := fun h hh => by
    unfold Sm
    rw [Int.natAbs_natCast]
    have : 2 ^ k ≤ 2 ^ 8000 := Nat.pow_le_pow_right (by decide) hk
    have : (2 : Nat) ^ 8010 = 2 ^ 8000 * 1024 := by rw [show 8010 = 8000 + 10 from rfl, Nat.pow_add]
    omega
  refine s_whl (fun m e s' => ∃ h : Nat, e = [some (.int x), some (.int 0), some (.int h), none] ∧ 1 ≤ h ∧ h ≤ 2 * x + 1 ∧ x - h = m ∧ s' = s) (m := x - 1) (by omega) ⟨1, rfl, by omega, by omega, rfl, rfl⟩ ?_
  rintro m e s' ⟨h, rfl, h1, h2, rfl, rfl⟩
  array_get_dec
  refine ⟨(big h h2).mulOk (big h h2) (by decide), fun hl => ?_, fun hl => ?_⟩
  · have hl : (h : Int) * h < x := of_decide_eq_true hl
    have hl : h * h < x := by exact_mod_cast hl
    have hx2 : h < x := Nat.lt_of_le_of_lt (Nat.le_mul_of_pos_left h h1) hl
    refine ⟨(show Sm 8010 2 by unfold Sm; exact Nat.lt_of_lt_of_le (by decide : 2 < 2 ^ 2) (Nat.pow_le_pow_right (by decide) (by decide))).mulOk (big h h2) (by decide), ?_⟩
    exact ⟨x - 2 * h, by omega, 2 * h, by simp, by omega, by omega, rfl⟩
  · have hl : ¬ (h : Int) * h < x := of_decide_eq_false hl
    have hl : x ≤ h * h := by
      have : ¬ h * h < x := fun z => hl (by exact_mod_cast z)
      omega
    have hhF : h < F := by
      have a1 : 2 * 2 ^ 8000 + 1 < 2 ^ 10000 := by decide +kernel
      have a2 : 2 ^ k ≤ 2 ^ 8000 := Nat.pow_le_pow_right (by decide) hk
      omega
    refine s_whl (fun m e s2 => ∃ (a b : Nat) (z : Option D), e = [some (.int x), some (.int a), some (.int b), z] ∧ a ≤ b ∧ b ≤ 2 * x + 1 ∧ (∀ r, r < a → r * r < x) ∧ x ≤ b * b ∧ b - a = m ∧ s2 = s') (m := h) hhF ⟨0, h, none, rfl, by omega, h2, fun r hr => by omega, hl, by omega, rfl⟩ ?_
    rintro m e s2 ⟨a, b, z, rfl, ab, b2, lo, hi, rfl, rfl⟩
    array_get_dec
    refine ⟨fun hab => ?_, fun hab => ?_⟩
    · have hab : (a : Int) < b := of_decide_eq_true hab
      have em : ((a : Int) + b).fdiv 2 = ((a + b) / 2 : Nat) := by
        rw [Int.fdiv_eq_ediv_of_nonneg _ (by decide)]
        omega
      rw [em]
      generalize hm : (a + b) / 2 = c
      have c2 : c ≤ 2 * x + 1 := by omega
      refine ⟨fdivOk_of (by decide) (lt_pow (a := 60) (by decide) (by decide)), (big c c2).mulOk (big c c2) (by decide), fun hc => ?_, fun hc => ?_⟩
      · have hc : (c : Int) * c < x := of_decide_eq_true hc
        have hc : c * c < x := by exact_mod_cast hc
        refine ⟨b - (c + 1), by omega, c + 1, b, _, by simp; rfl, by omega, b2, fun r hr => ?_, hi, rfl⟩
        have : r * r ≤ c * c := Nat.mul_le_mul (by omega) (by omega)
        omega
      · have hc : ¬ (c : Int) * c < x := of_decide_eq_false hc
        have hc : x ≤ c * c := by
          have : ¬ c * c < x := fun z => hc (by exact_mod_cast z)
          omega
        exact ⟨c - a, by omega, a, c, _, rfl, by omega, c2, lo, hc, rfl⟩
    · have hab : ¬ (a : Int) < b := of_decide_eq_false hab
      have eab : a = b := by omega
      subst eab
      rw [low_root hi lo] at q
      refine ⟨(big a b2).mulOk (big a b2) (by decide), ?_⟩
      by_cases h : a * a = x
      · rw [if_pos h] at q
        rw [decide_eq_true (by exact_mod_cast h), br_true]; exact q
      · rw [if_neg h] at q
        rw [decide_eq_false (fun z => h (by exact_mod_cast z)), br_false]; exact q
end Dn

end
section
set_option Elab.async false
set_option maxRecDepth 100000
set_option maxHeartbeats 400000
set_option linter.unusedVariables false
set_option exponentiation.threshold 20000
/-! Pv4: numbers by the law. -/
namespace Dn
open PySem
local macro_rules | `(tactic| array_get_dec) => `(tactic| simp only [w_tryl, cf_low2, cf_low1, s_cons, s_nil, s_set, s_par, s_par3, s_ex, s_ret, s_retn, s_ite, s_rai, s_tryo, s_pas, s_brk, s_cnt, s_aug, t_nm, t_tup, t_sub, t_nil, t_cons, w_var, w_cst, w_top, w_bin, w_neg, w_cmp, w_cmp2, w_nt, w_and, w_or, w_ife, w_tup, w_rol, w_lst, w_ix, w_sl, w_call, w_prim, w_app, w_ins, w_bits, w_join, w_frz, w_nil, w_cons, w_no, w_so, c_no, c_so,
  okX_ok, isB_bl, br_true, br_false, o_add, o_sub, o_mul, o_fdiv, o_mod, o_pow, o_shl, o_cat, o_strs, o_rols, o_neg, o_lt, o_le, o_gt, o_ge, o_is, o_isn, o_eq, o_ne, o_in, o_nin, o_t0, o_t1, o_t2, o_t3, o_sl, o_slr, o_len, o_lenr, o_abs, o_int, o_intb, o_tupr, o_tupt, o_listt, o_listr, o_listm, o_isi, o_frzr, cf_self, eq_int, okS_then,
  List.getElem?_cons_zero, List.getElem?_cons_succ, List.set_cons_zero, List.set_cons_succ, List.length_cons, List.length_nil, Option.some.injEq, exists_eq_left', exists_eq_left, D.int.injEq, D.bl.injEq, D.tup.injEq, and_true, true_and, Nat.zero_add, Nat.reduceAdd, Nat.reduceLT, Nat.lt_irrefl, tysD, tyD, Bool.not_true, Bool.not_false])
variable {F n : Nat} {s : Sto} {Q : D → Sto → Prop} {X : Nat → Sto → Prop}
theorem law_plus2_ok {k l : Nat} {x y : Int × Int} (hx : Fr k x) (hy : Fr l y) (hk : k + l + 1 ≤ 8000) (hF : 2 ^ 10000 ≤ F) (q : Q (fr (plusQ x y)) s) : okX (callD F G (n + 2) 39 [fr x, fr y] s) Q X := by
  refine callD_body [some (fr x), some (fr y)] b_law_plus g_law_plus rfl rfl rfl ?_
  unfold b_law_plus fr
  array_get_dec
  have p : x.2 * y.2 ≠ 0 := Int.mul_ne_zero (Int.ne_of_gt hx.p) (Int.ne_of_gt hy.p)
  have s1 : Sm (k + l + 1) (x.1 * y.2 + y.1 * x.2) := (hx.a.mul hy.b).add ((hy.a.mul hx.b).le (by omega))
  have s2 : Sm (k + l + 1) (x.2 * y.2) := (hx.b.mul hy.b).le (by omega)
  refine ⟨hx.a.mulOk hy.b (by omega), hy.a.mulOk hx.b (by omega), hx.b.mulOk hy.b (by omega), ?_⟩
  exact frac_ok p s1 s2 hk hF q
theorem law_by_ok {k l : Nat} {x y : Int × Int} (hx : Fr k x) (hy : Fr l y) (hk : k + l ≤ 8000) (hF : 2 ^ 10000 ≤ F) (q : Q (fr (byQ x y)) s) : okX (callD F G (n + 2) 51 [fr x, fr y] s) Q X := by
  refine callD_body [some (fr x), some (fr y)] b_law_by g_law_by rfl rfl rfl ?_
  unfold b_law_by fr
  array_get_dec
  have p : x.2 * y.2 ≠ 0 := Int.mul_ne_zero (Int.ne_of_gt hx.p) (Int.ne_of_gt hy.p)
  refine ⟨hx.a.mulOk hy.a (by omega), hx.b.mulOk hy.b (by omega), ?_⟩
  exact frac_ok p (hx.a.mul hy.a) (hx.b.mul hy.b) hk hF q
theorem isNon_root {x : Nat} : isNon (rootD x) = !decide (isq x * isq x = x) := by
  unfold rootD
  by_cases h : isq x * isq x = x
  · rw [if_pos h, decide_eq_true h]; rfl
  · rw [if_neg h, decide_eq_false h]; rfl
/-- the tops of a fraction that is none below nought -/
theorem fr_nat {k : Nat} {x : Int × Int} (hx : Fr k x) (h : 0 ≤ x.1) : ∃ a b : Nat, x = ((a : Int), (b : Int)) ∧ a < 2 ^ k ∧ b < 2 ^ k := by
  have := hx.p
  have ha := hx.a
  have hb := hx.b
  unfold Sm at ha hb
  exact ⟨x.1.toNat, x.2.toNat, Prod.ext (show x.1 = _ by omega) (show x.2 = _ by omega), by omega, by omega⟩
theorem sqrt_nat {a b : Nat} : sqrtQ ((a : Int), (b : Int)) = if isq a * isq a = a ∧ isq b * isq b = b then some (((isq a : Nat) : Int), ((isq b : Nat) : Int)) else none := by
  unfold sqrtQ
  rw [if_neg (by show ¬ (a : Int) < 0; omega)]
  simp only [Int.toNat_natCast]
  have e1 : (((isq a : Nat) : Int) * (isq a : Nat) = a) = (isq a * isq a = a) := propext ⟨fun h => by exact_mod_cast h, fun h => by exact_mod_cast h⟩
  have e2 : (((isq b : Nat) : Int) * (isq b : Nat) = b) = (isq b * isq b = b) := propext ⟨fun h => by exact_mod_cast h, fun h => by exact_mod_cast h⟩
  simp only [e1, e2]
theorem is_square_ok {k : Nat} {x : Int × Int} (hx : Fr k x) (hk : k ≤ 8000) (hF : 2 ^ 10000 ≤ F) (q : Q (.bl (sqrtQ x).isSome) s) : okX (callD F G (n + 2) 53 [fr x] s) Q X := by
  refine callD_body [some (fr x)] b_law_is_square g_law_is_square rfl rfl rfl ?_
  unfold b_law_is_square fr
  array_get_dec
  refine ⟨fun h => ?_, fun h => ?_⟩
  · have h : 0 ≤ x.1 := of_decide_eq_true h
    obtain ⟨a, b, rfl, la, lb⟩ := fr_nat hx h
    rw [sqrt_nat] at q
    refine root_of_ok la hk hF ?_
    rw [isNon_root, Bool.not_not]
    refine ⟨fun h1 => ?_, fun h1 => ?_⟩
    · refine root_of_ok lb hk hF ?_
      have h1 := of_decide_eq_true h1
      rw [isNon_root, Bool.not_not]
      by_cases h2 : isq b * isq b = b
      · rw [if_pos ⟨h1, h2⟩] at q
        rw [decide_eq_true h2]; exact q
      · rw [if_neg fun z => h2 z.2] at q
        rw [decide_eq_false h2]; exact q
    · have h1 := of_decide_eq_false h1
      rw [if_neg fun z => h1 z.1] at q
      exact q
  · have h : ¬ 0 ≤ x.1 := of_decide_eq_false h
    unfold sqrtQ at q
    rw [if_pos (by omega)] at q
    exact q
theorem law_number_ok {a b c : Nat} {p r u : Int × Int} (hp : Fr a p) (hr : Fr b r) (hu : Fr c u) (h1 : 2 * b + c ≤ 8000) (h2 : a + (2 * b + c + 1) / 2 + 3 ≤ 8000) (hF : 2 ^ 10000 ≤ F) (q : Q (numQ p r u).d s) : okX (callD F G (n + 4) 54 [fr p, fr r, fr u] s) Q X := by
  refine callD_body [some (fr p), some (fr r), some (fr u), none, none, none] b_law_number g_law_number rfl rfl rfl ?_
  unfold b_law_number
  array_get_dec
  refine law_by_ok hr hr (by omega) hF (law_by_ok (hr.by hr) hu (by omega) hF ?_)
  have hs := (hr.by hr).by hu
  have r0 : sqrtQ (byQ (byQ r r) u) = none → r.1 ≠ 0 := fun e h => by
    have p2 := hr.p
    have u2 := hu.p
    have e1 : byQ r r = (0, 1) := by unfold byQ; rw [h, Int.zero_mul]; exact red0 (Int.mul_ne_zero (by omega) (by omega))
    have e2 : byQ (0, 1) u = (0, 1) := by unfold byQ; rw [Int.zero_mul, Int.one_mul]; exact red0 (by omega)
    rw [e1, e2, sqrt01] at e
    cases e
  have rz : ∀ w, sqrtQ (byQ (byQ r r) u) = some w → r.1 = 0 → w = (0, 1) := fun w e h => by
    have p2 := hr.p
    have u2 := hu.p
    have e1 : byQ r r = (0, 1) := by unfold byQ; rw [h, Int.zero_mul]; exact red0 (Int.mul_ne_zero (by omega) (by omega))
    have e2 : byQ (0, 1) u = (0, 1) := by unfold byQ; rw [Int.zero_mul, Int.one_mul]; exact red0 (by omega)
    rw [e1, e2, sqrt01] at e
    cases e; rfl
  refine is_square_ok hs (by omega) hF ?_
  unfold numQ at q
  cases e : sqrtQ (byQ (byQ r r) u) with
  | none =>
    rw [e] at q
    have r0 := r0 e
    rw [show (none : Option (Int × Int)).isSome = false from rfl, isB_bl, br_false]
    dsimp only at q
    unfold Nm.d at q
    unfold fr at q ⊢
    array_get_dec
    refine ⟨fun h => ?_, fun h => ?_⟩
    · rw [Int.sign_eq_one_of_pos (of_decide_eq_true h)] at q
      exact ⟨by decide, q⟩
    · have h := of_decide_eq_false h
      rw [Int.sign_eq_neg_one_of_neg (by omega)] at q
      exact ⟨by decide, q⟩
  | some w =>
    rw [e] at q
    obtain ⟨hw, w0, w1, w2⟩ := sqrtQ_fr hs e
    have hw : Fr ((2 * b + c + 1) / 2) w := by
      have z : b + b + c = 2 * b + c := by omega
      rw [z] at hw; exact hw
    have x0 : 0 ≤ (byQ (byQ r r) u).1 := by rw [← w1]; exact Int.mul_nonneg w0 w0
    have fin : ∀ g : Int, byQ (g, 1) w = byQ (r.1.sign, 1) w → g.natAbs ≤ 1 → ∀ s', s' = s → okX (callD F G (n + 3) 51 [fr (g, 1), fr w] s') (fun d s1 => okX (callD F G (n + 3) 39 [fr p, d] s1) (fun d s1 => okX (callD F G (n + 3) 40 [d] s1) Q X) X) X := fun g eg hg s' es => by
      subst es
      refine law_by_ok (frs1 hg) hw (by omega) hF ?_
      rw [eg]
      refine law_plus2_ok hp ((frs1 (sign_abs _)).by hw) (by omega) hF ?_
      exact law_plain_ok q
    obtain ⟨a', b', ex, la, lb⟩ := fr_nat hs x0
    have rs : ∃ y z : Int, w = (y, z) ∧ rootD a' = .int y ∧ rootD b' = .int z := by
      rw [ex, sqrt_nat] at e
      split at e
      · rename_i h
        cases e
        unfold rootD
        rw [if_pos h.1, if_pos h.2]
        exact ⟨_, _, rfl, rfl, rfl⟩
      · cases e
    obtain ⟨y, z, ew, ry, rz'⟩ := rs
    rw [show (some w : Option (Int × Int)).isSome = true from rfl, isB_bl, br_true]
    rw [ex]
    unfold fr
    array_get_dec
    refine root_of_ok la (by omega) hF ?_
    refine root_of_ok lb (by omega) hF ?_
    rw [ry, rz']
    rw [ew] at fin
    refine ⟨by decide, fun h => ⟨by decide, fin 1 ?_ (by decide) _ rfl⟩, fun h => ⟨by decide, fin (-1) ?_ (by decide) _ rfl⟩⟩
    · have h : 0 ≤ r.1 := of_decide_eq_true h
      by_cases z0 : r.1 = 0
      · have := rz w e z0
        rw [← ew, this, z0]; decide
      · rw [Int.sign_eq_one_of_pos (by omega)]
    · have h : ¬ 0 ≤ r.1 := of_decide_eq_false h
      rw [Int.sign_eq_neg_one_of_neg (by omega)]
end Dn

end
section
set_option Elab.async false
set_option maxRecDepth 100000
set_option maxHeartbeats 400000
set_option linter.unusedVariables false
set_option exponentiation.threshold 20000
/-! Pv5: law_same of a thing and itself. -/
namespace Dn
open PySem
local macro_rules | `(tactic| array_get_dec) => `(tactic| simp only [w_tryl, cf_low2, cf_low1, s_cons, s_nil, s_set, s_par, s_par3, s_ex, s_ret, s_retn, s_ite, s_rai, s_tryo, s_pas, s_brk, s_cnt, s_aug, t_nm, t_tup, t_sub, t_nil, t_cons, w_var, w_cst, w_top, w_bin, w_neg, w_cmp, w_cmp2, w_nt, w_and, w_or, w_ife, w_tup, w_rol, w_lst, w_ix, w_sl, w_call, w_prim, w_app, w_ins, w_bits, w_join, w_frz, w_nil, w_cons, w_no, w_so, c_no, c_so,
  okX_ok, isB_bl, br_true, br_false, o_add, o_sub, o_mul, o_fdiv, o_mod, o_pow, o_shl, o_cat, o_strs, o_rols, o_neg, o_lt, o_le, o_gt, o_ge, o_is, o_isn, o_eq, o_ne, o_in, o_nin, o_t0, o_t1, o_t2, o_t3, o_sl, o_slr, o_len, o_lenr, o_abs, o_int, o_intb, o_tupr, o_tupt, o_listt, o_listr, o_listm, o_isi, o_frzr, cf_self, eq_int, okS_then,
  List.getElem?_cons_zero, List.getElem?_cons_succ, List.set_cons_zero, List.set_cons_succ, List.length_cons, List.length_nil, Option.some.injEq, exists_eq_left', exists_eq_left, D.int.injEq, D.bl.injEq, D.tup.injEq, and_true, true_and, Nat.zero_add, Nat.reduceAdd, Nat.reduceLT, Nat.lt_irrefl, tysD, tyD, Bool.not_true, Bool.not_false])
variable {F n : Nat} {s : Sto} {Q : D → Sto → Prop} {X : Nat → Sto → Prop}
def sortS : D → Str
  | .bl _ => "truth"
  | .int _ => "number"
  | .tup _ => "tuple"
  | .rol _ => "list"
  | _ => "other"
theorem sort_ok {x : D} (hx : flat x) (q : Q (.str (sortS x)) s) : okX (callD F G (n + 1) 10 [x] s) Q X := by
  refine callD_body [some x] b_law_sort g_law_sort rfl rfl rfl ?_
  unfold b_law_sort
  cases x <;> first | exact hx.elim | (array_get_dec; exact q)
theorem sortS_sh (x : D) : SeqAt.shaped (D.str (sortS x)).py = true := by
  cases x <;> simp only [sortS] <;> decide +kernel
theorem enum_mem {xs : List D} : ∀ {j i : Nat} {d : D}, (enumFrom j xs)[i]? = some d → ∃ y, xs[i]? = some y ∧ d = .tup [.int ((j + i : Nat) : Int), y] := by
  induction xs with
  | nil => intro j i d h; simp [enumFrom] at h
  | cons y r ih =>
    intro j i d h
    cases i with
    | zero => simp only [enumFrom, List.getElem?_cons_zero, Option.some.injEq] at h; exact ⟨y, rfl, h.symm⟩
    | succ i =>
      simp only [enumFrom, List.getElem?_cons_succ] at h
      obtain ⟨z, h1, h2⟩ := ih h
      exact ⟨z, h1, by rw [h2]; congr 3; omega⟩
theorem enum_len {xs : List D} : ∀ {j : Nat}, (enumFrom j xs).length = xs.length := by
  induction xs with
  | nil => intro j; rfl
  | cons y r ih => intro j; simp only [enumFrom, List.length_cons, ih]
/-- a walk over the parts of a thing that finds nothing -/
theorem same_walk {xs : List D} {x : D} (hx : x = .tup xs ∨ x = .rol xs) (hl : xs.length ≤ 1000) (hF : 2 ^ 10000 ≤ F) (ih : ∀ y ∈ xs, ∀ Q' : D → Sto → Prop, Q' (.bl true) s → okX (callD F G n 11 [y, y] s) Q' NoE) (q : Q (.rol []) s) :
    okX (denE F (callT F G n) n (E.lc [2, 3] (Tg.tup (Tgs.cons (Tg.nm 2) (Tgs.cons (Tg.nm 3) Tgs.nil))) (It.enum (E.var 0)) (Oe.so (E.call 11 (Es.cons (E.var 3) (Es.cons ((E.var 1).ix (E.var 2)) Es.nil))).nt) (E.var 2)) [some x, some x, none, none] s) Q X := by
  refine w_lc (fun i acc s2 => s2 = s ∧ acc = []) ?_
  rw [i_enum, w_var]
  refine ⟨x, rfl, xs, by rcases hx with rfl | rfl <;> rfl, _, rfl, ?_, ⟨rfl, rfl⟩, ?_, ?_⟩
  · rw [enum_len]; exact two_lt hF (by omega)
  · rintro i d acc s2 hi ⟨rfl, rfl⟩
    obtain ⟨y, hy, rfl⟩ := enum_mem hi
    simp only [wipeE]
    array_get_dec
    have fin : okX (callD F G n 11 [y, y] s2) (fun x s1 => isB x fun t => br (!t) (lineLt 0 = true ∧ s1 = s2 ∧ [] ++ [D.int ↑i] = []) (s1 = s2)) NoE := ih y (List.mem_of_getElem? hy) _ (by rw [isB_bl, Bool.not_true, br_false])
    refine ⟨rfl, ?_⟩
    rcases hx with rfl | rfl
    · rw [o_ixt hy]; exact fin
    · rw [o_ixr hy]; exact fin
  · rintro acc s2 ⟨rfl, rfl⟩
    exact q
theorem same_seq {xs : List D} {x : D} (hx : x = .tup xs ∨ x = .rol xs) (hl : xs.length ≤ 1000) (hF : 2 ^ 10000 ≤ F) (ih : ∀ y ∈ xs, ∀ Q' : D → Sto → Prop, Q' (.bl true) s → okX (callD F G (n + 1) 11 [y, y] s) Q' NoE) (q : Q (.bl true) s) :
    okX (callD F G (n + 2) 11 [x, x] s) Q X := by
  refine callD_body [some x, some x, none, none] b_law_same g_law_same rfl rfl rfl ?_
  unfold b_law_same
  have hf : flat x := by rcases hx with rfl | rfl <;> exact trivial
  array_get_dec
  refine sort_ok hf (sort_ok hf ?_)
  refine ⟨_, eq_strs (sortS_sh _) (sortS_sh _), ?_⟩
  rw [decide_eq_true rfl, Bool.not_true, br_false]
  have e0 : eqD (.rol []) (.rol []) = some true := by decide +kernel
  have w := same_walk (X := X) hx hl hF ih (Q := fun x s1 => lineOk 0 = true ∧ ∃ b, eqD x (D.rol []) = some b ∧ Q (D.bl b) s1) ⟨by decide, true, e0, q⟩
  rcases hx with rfl | rfl
  · refine ⟨true, rfl, ?_⟩
    rw [Bool.not_true, br_false]
    array_get_dec
    rw [show (!decide True) = false from rfl, br_false]
    exact w
  · refine ⟨true, rfl, ?_⟩
    rw [Bool.not_true, br_false]
    array_get_dec
    rw [show (!decide True) = false from rfl, br_false]
    exact w
theorem same_leaf {x : D} (hx : flat x) (hsh : SeqAt.shaped x.py = true) (h1 : ∀ xs, x ≠ .tup xs) (h2 : ∀ xs, x ≠ .rol xs) (q : Q (.bl true) s) : okX (callD F G (n + 2) 11 [x, x] s) Q X := by
  refine callD_body [some x, some x, none, none] b_law_same g_law_same rfl rfl rfl ?_
  unfold b_law_same
  array_get_dec
  refine sort_ok hx (sort_ok hx ?_)
  refine ⟨_, eq_strs (sortS_sh _) (sortS_sh _), ?_⟩
  rw [decide_eq_true rfl, Bool.not_true, br_false]
  have ee : eqD x x = some true := by
    cases x with
    | bl b => cases b <;> decide +kernel
    | int i => rw [eq_int, decide_eq_true rfl]
    | str z => rw [eq_strs hsh hsh, decide_eq_true rfl]
    | non => decide +kernel
    | tup xs => exact absurd rfl (h1 _)
    | rol xs => exact absurd rfl (h2 _)
    | lst i => exact hx.elim
    | obj i => exact hx.elim
  cases x <;> first | exact hx.elim | exact absurd rfl (h1 _) | exact absurd rfl (h2 _) | (refine ⟨false, rfl, ?_⟩; rw [Bool.not_false, br_true]; exact ⟨true, ee, q⟩)
theorem same_self {k m : Nat} (hm : m ≤ 1000) (hF : 2 ^ 10000 ≤ F) : ∀ (d : Nat) {x : D} {n : Nat} {s : Sto} {Q : D → Sto → Prop} {X : Nat → Sto → Prop}, thB k m d x = true → d ≤ 60 → Q (.bl true) s → okX (callD F G (n + d + 2) 11 [x, x] s) Q X := by
  intro d
  induction d with
  | zero =>
    intro x n s Q X hx hd q
    refine same_leaf (thB_flat hx) (thB_sh hx (by omega)) (fun xs e => ?_) (fun xs e => ?_) q
    · subst e; simp only [thB] at hx; cases hx
    · subst e; simp only [thB] at hx; cases hx
  | succ d ih =>
    intro x n s Q X hx hd q
    have seq : ∀ xs, (x = .tup xs ∨ x = .rol xs) → okX (callD F G (n + (d + 1) + 2) 11 [x, x] s) Q X := fun xs e => by
      obtain ⟨d', ed, hl, he⟩ := parts_of hx e
      obtain rfl : d = d' := by omega
      exact same_seq (n := n + d + 1) e (by omega) hF (fun y hy Q' hq => ih (n := n) (he y hy) (by omega) hq) q
    cases x with
    | tup xs => exact seq xs (.inl rfl)
    | rol xs => exact seq xs (.inr rfl)
    | _ => exact same_leaf (n := n + (d + 1)) (thB_flat hx) (thB_sh hx (by omega)) (fun _ e => nomatch e) (fun _ e => nomatch e) q
end Dn

end
section
set_option Elab.async false
set_option maxRecDepth 100000
set_option maxHeartbeats 400000
set_option linter.unusedVariables false
set_option exponentiation.threshold 20000
/-! Pv6: numbers drawn; roots. -/
namespace Dn
open PySem
local macro_rules | `(tactic| array_get_dec) => `(tactic| simp only [w_tryl, cf_low2, cf_low1, s_cons, s_nil, s_set, s_par, s_par3, s_ex, s_ret, s_retn, s_ite, s_rai, s_tryo, s_pas, s_brk, s_cnt, s_aug, t_nm, t_tup, t_sub, t_nil, t_cons, w_var, w_cst, w_top, w_bin, w_neg, w_cmp, w_cmp2, w_nt, w_and, w_or, w_ife, w_tup, w_rol, w_lst, w_ix, w_sl, w_call, w_prim, w_app, w_ins, w_bits, w_join, w_frz, w_nil, w_cons, w_no, w_so, c_no, c_so,
  okX_ok, isB_bl, br_true, br_false, o_add, o_sub, o_mul, o_fdiv, o_mod, o_pow, o_shl, o_cat, o_strs, o_rols, o_neg, o_lt, o_le, o_gt, o_ge, o_is, o_isn, o_eq, o_ne, o_in, o_nin, o_t0, o_t1, o_t2, o_t3, o_sl, o_slr, o_len, o_lenr, o_abs, o_int, o_intb, o_tupr, o_tupt, o_listt, o_listr, o_listm, o_isi, o_frzr, cf_self, eq_int, okS_then,
  List.getElem?_cons_zero, List.getElem?_cons_succ, List.set_cons_zero, List.set_cons_succ, List.length_cons, List.length_nil, Option.some.injEq, exists_eq_left', exists_eq_left, D.int.injEq, D.bl.injEq, D.tup.injEq, and_true, true_and, Nat.zero_add, Nat.reduceAdd, Nat.reduceLT, Nat.lt_irrefl, tysD, tyD, Bool.not_true, Bool.not_false])
variable {F n : Nat} {s : Sto} {Q : D → Sto → Prop} {X : Nat → Sto → Prop}
theorem root_by {k : Nat} {p : Int × Int} (hp : Fr k p) (hk : k ≤ 4000) (hF : 2 ^ 10000 ≤ F) (q : 0 ≤ p.1 → Q (numQ (0, 1) (1, 1) p).d s) (x : p.1 < 0 → X 1 s) : okX (callD F G (n + 5) 50 [fr p] s) Q X := by
  refine callD_body [some (fr p)] b_root g_root rfl rfl rfl ?_
  unfold b_root
  have e : ∀ (Q' : D → Sto → Prop) (s' : Sto), okX (ixD s' (fr p) (.int 0)) Q' X = Q' (.int p.1) s' := fun Q' s' => by unfold fr; rw [o_t0]
  array_get_dec
  rw [e]
  array_get_dec
  refine ⟨fun h => x (of_decide_eq_true h), fun h => ⟨by decide, ?_⟩⟩
  have h := of_decide_eq_false h
  exact number_ok (p := (0, 1)) (r := (1, 1)) (fr01 (k := 1) (by decide)) (fr11 (k := 1) (by decide)) hp (by omega) (by omega) hF (q (by omega))
theorem some_under_ok {j c : Nat} (hd : Deck s j c) (hc : c < 2 ^ 30) (q : ∀ p s', Fr 5 p → 0 < p.1 → Deck s' j (c + 1) → Keep j s s' → Q (fr p) s') : okX (callD F G (n + 3) 56 [.lst j] s) Q X := by
  refine callD_body [some (.lst j)] b_law_some_under g_law_some_under rfl rfl rfl ?_
  unfold b_law_some_under
  array_get_dec
  refine ⟨by decide, by decide, by decide, by decide, by decide, by decide, by decide, by decide, by decide, by decide, by decide, ?_⟩
  refine one_ok hd hc (by simp) (by simp) fun y s' hy hd' kp => ?_
  have go : ∀ a b : Int, Sm 5 a → Sm 5 b → 0 < b → Int.gcd a b = 1 → 0 < a → Q (fr (a, b)) s' := fun a b h1 h2 h3 h4 h5 => q (a, b) s' ⟨h1, h2, h3, h4⟩ h5 hd' kp
  simp only [List.mem_cons, List.not_mem_nil, or_false] at hy
  rcases hy with rfl | rfl | rfl | rfl | rfl | rfl | rfl | rfl | rfl | rfl <;> exact go _ _ (by unfold Sm; decide) (by unfold Sm; decide) (by decide) (by decide) (by decide)
theorem some_number_ok {j c k : Nat} {u : Int × Int} (hu : Fr k u) (hk : k ≤ 100) (hd : Deck s j c) (hc : c + 100 < 2 ^ 29) (hF : 2 ^ 10000 ≤ F) (q : ∀ p r s', Fr 21 p → Fr 21 r → Deck s' j (c + 7) → Keep j s s' → Q (numQ p r u).d s') : okX (callD F G (n + 5) 55 [.lst j, fr u] s) Q X := by
  refine callD_body [some (.lst j), some (fr u), none] b_law_some_number g_law_some_number rfl rfl rfl ?_
  unfold b_law_some_number
  array_get_dec
  refine ⟨by decide, by decide, by decide, ?_⟩
  refine some_fraction_ok hd (by omega) hF fun p s1 hp hd1 kp1 => ?_
  refine ⟨by decide, ?_⟩
  refine one_ok hd1 (by omega) (by simp) (by simp) fun y s2 hy hd2 kp2 => ?_
  refine some_fraction_ok (n := n + 1) hd2 (by omega) hF fun p2 s3 hp2 hd3 kp3 => ?_
  have go : ∀ r, Fr 21 r → y = fr r → okX (callD F G (n + 4) 54 [fr p2, y, fr u] s3) Q X := fun r hr e => by
    subst e
    exact law_number_ok hp2 hr hu (by omega) (by omega) hF (q _ _ _ hp2 hr hd3 (kp1.trans (kp2.trans kp3)))
  simp only [List.mem_cons, List.not_mem_nil, or_false] at hy
  rcases hy with rfl | rfl | rfl | rfl
  · exact go (0, 1) (fr01 (by decide)) rfl
  · exact go (1, 1) (fr11 (by decide)) rfl
  · exact go (-1, 1) (fr_int (k := 21) (a := -1) (by unfold Sm; decide) (by decide)) rfl
  · exact go p hp rfl
/-- a part of what is looked at as a number -/
theorem frac_part {k : Nat} {x y : D} {K : Pt} (hy : okT k y) (hk : k ≤ 8000) (hF : 2 ^ 10000 ≤ F) (q0 : isFr y = false → K.rt (.bl false) s) (q1 : isFr y = true → K.nx [some x, some y] s) :
    okS (denSs F (callT F G (n + 2)) (n + 2) (.cons (.ite (.or (.nt (.prim (.isi [.tuple]) (.cons (.var 1) .nil))) (.or (.cmp .ne (.prim .len (.cons (.var 1) .nil)) (.cst (.int 2))) (.or (.nt (.call 6 (.cons (.ix (.var 1) (.cst (.int 0))) .nil))) (.nt (.call 6 (.cons (.ix (.var 1) (.cst (.int 1))) .nil)))))) (.cons (.ret (.cst (.bl false))) .nil) .nil) (.cons (.ite (.or (.cmp .lt (.ix (.var 1) (.cst (.int 1))) (.cst (.int 1))) (.cmp .ne (.call 14 (.cons (.ix (.var 1) (.cst (.int 0))) (.cons (.ix (.var 1) (.cst (.int 1))) .nil))) (.var 1))) (.cons (.ret (.cst (.bl false))) .nil) .nil) .nil)) [some x, some y] s) K := by
  rcases two_or y with ⟨a, b, rfl⟩ | ⟨xs, rfl, hl⟩ | hn
  · array_get_dec
    rw [show (!decide (((2 : Nat) : Int) = 2)) = false from rfl, br_false]
    have ha := hy a (by simp)
    have hb := hy b (by simp)
    refine law_whole_ok ha.1 ?_
    array_get_dec
    cases a <;> first | exact ha.1.elim | skip
    case int a =>
      rw [ii, br_false]
      refine law_whole_ok hb.1 ?_
      array_get_dec
      cases b <;> first | exact hb.1.elim | skip
      case int b =>
        rw [ii, br_false]
        array_get_dec
        have sa := ha.2 a rfl
        have sb := hb.2 b rfl
        simp only [isFr] at q0 q1
        refine ⟨fun h => ?_, fun h => ?_⟩
        · have b0 : b < 1 := of_decide_eq_true h
          exact q0 (by rw [decide_eq_false (by omega)]; rfl)
        · have b0 : ¬ b < 1 := of_decide_eq_false h
          refine frac_ok (by omega) sa sb hk hF ⟨decide (red a b = (a, b)), eq_fr (x := red a b) (y := (a, b)), ?_⟩
          rw [red_self (by omega)]
          rw [decide_eq_true (show 0 < b by omega), Bool.true_and] at q0 q1
          refine ⟨fun h => q0 (by simpa using h), fun h => q1 (by simpa using h)⟩
      all_goals
        first
        | (simp only [isInt, Bool.not_false, br_true]; exact q0 rfl)
    all_goals
      first
      | (simp only [isInt, Bool.not_false, br_true]; exact q0 rfl)
  · have q := q0 (isFr_other (fun a b z => hl (by cases z; rfl)))
    array_get_dec
    refine ⟨fun _ => q, fun h => ?_⟩
    exfalso
    have : (!decide ((xs.length : Int) = 2)) = true := lens hl
    rw [this] at h; cases h
  · have q := q0 (isFr_other (fun a b => hn _))
    cases y <;> first | exact hy.elim | exact absurd rfl (hn _) | (array_get_dec; exact q)
theorem law_is_number_ok {k m d : Nat} {x : D} (hx : thB k m d x = true) (hk : k ≤ 8000) (hF : 2 ^ 10000 ≤ F) (q : Q (.bl (toNm x).isSome) s) : okX (callD F G (n + 3) 57 [x] s) Q X := by
  refine callD_body [some x, none] b_law_is_number g_law_is_number rfl rfl rfl ?_
  unfold b_law_is_number
  rcases three_or x with ⟨p, g, u, rfl⟩ | ⟨xs, rfl, hl⟩ | hn
  · obtain ⟨d', rfl, _, he⟩ := parts_of hx (.inl rfl)
    have hp := he p (by simp)
    have hg := he g (by simp)
    have hu := he u (by simp)
    array_get_dec
    rw [show (!decide (((3 : Nat) : Int) = 3)) = false from rfl, br_false]
    refine s_for (fun i e s2 => s2 = s ∧ (∃ o, e = [some (.tup [p, g, u]), o]) ∧ (0 < i → isFr p = true) ∧ (1 < i → isFr u = true)) ?_
    rw [i_seq]
    simp only [w_tup, w_cons, w_nil, w_ix, w_var, w_cst, List.getElem?_cons_zero, Option.some.injEq, exists_eq_left', o_t0, o_t2, List.length_cons, List.length_nil]
    refine ⟨by decide, _, rfl, _, rfl, two_lt hF (show (2 : Nat) ≤ 2 ^ 30 by decide), ⟨trivial, ⟨_, rfl⟩, fun h => absurd h (by decide), fun h => absurd h (by decide)⟩, ?_, ?_⟩
    · rintro i y e s2 hi ⟨rfl, ⟨o, rfl⟩, h0, h1⟩
      rw [t_nm]
      refine ⟨show 1 < 2 by decide, ?_⟩
      match i, hi with
      | 0, hi =>
        cases hi
        exact frac_part (thB_okT hp) hk hF (fun h => by rw [toNm_nfr (.inl h)] at q; exact q) fun h => ⟨rfl, ⟨_, rfl⟩, fun _ => h, by omega⟩
      | 1, hi =>
        cases hi
        exact frac_part (thB_okT hu) hk hF (fun h => by rw [toNm_nfr (.inr h)] at q; exact q) fun h => ⟨rfl, ⟨_, rfl⟩, fun _ => h0 (by decide), fun _ => h⟩
      | i + 2, hi => simp at hi
    · rintro e s2 ⟨rfl, ⟨o, rfl⟩, h0, h1⟩
      have fp := h0 (show 0 < 2 by decide)
      have fu := h1 (show 1 < 2 by decide)
      obtain ⟨a, ea, pa, ga⟩ := isFr_true fp
      obtain ⟨b, eb, pb, gb⟩ := isFr_true fu
      subst ea eb
      array_get_dec
      refine law_whole_ok (thB_flat hg) ?_
      rw [isB_bl]
      cases gi : isInt g with
      | false => rw [toNm_nint gi] at q; rw [Bool.not_false, br_true]; exact q
      | true =>
        obtain ⟨z, ez⟩ : ∃ i, g = D.int i := by cases g <;> first | exact ⟨_, rfl⟩ | cases gi
        subst ez
        revert q
        generalize z = g
        intro q
        rw [toNm_eq fp fu] at q
        rw [Bool.not_true, br_false]
        refine ⟨by decide, _, in3, ?_⟩
        unfold nmGood at q
        by_cases hg3 : g = -1 ∨ g = 0 ∨ g = 1
        · rw [decide_eq_true hg3, Bool.not_true, br_false]
          array_get_dec
          by_cases g0 : g = 0
          · rw [decide_eq_true g0, br_true]
            refine ⟨by decide, _, eq_fr (x := b) (y := (0, 1)), ?_⟩
            have e : (decide (g = 0 ∧ b = (0, 1)) || (decide (g = 1 ∨ g = -1) && (decide (0 < b.1) && (sqrtQ b).isNone))) = decide (b = (0, 1)) := by
              rw [decide_eq_false (show ¬ (g = 1 ∨ g = -1) by omega)]
              simp [g0]
            rw [e] at q
            exact q
          · rw [decide_eq_false g0, br_false]
            have e : (decide (g = 0 ∧ b = (0, 1)) || (decide (g = 1 ∨ g = -1) && (decide (0 < b.1) && (sqrtQ b).isNone))) = (decide (0 < b.1) && (sqrtQ b).isNone) := by
              rw [decide_eq_true (show g = 1 ∨ g = -1 by omega), decide_eq_false (fun z : g = 0 ∧ b = (0, 1) => g0 z.1)]
              simp
            rw [e] at q
            have fb := fr_of hu pb gb
            unfold fr at hu ⊢
            rw [o_t0, o_gt, isB_bl]
            refine ⟨fun h => ?_, fun h => ?_⟩
            · rw [h, Bool.true_and] at q
              refine is_square_ok fb hk hF ?_
              cases es : sqrtQ b with
              | none => rw [es] at q; rw [isB_bl]; exact q
              | some w => rw [es] at q; rw [isB_bl]; exact q
            · rw [h, Bool.false_and] at q
              exact q
        · rw [decide_eq_false hg3, Bool.not_false, br_true]
          have e : (decide (g = 0 ∧ b = (0, 1)) || (decide (g = 1 ∨ g = -1) && (decide (0 < b.1) && (sqrtQ b).isNone))) = false := by
            rw [decide_eq_false (show ¬ (g = 1 ∨ g = -1) by omega), decide_eq_false (fun z : g = 0 ∧ b = (0, 1) => hg3 (.inr (.inl z.1)))]; rfl
          rw [e] at q
          exact q
  · rw [toNm_other (fun a b c z => hl (by cases z; rfl))] at q
    array_get_dec
    refine ⟨fun _ => q, fun h => ?_⟩
    exfalso
    have z : ¬ (xs.length : Int) = 3 := by omega
    rw [decide_eq_false z] at h; cases h
  · rw [toNm_other (fun a b c => hn _)] at q
    cases x <;> first | exact (thB_flat hx).elim | exact absurd rfl (hn _) | (array_get_dec; exact q)
end Dn

end
section
set_option Elab.async false
set_option maxRecDepth 100000
set_option maxHeartbeats 400000
set_option linter.unusedVariables false
set_option exponentiation.threshold 20000
/-! Pv7: law k02. -/
namespace Dn
open PySem
local macro_rules | `(tactic| array_get_dec) => `(tactic| simp only [w_tryl, cf_low2, cf_low1, s_cons, s_nil, s_set, s_par, s_par3, s_ex, s_ret, s_retn, s_ite, s_rai, s_tryo, s_pas, s_brk, s_cnt, s_aug, t_nm, t_tup, t_sub, t_nil, t_cons, w_var, w_cst, w_top, w_bin, w_neg, w_cmp, w_cmp2, w_nt, w_and, w_or, w_ife, w_tup, w_rol, w_lst, w_ix, w_sl, w_call, w_prim, w_app, w_ins, w_bits, w_join, w_frz, w_nil, w_cons, w_no, w_so, c_no, c_so,
  okX_ok, isB_bl, br_true, br_false, o_add, o_sub, o_mul, o_fdiv, o_mod, o_pow, o_shl, o_cat, o_strs, o_rols, o_neg, o_lt, o_le, o_gt, o_ge, o_is, o_isn, o_eq, o_ne, o_in, o_nin, o_t0, o_t1, o_t2, o_t3, o_sl, o_slr, o_len, o_lenr, o_abs, o_int, o_intb, o_tupr, o_tupt, o_listt, o_listr, o_listm, o_isi, o_frzr, cf_self, eq_int, okS_then,
  List.getElem?_cons_zero, List.getElem?_cons_succ, List.set_cons_zero, List.set_cons_succ, List.length_cons, List.length_nil, Option.some.injEq, exists_eq_left', exists_eq_left, D.int.injEq, D.bl.injEq, D.tup.injEq, and_true, true_and, Nat.zero_add, Nat.reduceAdd, Nat.reduceLT, Nat.lt_irrefl, tysD, tyD, Bool.not_true, Bool.not_false])
variable {F n : Nat} {s : Sto} {Q : D → Sto → Prop} {X : Nat → Sto → Prop}
theorem thB_nm {k l : Nat} {x : Nm} (h : NmOk k l x) (hk : k ≤ 130) (hl : l ≤ 130) : thB 130 4 2 x.d = true ∧ thB 130 4 2 (.rol [fr x.p, .int x.g, fr x.u]) = true := by
  refine thB_parts (k := 130) (m := 4) (d := 1) (Nat.le_refl _) (Nat.le_refl _) (Nat.le_refl _) (by simp) fun y hy => ?_
  simp only [List.mem_cons, List.not_mem_nil, or_false] at hy
  rcases hy with rfl | rfl | rfl
  · exact thB_fr (h.p.le hk) (by decide)
  · have z : (x.g).natAbs < 2 ^ 130 := Nat.lt_of_le_of_lt h.ga (by decide)
    simp [thB, z]
  · exact thB_fr (h.u.le hl) (by decide)
theorem told_nm (x : Nm) : eqD (.tup [.str "told", x.d]) (.tup [.str "told", x.d]) = some true := by
  refine eq_self (told_nb rfl) ?_
  have e : SeqAt.shaped (D.str "told").py = true := by decide +kernel
  simp only [SeqAt.shaped, D.py, D.pys, PyData.canLay0, PyData.canLayAll0, PyData.depth, PyData.depthAll, Nm.d, fr] at e ⊢
  simpa using e
theorem same_plain {p : Int × Int} {k : Nat} (h : Fr k p) (hk : k ≤ 130) (hF : 2 ^ 10000 ≤ F) (q : Q (.bl true) s) : okX (callD F G (n + 4) 11 [(plainQ p).d, .tup [fr p, .int 0, fr (0, 1)]] s) Q X := 
  same_self (k := 130) (m := 4) (by decide) hF 2 (n := n) (thB_nm (plainQ_ok h) hk (by decide)).1 (by decide) q
def base2 : List D := [D.tup [D.tup [D.int 1, D.int 1], D.int 0, D.tup [D.int 1, D.int 1]],
  D.tup [D.tup [D.int 1, D.int 1], D.int 1, D.tup [D.int 0, D.int 1]], D.tup [D.tup [D.int 1, D.int 1], D.int 1, D.tup [D.int 4, D.int 9]],
  D.tup [D.tup [D.int 1, D.int 1], D.int (-1), D.tup [D.int (-2), D.int 1]], D.tup [D.tup [D.int 1, D.int 1], D.int 2, D.tup [D.int 2, D.int 1]],
  D.tup [D.tup [D.int 1, D.int 1], D.bl true, D.tup [D.int 2, D.int 1]], D.tup [D.tup [D.int 1, D.int 1], D.int 1, D.tup [D.int 8, D.int 18]],
  D.tup [D.tup [D.int 1, D.int 1], D.int 1, D.tup [D.int 8, D.int 9]], D.tup [D.tup [D.int 2, D.int 2], D.int 0, D.tup [D.int 0, D.int 1]]]
theorem k02_ok {ns : List Int} (hn : ns.length ≤ 100000) (hF : 2 ^ 10000 ≤ F) (q : ∀ s', Q (.bl true) s') : okX (callD F G (n + 20) 58 [.rol (ns.map D.int)] s) Q X := by
  refine callD_body [some (.rol (ns.map D.int)), none, none, none, none, none, none, none, none, none] b_law_k02 g_law_k02 rfl rfl rfl ?_
  unfold b_law_k02
  array_get_dec
  repeat refine ⟨(by decide : lineOk _ = true), ?_⟩
  obtain ⟨l12, mem⟩ := cells_of (ns := ns) (k := 12) (by decide)
  refine s_for (fun i e s2 => ∃ acc o2 o3 o4 o5 o6 o7 o8 o9, e = [some (.rol (ns.map D.int)), some (.rol acc), o2, o3, o4, o5, o6, o7, o8, o9] ∧ acc.length ≤ 9 + 20 * i ∧ ∀ y ∈ acc, thB 134 36 9 y = true) ?_
  rw [i_seq]
  array_get_dec
  refine ⟨by decide, decide_eq_true (by unfold sizeLine; simp; omega), _, rfl, _, rfl, two_lt hF (Nat.le_trans l12 (by decide)), ⟨base2, _, _, _, _, _, _, _, _, rfl, by decide, by decide +kernel⟩, ?_, ?_⟩
  · rintro i d e s2 hi ⟨acc0, o2, o3, o4, o5, o6, o7, o8, o9, rfl, hl0, hacc0⟩
    have i12 : i < 12 := Nat.lt_of_lt_of_le (List.getElem?_eq_some_iff.mp hi).1 l12
    obtain ⟨c, rfl⟩ := mem d (List.mem_of_getElem? hi)
    array_get_dec
    refine deck_ok (by decide) fun s3 hd3 _ => ?_
    generalize s2.length = j at *
    refine s_for (fun k e s2 => ∃ acc o4 o5 o6 o7 o8, e = [some (.rol (ns.map D.int)), some (.rol acc), some (.int c), some (.lst j), o4, o5, o6, o7, o8, o9] ∧ acc.length ≤ 9 + 20 * i + 5 * k ∧ (∀ y ∈ acc, thB 134 36 9 y = true) ∧ Deck s2 j (2 + 1000 * k)) ?_
    rw [i_rng]
    array_get_dec
    refine ⟨by decide, _, rfl, two_lt hF (by decide), ⟨acc0, o4, o5, o6, o7, o8, rfl, by simpa using hl0, hacc0, hd3⟩, ?_, ?_⟩
    · rintro k d e s4 hk ⟨acc, o4, o5, o6, o7, o8, rfl, hl, hacc, hd4⟩
      have hk5 : k < 4 := (List.getElem?_eq_some_iff.mp hk).1
      array_get_dec
      refine some_under_ok (n := n + 16) hd4 (by omega) fun u s5 hu hu0 hd5 _ => ?_
      refine some_number_ok (n := n + 14) hu (by decide) hd5 (by omega) hF fun p r s6 hp hr hd6 _ => ?_
      have nk := numQ_ok hp hr hu hu0
      have tn := thB_nm nk (by decide) (by decide)
      refine spoilt_ok (n := n + 12) (by decide) (by decide) (by decide) (by decide) 2 tn.1 hd6 (by omega) fun z s7 hz hd7 _ => ?_
      refine spoilt_ok (n := n + 9) (by decide) (by decide) (by decide) (by decide) 5 hz hd7 (by omega) fun z2 s8 hz2 hd8 _ => ?_
      generalize hx : numQ p r u = x at *
      have hz' : thB 134 36 9 z = true := thB_mono (by decide) (by decide) (by decide) hz
      have hz2' : thB 134 36 9 z2 = true := thB_mono (by decide) (by decide) (by decide) hz2
      show okX (primD Pr.list [.tup [fr x.p, .int x.g, fr x.u]] s8) _ _
      rw [o_listt]
      refine odd_ok (n := n + 16) hd8 (by omega) fun z3 s9 hz3 hd9 _ => ?_
      have new : (acc ++ [x.d, z, z2, .rol [fr x.p, .int x.g, fr x.u], z3]).length ≤ 9 + 20 * i + 5 * (k + 1) ∧ ∀ y ∈ acc ++ [x.d, z, z2, .rol [fr x.p, .int x.g, fr x.u], z3], thB 134 36 9 y = true := by
        refine ⟨by simp; omega, fun w hw => ?_⟩
        rcases List.mem_append.mp hw with h | h
        · exact hacc w h
        · simp only [List.mem_cons, List.not_mem_nil, or_false] at h
          rcases h with rfl | rfl | rfl | rfl | rfl
          · exact thB_mono (by decide) (by decide) (by decide) tn.1
          · exact hz'
          · exact hz2'
          · exact thB_mono (by decide) (by decide) (by decide) tn.2
          · exact thB_mono (by decide) (by decide) (by decide) hz3
      refine ⟨by decide, decide_eq_true (by unfold sizeLine; omega), ?_⟩
      refine some_fraction_ok hd9 (by omega) hF fun p2 s10 hp2 hd10 _ => ?_
      refine plain_ok (law_plain_ok ?_)
      refine same_plain (n := n + 15) hp2 (by decide) hF ?_
      rw [isB_bl, Bool.not_true, br_false]
      have e0 : ∀ (Q' : D → Sto → Prop) (X' : Nat → Sto → Prop) (s' : Sto), okX (ixD s' (fr p2) (.int 0)) Q' X' = Q' (.int p2.1) s' := fun Q' X' s' => by unfold fr; rw [o_t0]
      rw [e0, o_ge, isB_bl]
      refine ⟨fun h => ?_, fun h => ?_⟩
      · have h : 0 ≤ p2.1 := of_decide_eq_true h
        refine ⟨by decide, by decide, ?_⟩
        refine law_number_ok (n := n + 15) (p := (0, 1)) (r := (1, 1)) (fr01 (k := 1) (by decide)) (fr11 (k := 1) (by decide)) hp2 (by decide) (by decide) hF ?_
        refine ⟨by decide, ?_⟩
        refine root_by (n := n + 12) hp2 (by decide) hF (fun _ => ⟨true, told_nm _, ?_⟩) fun h' => absurd h (by omega)
        rw [Bool.not_true, br_false]
        exact ⟨_, _, _, _, _, _, rfl, new.1, new.2, hd10.le (by omega)⟩
      · have h : ¬ 0 ≤ p2.1 := of_decide_eq_false h
        refine root_by (n := n + 12) hp2 (by decide) hF (fun h' => absurd h' h) fun _ => ⟨by decide, true, by decide +kernel, ?_⟩
        rw [Bool.not_true, br_false]
        exact ⟨_, _, _, _, _, _, rfl, new.1, new.2, hd10.le (by omega)⟩
    · rintro e s4 ⟨acc, o4, o5, o6, o7, o8, rfl, hl, hacc, hd4⟩
      exact ⟨_, _, _, _, _, _, _, _, _, rfl, hl, hacc⟩
  · rintro e s2 ⟨acc, o2, o3, o4, o5, o6, o7, o8, o9, rfl, hl, hacc⟩
    replace hl : acc.length ≤ 249 := Nat.le_trans hl (by have : (cut ([D.int 0] ++ List.map D.int ns) none (some 12)).length ≤ 12 := l12; omega)
    refine lc_filter (fun _ => false) ?_ (two_lt hF (Nat.le_trans hl (by decide))) (by omega) (show (9 : Nat) < 10 by decide) (fun y hy Q' hq => ?_) ?_
    · rw [i_seq, w_var]
      exact ⟨_, rfl, _, rfl, rfl, rfl⟩
    · have ty := hacc y hy
      simp only [wipeE]
      array_get_dec
      refine is_number_ok (n := n + 16) ty (by decide) hF ?_
      refine law_is_number_ok (n := n + 16) ty (by decide) hF ?_
      refine same_bl ?_
      rw [decide_eq_true rfl, isB_bl]
      exact hq
    · have e0 : eqD (.rol []) (.rol []) = some true := by decide +kernel
      rw [List.filter_eq_nil_iff.mpr fun _ _ => by simp]
      exact ⟨by decide, true, e0, q _⟩
theorem pure_k02 {ns : List Int} (hn : ns.length ≤ 100000) : ∃ s F, callD F G KL 58 [.rol (ns.map D.int)] [] = .ok (.bl true) s := by
  obtain ⟨s, e⟩ := of_okX (k02_ok (n := 40) (F := FU) (s := []) (Q := fun d _ => d = .bl true) (X := fun _ _ => False) hn FU_le fun _ => rfl)
  exact ⟨s, FU, e⟩
end Dn

end
section
set_option Elab.async false
set_option maxRecDepth 100000
set_option maxHeartbeats 400000
set_option linter.unusedVariables false
set_option exponentiation.threshold 20000
/-! Pv8: the worth of a fraction. -/
namespace Dn
open PySem
local macro_rules | `(tactic| array_get_dec) => `(tactic| simp only [w_tryl, cf_low2, cf_low1, s_cons, s_nil, s_set, s_par, s_par3, s_ex, s_ret, s_retn, s_ite, s_rai, s_tryo, s_pas, s_brk, s_cnt, s_aug, t_nm, t_tup, t_sub, t_nil, t_cons, w_var, w_cst, w_top, w_bin, w_neg, w_cmp, w_cmp2, w_nt, w_and, w_or, w_ife, w_tup, w_rol, w_lst, w_ix, w_sl, w_call, w_prim, w_app, w_ins, w_bits, w_join, w_frz, w_nil, w_cons, w_no, w_so, c_no, c_so,
  okX_ok, isB_bl, br_true, br_false, o_add, o_sub, o_mul, o_fdiv, o_mod, o_pow, o_shl, o_cat, o_strs, o_rols, o_neg, o_lt, o_le, o_gt, o_ge, o_is, o_isn, o_eq, o_ne, o_in, o_nin, o_t0, o_t1, o_t2, o_t3, o_sl, o_slr, o_len, o_lenr, o_abs, o_int, o_intb, o_tupr, o_tupt, o_listt, o_listr, o_listm, o_isi, o_frzr, cf_self, eq_int, okS_then,
  List.getElem?_cons_zero, List.getElem?_cons_succ, List.set_cons_zero, List.set_cons_succ, List.length_cons, List.length_nil, Option.some.injEq, exists_eq_left', exists_eq_left, D.int.injEq, D.bl.injEq, D.tup.injEq, and_true, true_and, Nat.zero_add, Nat.reduceAdd, Nat.reduceLT, Nat.lt_irrefl, tysD, tyD, Bool.not_true, Bool.not_false])
variable {F n : Nat} {s : Sto} {Q : D → Sto → Prop} {X : Nat → Sto → Prop}
def V (x : Int × Int) : Rat := (x.1 : Rat) / (x.2 : Rat)
theorem V_red {a b : Int} (hb : b ≠ 0) : V (red a b) = (a : Rat) / (b : Rat) := by
  have g0 : Int.gcd a b ≠ 0 := gcd_ne hb
  obtain ⟨m, hm⟩ := Int.gcd_dvd_left a b
  obtain ⟨k, hk⟩ := Int.gcd_dvd_right a b
  have ea : (b.natAbs : Int) = b.sign * b := by
    rcases Int.lt_trichotomy b 0 with h | h | h
    · rw [Int.sign_eq_neg_one_of_neg h]; omega
    · exact absurd h hb
    · rw [Int.sign_eq_one_of_pos h]; omega
  generalize hg : (Int.gcd a b : Int) = g at *
  have g1 : g ≠ 0 := by omega
  have s1 : b.sign * b.sign = 1 := by
    rcases Int.lt_trichotomy b 0 with h | h | h
    · rw [Int.sign_eq_neg_one_of_neg h]; rfl
    · exact absurd h hb
    · rw [Int.sign_eq_one_of_pos h]; rfl
  have e : red a b = (b.sign * m, b.sign * k) := by
    unfold red
    rw [hg, ea]
    have e1 : b.sign * a / g = b.sign * m := by
      conv => lhs; rw [hm, show b.sign * (g * m) = g * (b.sign * m) by grind]
      exact Int.mul_ediv_cancel_left _ g1
    have e2 : b.sign * b / g = b.sign * k := by
      conv => lhs; arg 1; arg 2; rw [hk]
      rw [show b.sign * (g * k) = g * (b.sign * k) by grind]
      exact Int.mul_ediv_cancel_left _ g1
    rw [e1, e2]
  rw [e]
  unfold V
  have k0 : k ≠ 0 := fun z => hb (by rw [hk, z, Int.mul_zero])
  generalize b.sign = t at *
  have t0 : t ≠ 0 := fun z => by rw [z] at s1; omega
  rw [hm, hk]
  have a1 : (g : Rat) ≠ 0 := by exact_mod_cast g1
  have a2 : (k : Rat) ≠ 0 := by exact_mod_cast k0
  have a3 : (t : Rat) ≠ 0 := by exact_mod_cast t0
  push_cast
  grind
theorem Fr.q {k : Nat} {x : Int × Int} (hx : Fr k x) : (x.2 : Rat) ≠ 0 := by
  have := hx.p
  exact_mod_cast (show x.2 ≠ 0 by omega)
section
variable {k l : Nat} {x y : Int × Int} (hx : Fr k x) (hy : Fr l y)
include hx hy
theorem V_plus : V (plusQ x y) = V x + V y := by
  have p := fr_mul hx hy
  unfold plusQ
  rw [V_red (by omega)]
  unfold V
  have a1 := hx.q
  have a2 := hy.q
  push_cast
  grind
theorem V_minus : V (minusQ x y) = V x - V y := by
  have p := fr_mul hx hy
  unfold minusQ
  rw [V_red (by omega)]
  unfold V
  have a1 := hx.q
  have a2 := hy.q
  push_cast
  grind
theorem V_by : V (byQ x y) = V x * V y := by
  have p := fr_mul hx hy
  unfold byQ
  rw [V_red (by omega)]
  unfold V
  have a1 := hx.q
  have a2 := hy.q
  push_cast
  grind
theorem V_over (h0 : y.1 ≠ 0) : V (overQ x y) = V x / V y := by
  have p := hx.p
  unfold overQ
  rw [V_red (Int.mul_ne_zero (by omega) h0)]
  unfold V
  have a1 := hx.q
  have a2 := hy.q
  have a3 : (y.1 : Rat) ≠ 0 := by exact_mod_cast h0
  push_cast
  grind
theorem V_inj (h : V x = V y) : x = y := by
  have p := hx.p
  have p' := hy.p
  unfold V at h
  have a1 := hx.q
  have a2 := hy.q
  have e : (x.1 : Rat) * y.2 = y.1 * x.2 := by grind
  have e : x.1 * y.2 = y.1 * x.2 := by exact_mod_cast e
  have g : Nat.Coprime x.2.natAbs x.1.natAbs := Nat.Coprime.symm hx.g
  have g' : Nat.Coprime y.2.natAbs y.1.natAbs := Nat.Coprime.symm hy.g
  have en : x.1.natAbs * y.2.natAbs = y.1.natAbs * x.2.natAbs := by rw [← Int.natAbs_mul, ← Int.natAbs_mul, e]
  have d1 : x.2.natAbs ∣ y.2.natAbs := g.dvd_of_dvd_mul_left ⟨y.1.natAbs, by rw [en, Nat.mul_comm]⟩
  have d2 : y.2.natAbs ∣ x.2.natAbs := g'.dvd_of_dvd_mul_left ⟨x.1.natAbs, by rw [← en, Nat.mul_comm]⟩
  have e2 : x.2 = y.2 := by have := Nat.dvd_antisymm d1 d2; omega
  refine Prod.ext ?_ e2
  rw [e2] at e
  exact Int.eq_of_mul_eq_mul_right (by omega) e
end
theorem V_zero {k : Nat} {x : Int × Int} (hx : Fr k x) : V x = 0 ↔ x.1 = 0 := by
  unfold V
  have a1 := hx.q
  constructor
  · intro h
    have : (x.1 : Rat) = 0 := by grind
    exact_mod_cast this
  · intro h
    rw [h]; grind
theorem V_pos {k : Nat} {x : Int × Int} (hx : Fr k x) : 0 < V x ↔ 0 < x.1 := by
  have p := hx.p
  have p2 : (0 : Rat) < x.2 := by exact_mod_cast p
  unfold V
  constructor
  · intro h
    have := Rat.mul_pos h p2
    have e : (x.1 : Rat) / x.2 * x.2 = x.1 := by have := hx.q; grind
    rw [e] at this
    exact_mod_cast this
  · intro h
    have h' : (0 : Rat) < x.1 := by exact_mod_cast h
    have e : (x.1 : Rat) / x.2 * x.2 = x.1 := by have := hx.q; grind
    generalize (x.1 : Rat) / x.2 = z at *
    by_cases hz : 0 < z
    · exact hz
    · have := Rat.mul_nonneg (show 0 ≤ -z by grind) (show 0 ≤ (x.2 : Rat) by grind)
      grind
theorem V_neg {k : Nat} {x : Int × Int} (hx : Fr k x) : V x < 0 ↔ x.1 < 0 := by
  rcases Int.lt_trichotomy x.1 0 with h | h | h
  · have n : Fr k (-x.1, x.2) := ⟨hx.a.neg, hx.b, hx.p, by have := hx.g; show Int.gcd (-x.1) x.2 = 1; rw [Int.neg_gcd]; exact this⟩
    have z := (V_pos n).mpr (show 0 < -x.1 by omega)
    have e : V (-x.1, x.2) = - V x := by unfold V; push_cast; grind
    rw [e] at z
    exact ⟨fun _ => h, fun _ => by grind⟩
  · have z := (V_zero hx).mpr h
    exact ⟨fun q => by rw [z] at q; exact absurd q (by decide), fun q => by omega⟩
  · have z := (V_pos hx).mpr h
    exact ⟨fun q => by grind, fun q => by omega⟩
theorem isq_sq (n : Nat) : isq (n * n) = n := isq_uniq (Nat.le_refl _) (by
  have : (n + 1) * (n + 1) = n * n + 2 * n + 1 := by grind
  omega)
/-- a fraction that is a square has a root -/
theorem sqrt_of {k l : Nat} {x r : Int × Int} (hx : Fr k x) (hr : Fr l r) (h : V r * V r = V x) : sqrtQ x = some ((r.1.natAbs : Int), r.2) := by
  have p := hr.p
  have f : Fr (l + l) (r.1 * r.1, r.2 * r.2) := ⟨hr.a.mul hr.a, hr.b.mul hr.b, Int.mul_pos p p, by
    show Nat.gcd (r.1 * r.1).natAbs (r.2 * r.2).natAbs = 1
    rw [Int.natAbs_mul, Int.natAbs_mul]
    have g : Nat.Coprime r.1.natAbs r.2.natAbs := hr.g
    exact (g.mul_left g).mul_right (g.mul_left g)⟩
  have e : x = (r.1 * r.1, r.2 * r.2) := V_inj hx f (by
    rw [← h]
    unfold V
    have a1 := hr.q
    push_cast
    grind)
  have e1 : x = (((r.1.natAbs * r.1.natAbs : Nat) : Int), ((r.2.natAbs * r.2.natAbs : Nat) : Int)) := by
    rw [e, Int.natCast_mul, Int.natAbs_mul_self', Int.natCast_mul, Int.natAbs_mul_self']
  rw [e1, sqrt_nat, isq_sq, isq_sq, if_pos ⟨rfl, rfl⟩]
  congr 2
  omega
theorem sqrt_V {k : Nat} {x w : Int × Int} (hx : Fr k x) (h : sqrtQ x = some w) : V w * V w = V x ∧ 0 ≤ w.1 ∧ Fr ((k + 1) / 2) w := by
  obtain ⟨hw, h0, h1, h2⟩ := sqrtQ_fr hx h
  refine ⟨?_, h0, hw⟩
  unfold V
  rw [← h1, ← h2]
  have a1 := hw.q
  push_cast
  grind
theorem V01 : V (0, 1) = 0 := by decide +kernel
theorem V11 : V (1, 1) = 1 := by decide +kernel
end Dn

end
section
set_option Elab.async false
set_option maxRecDepth 100000
set_option maxHeartbeats 400000
set_option linter.unusedVariables false
set_option exponentiation.threshold 20000
/-! Pv9: two numbers of one field. -/
namespace Dn
open PySem
local macro_rules | `(tactic| array_get_dec) => `(tactic| simp only [w_tryl, cf_low2, cf_low1, s_cons, s_nil, s_set, s_par, s_par3, s_ex, s_ret, s_retn, s_ite, s_rai, s_tryo, s_pas, s_brk, s_cnt, s_aug, t_nm, t_tup, t_sub, t_nil, t_cons, w_var, w_cst, w_top, w_bin, w_neg, w_cmp, w_cmp2, w_nt, w_and, w_or, w_ife, w_tup, w_rol, w_lst, w_ix, w_sl, w_call, w_prim, w_app, w_ins, w_bits, w_join, w_frz, w_nil, w_cons, w_no, w_so, c_no, c_so,
  okX_ok, isB_bl, br_true, br_false, o_add, o_sub, o_mul, o_fdiv, o_mod, o_pow, o_shl, o_cat, o_strs, o_rols, o_neg, o_lt, o_le, o_gt, o_ge, o_is, o_isn, o_eq, o_ne, o_in, o_nin, o_t0, o_t1, o_t2, o_t3, o_sl, o_slr, o_len, o_lenr, o_abs, o_int, o_intb, o_tupr, o_tupt, o_listt, o_listr, o_listm, o_isi, o_frzr, cf_self, eq_int, okS_then,
  List.getElem?_cons_zero, List.getElem?_cons_succ, List.set_cons_zero, List.set_cons_succ, List.length_cons, List.length_nil, Option.some.injEq, exists_eq_left', exists_eq_left, D.int.injEq, D.bl.injEq, D.tup.injEq, and_true, true_and, Nat.zero_add, Nat.reduceAdd, Nat.reduceLT, Nat.lt_irrefl, tysD, tyD, Bool.not_true, Bool.not_false])
variable {F n : Nat} {s : Sto} {Q : D → Sto → Prop} {X : Nat → Sto → Prop}
theorem over_self {k : Nat} {u : Int × Int} (hu : Fr k u) (h : 0 < u.1) : overQ u u = (1, 1) := by
  refine V_inj (hu.over hu (by omega)) (fr11 (k := 1) (by decide)) ?_
  rw [V_over hu hu (by omega), V11]
  have : V u ≠ 0 := fun z => by have := (V_zero hu).mp z; omega
  grind
theorem sqrt11 : sqrtQ (1, 1) = some (1, 1) := by decide +kernel
theorem by_11 {k : Nat} {x : Int × Int} (hx : Fr k x) : byQ x (1, 1) = x :=
  V_inj (hx.by (fr11 (k := 1) (by decide))) hx (by rw [V_by hx (fr11 (k := 1) (by decide)), V11]; grind)
theorem infQ_own {k l : Nat} {x : Nm} (hx : NmOk k l x) (h : x.g ≠ 0) : infQ x x.u = some (x.p, (x.g, 1)) := by
  unfold infQ
  rw [if_neg h, over_self hx.u (hx.u0 h), sqrt11]
  dsimp only
  rw [by_11 (frs1 hx.ga)]
theorem sqrt_inv {k l : Nat} {x y : Int × Int} (hx : Fr k x) (hy : Fr l y) (x0 : 0 < x.1) (y0 : 0 < y.1) (h : (sqrtQ (overQ x y)).isSome = true) : (sqrtQ (overQ y x)).isSome = true := by
  obtain ⟨w, hw⟩ := Option.isSome_iff_exists.mp h
  have fo := hx.over hy (show y.1 ≠ 0 by omega)
  obtain ⟨e, w0, fw⟩ := sqrt_V fo hw
  rw [V_over hx hy (by omega)] at e
  have vx : V x ≠ 0 := fun z => by have := (V_zero hx).mp z; omega
  have vy : V y ≠ 0 := fun z => by have := (V_zero hy).mp z; omega
  have w1 : w.1 ≠ 0 := fun z => by
    have := (V_zero fw).mpr z
    rw [this] at e
    have : V x = 0 := by grind
    exact vx this
  have vw : V w ≠ 0 := fun z => w1 ((V_zero fw).mp z)
  have f1 := (fr11 (k := 1) (by decide)).over fw w1
  rw [sqrt_of (hy.over hx (by omega)) f1 (by
    rw [V_over (fr11 (k := 1) (by decide)) fw w1, V_over hy hx (by omega), V11]
    grind)]
  rfl
theorem by_0 {k : Nat} {u : Int × Int} (hu : Fr k u) : byQ (0, 1) u = (0, 1) :=
  V_inj ((fr01 (k := 1) (by decide)).by hu) (fr01 (k := 1) (by decide)) (by rw [V_by (fr01 (k := 1) (by decide)) hu, V01]; grind)
theorem numQ_0 {k : Nat} {p u : Int × Int} (hu : Fr k u) : numQ p (0, 1) u = plainQ (plusQ p (0, 1)) := by
  unfold numQ
  rw [show byQ (0, 1) (0, 1) = (0, 1) from by decide +kernel, by_0 hu, sqrt01]
  rfl
/-- the under of two numbers by the law -/
def fofL (x y : Nm) : Option (Int × Int) := if x.g = 0 ∨ y.g = 0 then some (if x.g ≠ 0 then x.u else if y.g ≠ 0 then y.u else (2, 1)) else if (sqrtQ (overQ x.u y.u)).isSome then some x.u else none
theorem fofL_none {k l : Nat} {x y : Nm} (hx : NmOk k l x) (hy : NmOk k l y) (h : fofL x y = none) : x.g ≠ 0 ∧ y.g ≠ 0 ∧ fofQ x y = x.u ∧ infQ x (fofQ x y) = some (x.p, (x.g, 1)) ∧ infQ y (fofQ x y) = none := by
  unfold fofL at h
  split at h
  · cases h
  · rename_i hg
    have xg : x.g ≠ 0 := fun z => hg (.inl z)
    have yg : y.g ≠ 0 := fun z => hg (.inr z)
    split at h
    · cases h
    · rename_i hs
      have ef : fofQ x y = x.u := by unfold fofQ; rw [if_pos xg]
      refine ⟨xg, yg, ef, ?_, ?_⟩
      · rw [ef]; exact infQ_own hx xg
      · rw [ef]
        unfold infQ
        rw [if_neg yg]
        cases e : sqrtQ (overQ y.u x.u) with
        | none => rfl
        | some w => exact absurd (sqrt_inv hy.u hx.u (hy.u0 yg) (hx.u0 xg) (by rw [e]; rfl)) hs
theorem fofL_some {k l : Nat} {x y : Nm} {u : Int × Int} (hl : 2 ≤ l) (hx : NmOk k l x) (hy : NmOk k l y) (h : fofL x y = some u) : ∃ a c, infQ x u = some a ∧ infQ y u = some c ∧ infQ x (fofQ x y) = some a ∧ infQ y (fofQ x y) = some c ∧ Fr l u ∧ 0 < u.1 ∧ (u = fofQ x y ∨ u = (2, 1) ∧ x.g = 0 ∧ y.g = 0 ∧ a.2 = (0, 1) ∧ c.2 = (0, 1)) := by
  unfold fofL at h
  have pl : ∀ (z : Nm) (v : Int × Int), z.g = 0 → infQ z v = some (z.p, (0, 1)) := fun z v hz => by unfold infQ; rw [if_pos hz]
  by_cases xg : x.g = 0
  · rw [if_pos (.inl xg)] at h
    rw [if_neg (by simpa using xg)] at h
    by_cases yg : y.g = 0
    · rw [if_neg (by simpa using yg)] at h
      cases h
      have f2 : Fr l ((2 : Int), (1 : Int)) := ⟨Nat.lt_of_lt_of_le (show 2 < 2 ^ 2 by decide) (Nat.pow_le_pow_right (by decide) hl), Nat.lt_of_lt_of_le (show 1 < 2 ^ 2 by decide) (Nat.pow_le_pow_right (by decide) hl), by decide, by decide⟩
      exact ⟨_, _, pl x _ xg, pl y _ yg, pl x _ xg, pl y _ yg, f2, by decide, .inr ⟨rfl, xg, yg, rfl, rfl⟩⟩
    · rw [if_pos yg] at h
      cases h
      have ef : fofQ x y = y.u := by unfold fofQ; rw [if_neg (by simpa using xg), if_pos yg]
      rw [ef]
      exact ⟨_, _, pl x _ xg, infQ_own hy yg, pl x _ xg, infQ_own hy yg, hy.u, hy.u0 yg, .inl rfl⟩
  · by_cases yg : y.g = 0
    · rw [if_pos (.inr yg), if_pos xg] at h
      cases h
      have ef : fofQ x y = x.u := by unfold fofQ; rw [if_pos xg]
      rw [ef]
      exact ⟨_, _, infQ_own hx xg, pl y _ yg, infQ_own hx xg, pl y _ yg, hx.u, hx.u0 xg, .inl rfl⟩
    · rw [if_neg (by rintro (z | z); exact xg z; exact yg z)] at h
      split at h
      · rename_i hs
        cases h
        have ef : fofQ x y = x.u := by unfold fofQ; rw [if_pos xg]
        rw [ef]
        have hs' := sqrt_inv hx.u hy.u (hx.u0 xg) (hy.u0 yg) hs
        obtain ⟨w, hw⟩ := Option.isSome_iff_exists.mp hs'
        have e : infQ y x.u = some (y.p, byQ (y.g, 1) w) := by unfold infQ; rw [if_neg yg, hw]
        exact ⟨_, _, infQ_own hx xg, e, infQ_own hx xg, e, hx.u, hx.u0 xg, .inl rfl⟩
      · cases h
theorem addQ_law {k l : Nat} {x y : Nm} (hl : 2 ≤ l) (hx : NmOk k l x) (hy : NmOk k l y) : addQ x y = match fofL x y with
    | none => none
    | some u => match infQ x u, infQ y u with
      | some a, some c => some (numQ (plusQ a.1 c.1) (plusQ a.2 c.2) u)
      | _, _ => none := by
  unfold addQ
  cases e : fofL x y with
  | none => obtain ⟨_, _, _, e1, e2⟩ := fofL_none hx hy e; rw [e1, e2]
  | some u =>
    obtain ⟨a, c, e1, e2, e3, e4, hu, _, h⟩ := fofL_some hl hx hy e
    dsimp only
    rw [e1, e2, e3, e4]
    dsimp only
    rcases h with rfl | ⟨_, _, _, za, zc⟩
    · rfl
    · rw [za, zc, show plusQ (0, 1) (0, 1) = (0, 1) from by decide +kernel, numQ_0 hu, numQ_0 (fofQ_ok (by omega) hx hy).1]
theorem timesQ_law {k l : Nat} {x y : Nm} (hl : 2 ≤ l) (hx : NmOk k l x) (hy : NmOk k l y) : timesQ x y = match fofL x y with
    | none => none
    | some u => match infQ x u, infQ y u with
      | some a, some c => some (numQ (plusQ (byQ a.1 c.1) (byQ (byQ a.2 c.2) u)) (plusQ (byQ a.1 c.2) (byQ a.2 c.1)) u)
      | _, _ => none := by
  unfold timesQ
  cases e : fofL x y with
  | none => obtain ⟨_, _, _, e1, e2⟩ := fofL_none hx hy e; rw [e1, e2]
  | some u =>
    obtain ⟨a, c, e1, e2, e3, e4, hu, hu0, h⟩ := fofL_some hl hx hy e
    dsimp only
    rw [e1, e2, e3, e4]
    dsimp only
    rcases h with rfl | ⟨_, _, _, za, zc⟩
    · rfl
    · obtain ⟨hv, hv0⟩ := fofQ_ok (show 1 ≤ l by omega) hx hy
      have ha := (infQ_fr hx hu hu0 e1).1
      have hc := (infQ_fr hy hu hu0 e2).1
      have z1 : byQ a.1 (0, 1) = (0, 1) := V_inj (ha.by (fr01 (k := 1) (by decide))) (fr01 (k := 1) (by decide)) (by rw [V_by ha (fr01 (k := 1) (by decide)), V01]; grind)
      rw [za, zc, z1, by_0 hc, show byQ (0, 1) (0, 1) = (0, 1) from by decide +kernel, by_0 hu, by_0 hv, show plusQ (0, 1) (0, 1) = (0, 1) from by decide +kernel, numQ_0 hu, numQ_0 hv]
end Dn

end
section
set_option Elab.async false
set_option maxRecDepth 100000
set_option maxHeartbeats 400000
set_option linter.unusedVariables false
set_option exponentiation.threshold 20000
/-! Pv10: parts over an under. -/
namespace Dn
open PySem
local macro_rules | `(tactic| array_get_dec) => `(tactic| simp only [w_tryl, cf_low2, cf_low1, s_cons, s_nil, s_set, s_par, s_par3, s_ex, s_ret, s_retn, s_ite, s_rai, s_tryo, s_pas, s_brk, s_cnt, s_aug, t_nm, t_tup, t_sub, t_nil, t_cons, w_var, w_cst, w_top, w_bin, w_neg, w_cmp, w_cmp2, w_nt, w_and, w_or, w_ife, w_tup, w_rol, w_lst, w_ix, w_sl, w_call, w_prim, w_app, w_ins, w_bits, w_join, w_frz, w_nil, w_cons, w_no, w_so, c_no, c_so,
  okX_ok, isB_bl, br_true, br_false, o_add, o_sub, o_mul, o_fdiv, o_mod, o_pow, o_shl, o_cat, o_strs, o_rols, o_neg, o_lt, o_le, o_gt, o_ge, o_is, o_isn, o_eq, o_ne, o_in, o_nin, o_t0, o_t1, o_t2, o_t3, o_sl, o_slr, o_len, o_lenr, o_abs, o_int, o_intb, o_tupr, o_tupt, o_listt, o_listr, o_listm, o_isi, o_frzr, cf_self, eq_int, okS_then,
  List.getElem?_cons_zero, List.getElem?_cons_succ, List.set_cons_zero, List.set_cons_succ, List.length_cons, List.length_nil, Option.some.injEq, exists_eq_left', exists_eq_left, D.int.injEq, D.bl.injEq, D.tup.injEq, and_true, true_and, Nat.zero_add, Nat.reduceAdd, Nat.reduceLT, Nat.lt_irrefl, tysD, tyD, Bool.not_true, Bool.not_false])
variable {F n : Nat} {s : Sto} {Q : D → Sto → Prop} {X : Nat → Sto → Prop}
theorem sqrt_of' {k l : Nat} {x r : Int × Int} (hx : Fr k x) (hr : Fr l r) (h : V r * V r = V x) (h0 : 0 ≤ r.1) : sqrtQ x = some r := by
  rw [sqrt_of hx hr h]
  congr 1
  exact Prod.ext (by show (r.1.natAbs : Int) = r.1; omega) rfl
theorem sign_V {k l : Nat} {x y : Int × Int} {m : Rat} (hx : Fr k x) (hy : Fr l y) (hm : 0 < m) (h : V y = V x * m) : y.1.sign = x.1.sign := by
  rcases Int.lt_trichotomy x.1 0 with z | z | z
  · have vx := (V_neg hx).mpr z
    have := Rat.mul_pos (show 0 < - V x by grind) hm
    have vy := (V_neg hy).mp (by rw [h]; grind)
    rw [Int.sign_eq_neg_one_of_neg z, Int.sign_eq_neg_one_of_neg vy]
  · have vx := (V_zero hx).mpr z
    have vy := (V_zero hy).mp (by rw [h, vx]; grind)
    rw [z, vy]
  · have vx := (V_pos hx).mpr z
    have vy := (V_pos hy).mp (by rw [h]; exact Rat.mul_pos vx hm)
    rw [Int.sign_eq_one_of_pos z, Int.sign_eq_one_of_pos vy]
theorem numQ_congr {a b c d : Nat} {p r u r' u' : Int × Int} (hr : Fr a r) (hu : Fr b u) (hr' : Fr c r') (hu' : Fr d u') (h : V r * V r * V u = V r' * V r' * V u') (hs : r.1.sign = r'.1.sign) : numQ p r u = numQ p r' u' := by
  have e : byQ (byQ r r) u = byQ (byQ r' r') u' := V_inj ((hr.by hr).by hu) ((hr'.by hr').by hu') (by
    rw [V_by (hr.by hr) hu, V_by hr hr, V_by (hr'.by hr') hu', V_by hr' hr', h])
  unfold numQ
  rw [e, hs]
/-- the parts over another under -/
theorem infQ_scale {k l b c d : Nat} {x : Nm} {v w m : Int × Int} {a : (Int × Int) × (Int × Int)} (hx : NmOk k l x) (hv : Fr b v) (v0 : 0 < v.1) (hw : Fr c w) (w0 : 0 < w.1) (hm : Fr d m) (m0 : 0 < m.1) (hvw : V m * V m = V v / V w) (h : infQ x v = some a) : infQ x w = some (a.1, byQ a.2 m) := by
  unfold infQ at h ⊢
  by_cases g : x.g = 0
  · rw [if_pos g] at h ⊢
    cases h
    rw [by_0 hm]
  · rw [if_neg g] at h ⊢
    have fo := hx.u.over hv (show v.1 ≠ 0 by omega)
    cases e : sqrtQ (overQ x.u v) with
    | none => rw [e] at h; cases h
    | some s =>
      rw [e] at h
      cases h
      obtain ⟨e1, s0, fs⟩ := sqrt_V fo e
      rw [V_over hx.u hv (by omega)] at e1
      have vv : V v ≠ 0 := fun z => by have := (V_zero hv).mp z; omega
      have vw : V w ≠ 0 := fun z => by have := (V_zero hw).mp z; omega
      have sm := fs.by hm
      have sm0 : 0 ≤ (byQ s m).1 := by
        have z1 := (V_pos hm).mpr m0
        have e2 := V_by fs hm
        rcases Int.lt_or_eq_of_le s0 with z | z
        · have := (V_pos fs).mpr z
          have := Rat.mul_pos this z1
          have := (V_pos sm).mp (by rw [e2]; exact this)
          omega
        · have q := (V_zero fs).mpr z.symm
          have := (V_zero sm).mp (by rw [e2, q]; grind)
          omega
      rw [sqrt_of' (hx.u.over hw (by omega)) sm (by rw [V_by fs hm, V_over hx.u hw (by omega)]; grind) sm0]
      dsimp only
      have fg := frs1 hx.ga
      have e3 : byQ (x.g, 1) (byQ s m) = byQ (byQ (x.g, 1) s) m := V_inj (fg.by sm) ((fg.by fs).by hm) (by
        rw [V_by fg sm, V_by fs hm, V_by (fg.by fs) hm, V_by fg fs]; grind)
      rw [e3]
/-- what a number with a root tells of an under that it has parts over -/
theorem infQ_root {k l b : Nat} {x : Nm} {v : Int × Int} {a : (Int × Int) × (Int × Int)} (hx : NmOk k l x) (hv : Fr b v) (v0 : 0 < v.1) (h : infQ x v = some a) (g : x.g ≠ 0) : ∃ m d, Fr d m ∧ 0 < m.1 ∧ V m * V m = V v / V x.u := by
  unfold infQ at h
  rw [if_neg g] at h
  have fo := hx.u.over hv (show v.1 ≠ 0 by omega)
  have hu0 := hx.u0 g
  cases e : sqrtQ (overQ x.u v) with
  | none => rw [e] at h; cases h
  | some s =>
    obtain ⟨e1, s0, fs⟩ := sqrt_V fo e
    rw [V_over hx.u hv (by omega)] at e1
    have vv : V v ≠ 0 := fun z => by have := (V_zero hv).mp z; omega
    have vw : V x.u ≠ 0 := fun z => by have := (V_zero hx.u).mp z; omega
    have s1 : s.1 ≠ 0 := fun z => by
      have := (V_zero fs).mpr z
      rw [this] at e1
      have : V x.u = 0 := by grind
      exact vw this
    have vs : V s ≠ 0 := fun z => s1 ((V_zero fs).mp z)
    have f1 := (fr11 (k := 1) (by decide)).over fs s1
    have ev : V (overQ (1, 1) s) = 1 / V s := by rw [V_over (fr11 (k := 1) (by decide)) fs s1, V11]
    refine ⟨overQ (1, 1) s, _, f1, ?_, ?_⟩
    · refine (V_pos f1).mp ?_
      have sp := (V_pos fs).mpr (show 0 < s.1 by omega)
      rw [ev]
      by_cases z : 0 < 1 / V s
      · exact z
      · have q := Rat.mul_nonneg (show 0 ≤ -(1 / V s) by grind) (show 0 ≤ V s by grind)
        have q2 : -(1 / V s) * V s = -1 := by grind
        rw [q2] at q
        exact absurd q (by decide)
    · rw [ev]; grind
/-- an under with parts of both is as good as their own -/
theorem fofQ_scale {k l b : Nat} {x y : Nm} {v : Int × Int} {a c : (Int × Int) × (Int × Int)} (hx : NmOk k l x) (hy : NmOk k l y) (hv : Fr b v) (v0 : 0 < v.1) (h1 : infQ x v = some a) (h2 : infQ y v = some c) (hg : x.g ≠ 0 ∨ y.g ≠ 0) : ∃ m d, Fr d m ∧ 0 < m.1 ∧ V m * V m = V v / V (fofQ x y) := by
  unfold fofQ
  by_cases xg : x.g ≠ 0
  · rw [if_pos xg]; exact infQ_root hx hv v0 h1 xg
  · have yg : y.g ≠ 0 := hg.resolve_left xg
    rw [if_neg xg, if_pos yg]; exact infQ_root hy hv v0 h2 yg
theorem infQ_plain {x : Nm} {v : Int × Int} {a : (Int × Int) × (Int × Int)} (h : infQ x v = some a) (g : x.g = 0) : a = (x.p, (0, 1)) := by
  unfold infQ at h
  rw [if_pos g] at h
  cases h; rfl
theorem by_z {k : Nat} {u : Int × Int} (hu : Fr k u) : byQ u (0, 1) = (0, 1) :=
  V_inj (hu.by (fr01 (k := 1) (by decide))) (fr01 (k := 1) (by decide)) (by rw [V_by hu (fr01 (k := 1) (by decide)), V01]; grind)
theorem plus_00 : plusQ (0, 1) (0, 1) = (0, 1) := by decide +kernel
theorem by_00 : byQ (0, 1) (0, 1) = (0, 1) := by decide +kernel
section
variable {k l b : Nat} {x y : Nm} {v : Int × Int} {a c : (Int × Int) × (Int × Int)} (hl : 1 ≤ l) (hx : NmOk k l x) (hy : NmOk k l y) (hv : Fr b v) (v0 : 0 < v.1) (h1 : infQ x v = some a) (h2 : infQ y v = some c)
include hl hx hy hv v0 h1 h2
theorem addQ_in : addQ x y = some (numQ (plusQ a.1 c.1) (plusQ a.2 c.2) v) := by
  obtain ⟨hw, w0⟩ := fofQ_ok hl hx hy
  obtain ⟨fa1, fa2⟩ := infQ_fr hx hv v0 h1
  obtain ⟨fc1, fc2⟩ := infQ_fr hy hv v0 h2
  by_cases hg : x.g ≠ 0 ∨ y.g ≠ 0
  · obtain ⟨m, d, fm, m0, em⟩ := fofQ_scale hx hy hv v0 h1 h2 hg
    unfold addQ
    generalize fofQ x y = w at *
    rw [infQ_scale hx hv v0 hw w0 fm m0 em h1, infQ_scale hy hv v0 hw w0 fm m0 em h2]
    dsimp only
    have vw : V w ≠ 0 := fun z => by have := (V_zero hw).mp z; omega
    have e1 : V (plusQ (byQ a.2 m) (byQ c.2 m)) = V (plusQ a.2 c.2) * V m := by
      rw [V_plus (fa2.by fm) (fc2.by fm), V_plus fa2 fc2, V_by fa2 fm, V_by fc2 fm]; grind
    congr 1
    refine numQ_congr ((fa2.by fm).plus (fc2.by fm)) hw (fa2.plus fc2) hv ?_ ?_
    · rw [e1]; grind
    · exact sign_V (fa2.plus fc2) ((fa2.by fm).plus (fc2.by fm)) ((V_pos fm).mpr m0) e1
  · have xg : x.g = 0 := by simp only [ne_eq, not_or, Decidable.not_not] at hg; exact hg.1
    have yg : y.g = 0 := by simp only [ne_eq, not_or, Decidable.not_not] at hg; exact hg.2
    have pl : ∀ (z : Nm) (v : Int × Int), z.g = 0 → infQ z v = some (z.p, (0, 1)) := fun z v hz => by unfold infQ; rw [if_pos hz]
    unfold addQ
    rw [pl x _ xg, pl y _ yg, infQ_plain h1 xg, infQ_plain h2 yg]
    dsimp only
    rw [plus_00, numQ_0 hw, numQ_0 hv]
theorem timesQ_in : timesQ x y = some (numQ (plusQ (byQ a.1 c.1) (byQ (byQ a.2 c.2) v)) (plusQ (byQ a.1 c.2) (byQ a.2 c.1)) v) := by
  obtain ⟨hw, w0⟩ := fofQ_ok hl hx hy
  obtain ⟨fa1, fa2⟩ := infQ_fr hx hv v0 h1
  obtain ⟨fc1, fc2⟩ := infQ_fr hy hv v0 h2
  by_cases hg : x.g ≠ 0 ∨ y.g ≠ 0
  · obtain ⟨m, d, fm, m0, em⟩ := fofQ_scale hx hy hv v0 h1 h2 hg
    unfold timesQ
    generalize fofQ x y = w at *
    rw [infQ_scale hx hv v0 hw w0 fm m0 em h1, infQ_scale hy hv v0 hw w0 fm m0 em h2]
    dsimp only
    have vw : V w ≠ 0 := fun z => by have := (V_zero hw).mp z; omega
    have ep : plusQ (byQ a.1 c.1) (byQ (byQ (byQ a.2 m) (byQ c.2 m)) w) = plusQ (byQ a.1 c.1) (byQ (byQ a.2 c.2) v) := by
      congr 1
      refine V_inj (((fa2.by fm).by (fc2.by fm)).by hw) ((fa2.by fc2).by hv) ?_
      rw [V_by ((fa2.by fm).by (fc2.by fm)) hw, V_by (fa2.by fm) (fc2.by fm), V_by fa2 fm, V_by fc2 fm, V_by (fa2.by fc2) hv, V_by fa2 fc2]
      grind
    rw [ep]
    have e1 : V (plusQ (byQ a.1 (byQ c.2 m)) (byQ (byQ a.2 m) c.1)) = V (plusQ (byQ a.1 c.2) (byQ a.2 c.1)) * V m := by
      rw [V_plus (fa1.by (fc2.by fm)) ((fa2.by fm).by fc1), V_plus (fa1.by fc2) (fa2.by fc1), V_by fa1 (fc2.by fm), V_by fc2 fm, V_by (fa2.by fm) fc1, V_by fa2 fm, V_by fa1 fc2, V_by fa2 fc1]; grind
    congr 1
    refine numQ_congr ((fa1.by (fc2.by fm)).plus ((fa2.by fm).by fc1)) hw ((fa1.by fc2).plus (fa2.by fc1)) hv ?_ ?_
    · rw [e1]; grind
    · exact sign_V ((fa1.by fc2).plus (fa2.by fc1)) ((fa1.by (fc2.by fm)).plus ((fa2.by fm).by fc1)) ((V_pos fm).mpr m0) e1
  · have xg : x.g = 0 := by simp only [ne_eq, not_or, Decidable.not_not] at hg; exact hg.1
    have yg : y.g = 0 := by simp only [ne_eq, not_or, Decidable.not_not] at hg; exact hg.2
    have pl : ∀ (z : Nm) (v : Int × Int), z.g = 0 → infQ z v = some (z.p, (0, 1)) := fun z v hz => by unfold infQ; rw [if_pos hz]
    unfold timesQ
    rw [pl x _ xg, pl y _ yg, infQ_plain h1 xg, infQ_plain h2 yg]
    dsimp only
    rw [by_00, by_0 hw, by_0 hv, by_z hx.p, by_0 hy.p, plus_00, numQ_0 hw, numQ_0 hv]
end
/-- the parts of a number that was made of parts -/
theorem infQ_num {a b c : Nat} {p r v : Int × Int} (hp : Fr a p) (hr : Fr b r) (hv : Fr c v) (v0 : 0 < v.1) (h : sqrtQ v = none ∨ r = (0, 1)) : infQ (numQ p r v) v = some (p, r) := by
  by_cases r0 : r.1 = 0
  · have er : r = (0, 1) := V_inj hr (fr01 (k := 1) (by decide)) (by rw [V01]; exact (V_zero hr).mpr r0)
    rw [er, numQ_0 hv]
    have e : plusQ p (0, 1) = p := V_inj (hp.plus (fr01 (k := 1) (by decide))) hp (by rw [V_plus hp (fr01 (k := 1) (by decide)), V01]; grind)
    rw [e]
    unfold infQ plainQ
    rw [if_pos rfl]
  · have hn : sqrtQ v = none := h.resolve_right fun z => r0 (by rw [z])
    have vr : V r ≠ 0 := fun z => r0 ((V_zero hr).mp z)
    have vv : V v ≠ 0 := fun z => by have := (V_zero hv).mp z; omega
    have hs := (hr.by hr).by hv
    have es : V (byQ (byQ r r) v) = V r * V r * V v := by rw [V_by (hr.by hr) hv, V_by hr hr]
    have e : sqrtQ (byQ (byQ r r) v) = none := by
      cases e : sqrtQ (byQ (byQ r r) v) with
      | none => rfl
      | some w =>
        obtain ⟨e1, _, fw⟩ := sqrt_V hs e
        rw [es] at e1
        rw [sqrt_of hv (fw.over hr r0) (by rw [V_over fw hr r0]; grind)] at hn
        cases hn
    unfold numQ
    rw [e]
    dsimp only
    unfold infQ
    have sg : r.1.sign ≠ 0 := fun z => r0 (Int.sign_eq_zero_iff_zero.mp z)
    dsimp only
    rw [if_neg sg]
    rw [sqrt_of (hs.over hv (by omega)) hr (by rw [V_over hs hv (by omega), es]; grind)]
    dsimp only
    have f1 : Fr b ((r.1.natAbs : Int), r.2) := ⟨by have := hr.a; unfold Sm at *; omega, hr.b, hr.p, by have := hr.g; show Int.gcd (r.1.natAbs : Int) r.2 = 1; simpa [Int.gcd] using this⟩
    have e2 : byQ (r.1.sign, 1) ((r.1.natAbs : Int), r.2) = r := V_inj ((frs1 (sign_abs _)).by f1) hr (by
      rw [V_by (frs1 (sign_abs _)) f1]
      unfold V
      have q : (r.1.sign : Rat) * (r.1.natAbs : Int) = r.1 := by exact_mod_cast Int.sign_mul_natAbs r.1
      have := hr.q
      push_cast at q ⊢
      grind)
    rw [e2]
end Dn

end
section
set_option Elab.async false
set_option maxRecDepth 100000
set_option maxHeartbeats 400000
set_option linter.unusedVariables false
set_option exponentiation.threshold 20000
/-! Pv11: one number by another. -/
namespace Dn
open PySem
local macro_rules | `(tactic| array_get_dec) => `(tactic| simp only [w_tryl, cf_low2, cf_low1, s_cons, s_nil, s_set, s_par, s_par3, s_ex, s_ret, s_retn, s_ite, s_rai, s_tryo, s_pas, s_brk, s_cnt, s_aug, t_nm, t_tup, t_sub, t_nil, t_cons, w_var, w_cst, w_top, w_bin, w_neg, w_cmp, w_cmp2, w_nt, w_and, w_or, w_ife, w_tup, w_rol, w_lst, w_ix, w_sl, w_call, w_prim, w_app, w_ins, w_bits, w_join, w_frz, w_nil, w_cons, w_no, w_so, c_no, c_so,
  okX_ok, isB_bl, br_true, br_false, o_add, o_sub, o_mul, o_fdiv, o_mod, o_pow, o_shl, o_cat, o_strs, o_rols, o_neg, o_lt, o_le, o_gt, o_ge, o_is, o_isn, o_eq, o_ne, o_in, o_nin, o_t0, o_t1, o_t2, o_t3, o_sl, o_slr, o_len, o_lenr, o_abs, o_int, o_intb, o_tupr, o_tupt, o_listt, o_listr, o_listm, o_isi, o_frzr, cf_self, eq_int, okS_then,
  List.getElem?_cons_zero, List.getElem?_cons_succ, List.set_cons_zero, List.set_cons_succ, List.length_cons, List.length_nil, Option.some.injEq, exists_eq_left', exists_eq_left, D.int.injEq, D.bl.injEq, D.tup.injEq, and_true, true_and, Nat.zero_add, Nat.reduceAdd, Nat.reduceLT, Nat.lt_irrefl, tysD, tyD, Bool.not_true, Bool.not_false])
variable {F n : Nat} {s : Sto} {Q : D → Sto → Prop} {X : Nat → Sto → Prop}
def zeroN : Nm := ⟨(0, 1), 0, (0, 1)⟩
def negF (x : Int × Int) : Int × Int := (-x.1, x.2)
def amQ (c : (Int × Int) × (Int × Int)) (u : Int × Int) : Int × Int := minusQ (byQ c.1 c.1) (byQ (byQ c.2 c.2) u)
/-- a number of parts by another one -/
def shP (a c : (Int × Int) × (Int × Int)) (u : Int × Int) : Nm :=
  numQ (plusQ (byQ a.1 (overQ c.1 (amQ c u))) (byQ (byQ a.2 (overQ (negF c.2) (amQ c u))) u)) (plusQ (byQ a.1 (overQ (negF c.2) (amQ c u))) (byQ a.2 (overQ c.1 (amQ c u)))) u
theorem Fr.neg {k : Nat} {x : Int × Int} (h : Fr k x) : Fr k (negF x) := ⟨h.a.neg, h.b, h.p, by have := h.g; show Int.gcd (-x.1) x.2 = 1; rw [Int.neg_gcd]; exact this⟩
theorem V_negF (x : Int × Int) : V (negF x) = - V x := by unfold V negF; push_cast; grind
theorem minus_0 {k : Nat} {x : Int × Int} (h : Fr k x) : minusQ (0, 1) x = negF x :=
  V_inj ((fr01 (k := 1) (by decide)).minus h) h.neg (by rw [V_minus (fr01 (k := 1) (by decide)) h, V_negF, V01]; grind)
theorem infQ_sq {k l b : Nat} {y : Nm} {w : Int × Int} {c : (Int × Int) × (Int × Int)} (hy : NmOk k l y) (hw : Fr b w) (w0 : 0 < w.1) (h : infQ y w = some c) (g : y.g ≠ 0) : V c.2 * V c.2 * V w = V y.u := by
  unfold infQ at h
  rw [if_neg g] at h
  have fo := hy.u.over hw (show w.1 ≠ 0 by omega)
  cases e : sqrtQ (overQ y.u w) with
  | none => rw [e] at h; cases h
  | some s =>
    rw [e] at h
    cases h
    obtain ⟨e1, s0, fs⟩ := sqrt_V fo e
    rw [V_over hy.u hw (by omega)] at e1
    have vw : V w ≠ 0 := fun z => by have := (V_zero hw).mp z; omega
    dsimp only
    rw [V_by (frs1 hy.ga) fs]
    have gg : V (y.g, 1) * V (y.g, 1) = 1 := by
      rcases hy.g with ⟨z, _⟩ | ⟨z | z, _⟩
      · exact absurd z g
      · rw [z]; decide +kernel
      · rw [z]; decide +kernel
    grind
theorem zero_iff {k l b : Nat} {y : Nm} {w : Int × Int} {c : (Int × Int) × (Int × Int)} (hy : NmOk k l y) (hw : Fr b w) (w0 : 0 < w.1) (h : infQ y w = some c) : (c.1 = (0, 1) ∧ c.2 = (0, 1)) ↔ y = zeroN := by
  constructor
  · rintro ⟨h1, h2⟩
    by_cases g : y.g = 0
    · have e := infQ_plain h g
      rw [e] at h1
      rcases hy.g with ⟨_, z⟩ | ⟨z | z, _⟩
      · obtain ⟨p, g', u⟩ := y
        unfold zeroN
        have h1 : p = (0, 1) := h1
        have g : g' = 0 := g
        have z : u = (0, 1) := z
        rw [h1, g, z]
      · omega
      · omega
    · have e := infQ_sq hy hw w0 h g
      rw [h2, V01] at e
      have := (V_pos hy.u).mpr (hy.u0 g)
      grind
  · rintro rfl
    have e := infQ_plain h rfl
    rw [e]
    exact ⟨rfl, rfl⟩
theorem am_fr {k l b : Nat} {c : (Int × Int) × (Int × Int)} {w : Int × Int} (h1 : Fr k c.1) (h2 : Fr l c.2) (hw : Fr b w) : Fr (k + k + (l + l + b) + 1) (amQ c w) := (h1.by h1).minus ((h2.by h2).by hw)
theorem am_V {k l b : Nat} {c : (Int × Int) × (Int × Int)} {w : Int × Int} (h1 : Fr k c.1) (h2 : Fr l c.2) (hw : Fr b w) : V (amQ c w) = V c.1 * V c.1 - V c.2 * V c.2 * V w := by
  unfold amQ
  rw [V_minus (h1.by h1) ((h2.by h2).by hw), V_by h1 h1, V_by (h2.by h2) hw, V_by h2 h2]
theorem am_ne {k l b : Nat} {y : Nm} {w : Int × Int} {c : (Int × Int) × (Int × Int)} (hy : NmOk k l y) (hw : Fr b w) (w0 : 0 < w.1) (h : infQ y w = some c) (hn : y ≠ zeroN) (hs : sqrtQ w = none ∨ c.2 = (0, 1)) : (amQ c w).1 ≠ 0 := by
  intro z
  obtain ⟨f1, f2⟩ := infQ_fr hy hw w0 h
  have e := am_V f1 f2 hw
  rw [(V_zero (am_fr f1 f2 hw)).mpr z] at e
  have nz : ¬ (c.1 = (0, 1) ∧ c.2 = (0, 1)) := fun q => hn ((zero_iff hy hw w0 h).mp q)
  by_cases c2 : c.2 = (0, 1)
  · rw [c2, V01] at e
    have : V c.1 * V c.1 = 0 := by grind
    have v1 : V c.1 = 0 := by
      rcases Rat.mul_eq_zero.mp this with q | q <;> exact q
    exact nz ⟨V_inj f1 (fr01 (k := 1) (by decide)) (by rw [V01]; exact v1), c2⟩
  · have hs := hs.resolve_right c2
    have v2 : V c.2 ≠ 0 := fun q => c2 (V_inj f2 (fr01 (k := 1) (by decide)) (by rw [V01]; exact q))
    have n2 : c.2.1 ≠ 0 := fun q => v2 ((V_zero f2).mpr q)
    rw [sqrt_of hw (f1.over f2 n2) (by rw [V_over f1 f2 n2]; grind)] at hs
    cases hs
theorem over_0 {k : Nat} {x : Int × Int} (hx : Fr k x) (h : x.1 ≠ 0) : overQ (0, 1) x = (0, 1) :=
  V_inj ((fr01 (k := 1) (by decide)).over hx h) (fr01 (k := 1) (by decide)) (by rw [V_over (fr01 (k := 1) (by decide)) hx h, V01]; grind)
theorem fofQ_ns {k l : Nat} {x y : Nm} (hx : NmOk k l x) (hy : NmOk k l y) : sqrtQ (fofQ x y) = none ∨ x.g = 0 ∧ y.g = 0 := by
  have ns : ∀ z : Nm, NmOk k l z → z.g ≠ 0 → sqrtQ z.u = none := fun z hz g => by
    rcases hz.g with ⟨q, _⟩ | ⟨_, _, q⟩
    · exact absurd q g
    · exact q
  unfold fofQ
  by_cases xg : x.g = 0
  · rw [if_neg (by simpa using xg)]
    by_cases yg : y.g = 0
    · exact .inr ⟨xg, yg⟩
    · rw [if_pos yg]; exact .inl (ns y hy yg)
  · rw [if_pos xg]; exact .inl (ns x hx xg)
theorem eq_zero {x : Nm} : eqD x.d top_ZERO = some (decide (x = zeroN)) := eq_nm (y := zeroN)
theorem shared_by {x y : Nm} (hx : NmOk 60 60 x) (hy : NmOk 60 60 y) (hF : 2 ^ 10000 ≤ F) (q : match infQ x (fofQ x y), infQ y (fofQ x y) with
    | some a, some c => (y = zeroN → X 1 s) ∧ (y ≠ zeroN → Q (shP a c (fofQ x y)).d s)
    | _, _ => X 2 s) : okX (callD F G (n + 6) 61 [x.d, y.d] s) Q X := by
  refine callD_body [some x.d, some y.d, none, none, none, none, none] b_shared g_shared rfl rfl rfl ?_
  unfold b_shared
  array_get_dec
  refine ⟨by decide, ?_⟩
  refine field_of_ok hF ?_
  obtain ⟨hu, hu0⟩ := fofQ_ok (show 1 ≤ 60 by decide) hx hy
  have ns := fofQ_ns hx hy
  generalize fofQ x y = u at *
  refine in_field_ok hx hu hu0 (by omega) hF ?_
  cases e1 : infQ x u with
  | none => rw [e1] at q; exact q
  | some a =>
    rw [e1] at q
    dsimp only
    array_get_dec
    refine in_field_ok hy hu hu0 (by omega) hF ?_
    cases e2 : infQ y u with
    | none => rw [e2] at q; exact q
    | some c =>
      rw [e2] at q
      obtain ⟨q1, q2⟩ := q
      obtain ⟨ha, hb⟩ := infQ_fr hx hu hu0 e1
      obtain ⟨hc, hd⟩ := infQ_fr hy hu hu0 e2
      refine ⟨_, eq_zero, ?_⟩
      by_cases hz : y = zeroN
      · rw [decide_eq_true hz, br_true]; exact q1 hz
      · rw [decide_eq_false hz, br_false]
        have cs : sqrtQ u = none ∨ c.2 = (0, 1) := ns.imp id fun z => by rw [infQ_plain e2 z.2]
        have am0 := am_ne hy hu hu0 e2 hz cs
        have fam := am_fr hc hd hu
        array_get_dec
        refine by_ok (n := n + 2) hF hc hc (by omega) (by_ok (n := n + 2) hF hd hd (by omega) (by_ok (n := n + 2) hF (hd.by hd) hu (by omega) (minus_ok (n := n + 2) hF (hc.by hc) ((hd.by hd).by hu) (by omega) ?_)))
        rw [show minusQ (byQ c.1 c.1) (byQ (byQ c.2 c.2) u) = amQ c u from rfl]
        refine over_ok (n := n + 2) hF hc fam am0 (by omega) ?_
        refine minus_ok (n := n + 2) (x := (0, 1)) hF (fr01 (k := 1) (by decide)) hd (by omega) ?_
        rw [minus_0 hd]
        refine over_ok (n := n + 2) hF hd.neg fam am0 (by omega) ?_
        have fp := hc.over fam am0
        have fr' := hd.neg.over fam am0
        refine number_ok (n := n + 1) fp fr' hu (by omega) (by omega) hF ?_
        have nt := numQ_ok fp fr' hu hu0
        have rs : sqrtQ u = none ∨ overQ (negF c.2) (amQ c u) = (0, 1) := cs.imp id fun z => by rw [z]; exact over_0 fam am0
        have it := infQ_num fp fr' hu hu0 rs
        have nt' : NmOk 789 789 (numQ (overQ c.1 (amQ c u)) (overQ (negF c.2) (amQ c u)) u) := ⟨nt.p.le (by omega), nt.u.le (by omega), nt.g⟩
        have hx' : NmOk 789 789 x := ⟨hx.p.le (by omega), hx.u.le (by omega), hx.g⟩
        refine times_ok (n := n) (by decide) hx' nt' (by decide) hF ?_
        rw [timesQ_in (by decide) hx' nt' hu hu0 e1 it]
        exact q2 hz
end Dn

end
section
set_option Elab.async false
set_option maxRecDepth 100000
set_option maxHeartbeats 400000
set_option linter.unusedVariables false
set_option exponentiation.threshold 20000
/-! Pv12: fields by the law. -/
namespace Dn
open PySem
local macro_rules | `(tactic| array_get_dec) => `(tactic| simp only [w_tryl, cf_low2, cf_low1, s_cons, s_nil, s_set, s_par, s_par3, s_ex, s_ret, s_retn, s_ite, s_rai, s_tryo, s_pas, s_brk, s_cnt, s_aug, t_nm, t_tup, t_sub, t_nil, t_cons, w_var, w_cst, w_top, w_bin, w_neg, w_cmp, w_cmp2, w_nt, w_and, w_or, w_ife, w_tup, w_rol, w_lst, w_ix, w_sl, w_call, w_prim, w_app, w_ins, w_bits, w_join, w_frz, w_nil, w_cons, w_no, w_so, c_no, c_so,
  okX_ok, isB_bl, br_true, br_false, o_add, o_sub, o_mul, o_fdiv, o_mod, o_pow, o_shl, o_cat, o_strs, o_rols, o_neg, o_lt, o_le, o_gt, o_ge, o_is, o_isn, o_eq, o_ne, o_in, o_nin, o_t0, o_t1, o_t2, o_t3, o_sl, o_slr, o_len, o_lenr, o_abs, o_int, o_intb, o_tupr, o_tupt, o_listt, o_listr, o_listm, o_isi, o_frzr, cf_self, eq_int, okS_then,
  List.getElem?_cons_zero, List.getElem?_cons_succ, List.set_cons_zero, List.set_cons_succ, List.length_cons, List.length_nil, Option.some.injEq, exists_eq_left', exists_eq_left, D.int.injEq, D.bl.injEq, D.tup.injEq, and_true, true_and, Nat.zero_add, Nat.reduceAdd, Nat.reduceLT, Nat.lt_irrefl, tysD, tyD, Bool.not_true, Bool.not_false])
variable {F n : Nat} {s : Sto} {Q : D → Sto → Prop} {X : Nat → Sto → Prop}
theorem law_minus_ok {k l : Nat} {x y : Int × Int} (hx : Fr k x) (hy : Fr l y) (hk : k + l + 1 ≤ 8000) (hF : 2 ^ 10000 ≤ F) (q : Q (fr (minusQ x y)) s) : okX (callD F G (n + 2) 62 [fr x, fr y] s) Q X := by
  refine callD_body [some (fr x), some (fr y)] b_law_minus g_law_minus rfl rfl rfl ?_
  unfold b_law_minus fr
  array_get_dec
  have p : x.2 * y.2 ≠ 0 := Int.mul_ne_zero (Int.ne_of_gt hx.p) (Int.ne_of_gt hy.p)
  have s1 : Sm (k + l + 1) (x.1 * y.2 - y.1 * x.2) := by
    rw [Int.sub_eq_add_neg]
    exact (hx.a.mul hy.b).add (((hy.a.mul hx.b).neg).le (by omega))
  have s2 : Sm (k + l + 1) (x.2 * y.2) := (hx.b.mul hy.b).le (by omega)
  refine ⟨hx.a.mulOk hy.b (by omega), hy.a.mulOk hx.b (by omega), hx.b.mulOk hy.b (by omega), ?_⟩
  exact frac_ok p s1 s2 hk hF q
theorem law_over_ok {k l : Nat} {x y : Int × Int} (hx : Fr k x) (hy : Fr l y) (h0 : y.1 ≠ 0) (hk : k + l ≤ 8000) (hF : 2 ^ 10000 ≤ F) (q : Q (fr (overQ x y)) s) : okX (callD F G (n + 2) 63 [fr x, fr y] s) Q X := by
  refine callD_body [some (fr x), some (fr y)] b_law_over g_law_over rfl rfl rfl ?_
  unfold b_law_over fr
  array_get_dec
  have p : x.2 * y.1 ≠ 0 := Int.mul_ne_zero (Int.ne_of_gt hx.p) h0
  refine ⟨hx.a.mulOk hy.b (by omega), hx.b.mulOk hy.a (by omega), ?_⟩
  exact frac_ok p (hx.a.mul hy.b) (hx.b.mul hy.a) hk hF q
theorem root_fr {k : Nat} {x w : Int × Int} (hx : Fr k x) (h : sqrtQ x = some w) : ∃ a b : Nat, x = ((a : Int), (b : Int)) ∧ a < 2 ^ k ∧ b < 2 ^ k ∧ rootD a = .int w.1 ∧ rootD b = .int w.2 := by
  have x0 : 0 ≤ x.1 := by
    unfold sqrtQ at h
    split at h
    · cases h
    · omega
  obtain ⟨a, b, ex, la, lb⟩ := fr_nat hx x0
  refine ⟨a, b, ex, la, lb, ?_⟩
  rw [ex, sqrt_nat] at h
  split at h
  · rename_i e
    cases h
    unfold rootD
    rw [if_pos e.1, if_pos e.2]
    exact ⟨rfl, rfl⟩
  · cases h
theorem law_split_ok {k l c : Nat} {x : Nm} {u : Int × Int} {r : (Int × Int) × (Int × Int)} (hx : NmOk k l x) (hu : Fr c u) (hu0 : 0 < u.1) (h1 : l + c ≤ 7000) (hF : 2 ^ 10000 ≤ F) (h : infQ x u = some r) (q : Q (.tup [fr r.1, fr r.2]) s) : okX (callD F G (n + 4) 64 [x.d, fr u] s) Q X := by
  refine callD_body [some x.d, some (fr u), none, none] b_law_split g_law_split rfl rfl rfl ?_
  unfold b_law_split Nm.d
  array_get_dec
  unfold infQ at h
  refine ⟨fun g => ?_, fun g => ?_⟩
  · rw [if_pos (of_decide_eq_true g)] at h
    cases h
    exact ⟨by decide, by decide, q⟩
  · have g := of_decide_eq_false g
    rw [if_neg g] at h
    have fo := hx.u.over hu (show u.1 ≠ 0 by omega)
    refine law_over_ok (n := n + 1) hx.u hu (by omega) (by omega) hF ?_
    cases e : sqrtQ (overQ x.u u) with
    | none => rw [e] at h; cases h
    | some w =>
      rw [e] at h
      cases h
      obtain ⟨a, b, ex, la, lb, ra, rb⟩ := root_fr fo e
      obtain ⟨hw, _⟩ := sqrtQ_fr fo e
      rw [ex]
      unfold fr
      array_get_dec
      refine root_of_ok la (by omega) hF ?_
      refine root_of_ok lb (by omega) hF ?_
      rw [ra, rb]
      refine ⟨by decide, by decide, ?_⟩
      refine law_by_ok (n := n + 1) (x := (x.g, 1)) (y := w) (frs1 hx.ga) hw (by omega) hF ?_
      exact ⟨by decide, q⟩
def fo : Option (Int × Int) → D
  | none => .non
  | some u => fr u
theorem law_field_of_ok {k l : Nat} {x y : Nm} (hx : NmOk k l x) (hy : NmOk k l y) (hl : 2 * l ≤ 7000) (hF : 2 ^ 10000 ≤ F) (q : Q (fo (fofL x y)) s) : okX (callD F G (n + 4) 65 [x.d, y.d] s) Q X := by
  refine callD_body [some x.d, some y.d] b_law_field_of g_law_field_of rfl rfl rfl ?_
  unfold b_law_field_of Nm.d
  array_get_dec
  unfold fofL at q
  by_cases xg : x.g = 0
  · rw [decide_eq_true xg, br_true, Bool.not_true, br_false]
    rw [if_pos (.inl xg), if_neg (show ¬ x.g ≠ 0 by simpa using xg)] at q
    by_cases yg : y.g = 0
    · rw [if_neg (show ¬ y.g ≠ 0 by simpa using yg)] at q
      rw [decide_eq_true yg, Bool.not_true, br_false]
      exact ⟨by decide, q⟩
    · rw [if_pos yg] at q
      rw [decide_eq_false yg, Bool.not_false, br_true, br_false]
      exact q
  · rw [decide_eq_false xg, br_false, Bool.not_false, br_true]
    by_cases yg : y.g = 0
    · rw [if_pos (.inr yg), if_pos xg] at q
      rw [decide_eq_true yg, br_true, br_true]
      exact q
    · rw [if_neg (by rintro (z | z); exact xg z; exact yg z)] at q
      rw [decide_eq_false yg, br_false]
      have fo := hx.u.over hy.u (show y.u.1 ≠ 0 by have := hy.u0 yg; omega)
      refine law_over_ok (n := n + 1) hx.u hy.u (by have := hy.u0 yg; omega) (by omega) hF ?_
      refine is_square_ok (n := n + 1) fo (by omega) hF ?_
      rw [isB_bl]
      cases e : sqrtQ (overQ x.u y.u) with
      | none => rw [e] at q; exact ⟨fun z => absurd z (by decide), fun _ => q⟩
      | some w => rw [e] at q; exact ⟨fun _ => q, fun z => by simp at z⟩
def dueD : Option Nm → D
  | none => .str "NoField+"
  | some z => .tup [.str "told", z.d]
theorem br_pair {p r : Bool} {A B : Prop} {o : Option Bool} (ho : o = some r) (hl : lineOk 2 = true) (h1 : p = true → r = true → A) (h2 : ¬(p = true ∧ r = true) → B) : br p (lineOk 2 = true ∧ ∃ b, o = some b ∧ br b A B) B := by
  refine ⟨fun hp => ⟨hl, r, ho, fun hr => h1 hp hr, fun hr => h2 fun z => ?_⟩, fun hp => h2 fun z => ?_⟩
  · rw [hr] at z; exact absurd z.2 (by decide)
  · rw [hp] at z; exact absurd z.1 (by decide)
/-- what is due of one number by another one -/
def shD (x y : Nm) : D := match fofL x y with
  | none => .str "NoField+"
  | some u => match infQ x u, infQ y u with
    | some a, some c => if y = zeroN then .str "NoNumber+" else .tup [.str "told", (shP a c u).d]
    | _, _ => .non
theorem due_added {x y : Nm} (hx : NmOk 60 60 x) (hy : NmOk 60 60 y) (hF : 2 ^ 10000 ≤ F) (q : Q (dueD (addQ x y)) s) : okX (callD F G (n + 6) 66 [x.d, y.d, .str "added"] s) Q X := by
  refine callD_body [some x.d, some y.d, some (.str "added"), none, none, none, none, none, none, none] b_law_due g_law_due rfl rfl rfl ?_
  unfold b_law_due
  array_get_dec
  rw [addQ_law (by decide) hx hy] at q
  refine law_field_of_ok (n := n + 1) hx hy (by decide) hF ?_
  cases e : fofL x y with
  | none => rw [e] at q; rw [show isNon (fo none) = true from rfl, br_true]; exact q
  | some u =>
    rw [e] at q
    obtain ⟨a, c, e1, e2, e3, e4, hu, hu0, hh⟩ := fofL_some (by decide) hx hy e
    dsimp only at q
    rw [e1, e2] at q
    dsimp only at q
    obtain ⟨ha, hb⟩ := infQ_fr hx hu hu0 e1
    obtain ⟨hc, hd⟩ := infQ_fr hy hu hu0 e2
    rw [show isNon (fo (some u)) = false from rfl, br_false]
    show okX (callD F G (n + 5) 64 [x.d, fr u] s) _ _
    refine law_split_ok (n := n + 1) hx hu hu0 (by decide) hF e1 ?_
    show okX (callD F G (n + 5) 64 [y.d, fr u] s) _ _
    refine law_split_ok (n := n + 1) hy hu hu0 (by decide) hF e2 ?_
    array_get_dec
    rw [show fo (some u) = fr u from rfl]
    refine ⟨by decide, rfl, rfl, rfl, true, by decide +kernel, ?_⟩
    rw [br_true]
    refine law_plus2_ok (n := n + 3) ha hc (by decide) hF (law_plus2_ok (n := n + 3) hb hd (by decide) hF ?_)
    refine law_number_ok (n := n + 1) (ha.plus hc) (hb.plus hd) hu (by decide) (by decide) hF ?_
    exact ⟨by decide, q⟩
theorem due_times {x y : Nm} (hx : NmOk 60 60 x) (hy : NmOk 60 60 y) (hF : 2 ^ 10000 ≤ F) (q : Q (dueD (timesQ x y)) s) : okX (callD F G (n + 6) 66 [x.d, y.d, .str "times"] s) Q X := by
  refine callD_body [some x.d, some y.d, some (.str "times"), none, none, none, none, none, none, none] b_law_due g_law_due rfl rfl rfl ?_
  unfold b_law_due
  array_get_dec
  rw [timesQ_law (by decide) hx hy] at q
  refine law_field_of_ok (n := n + 1) hx hy (by decide) hF ?_
  cases e : fofL x y with
  | none => rw [e] at q; rw [show isNon (fo none) = true from rfl, br_true]; exact q
  | some u =>
    rw [e] at q
    obtain ⟨a, c, e1, e2, e3, e4, hu, hu0, hh⟩ := fofL_some (by decide) hx hy e
    dsimp only at q
    rw [e1, e2] at q
    dsimp only at q
    obtain ⟨ha, hb⟩ := infQ_fr hx hu hu0 e1
    obtain ⟨hc, hd⟩ := infQ_fr hy hu hu0 e2
    rw [show isNon (fo (some u)) = false from rfl, br_false]
    show okX (callD F G (n + 5) 64 [x.d, fr u] s) _ _
    refine law_split_ok (n := n + 1) hx hu hu0 (by decide) hF e1 ?_
    show okX (callD F G (n + 5) 64 [y.d, fr u] s) _ _
    refine law_split_ok (n := n + 1) hy hu hu0 (by decide) hF e2 ?_
    array_get_dec
    rw [show fo (some u) = fr u from rfl]
    refine ⟨by decide, rfl, rfl, rfl, false, by decide +kernel, ?_⟩
    rw [br_false]
    refine ⟨false, by decide +kernel, ?_⟩
    rw [br_false]
    refine law_by_ok (n := n + 3) ha hc (by decide) hF (law_by_ok (n := n + 3) hb hd (by decide) hF (law_by_ok (n := n + 3) (hb.by hd) hu (by decide) hF ?_))
    refine law_plus2_ok (n := n + 3) (ha.by hc) ((hb.by hd).by hu) (by decide) hF ?_
    refine law_by_ok (n := n + 3) ha hd (by decide) hF (law_by_ok (n := n + 3) hb hc (by decide) hF (law_plus2_ok (n := n + 3) (ha.by hd) (hb.by hc) (by decide) hF ?_))
    refine law_number_ok (n := n + 1) ((ha.by hc).plus ((hb.by hd).by hu)) ((ha.by hd).plus (hb.by hc)) hu (by decide) (by decide) hF ?_
    exact ⟨by decide, q⟩
theorem due_shared {x y : Nm} (hx : NmOk 60 60 x) (hy : NmOk 60 60 y) (hF : 2 ^ 10000 ≤ F) (q : Q (shD x y) s) : okX (callD F G (n + 6) 66 [x.d, y.d, .str "shared"] s) Q X := by
  refine callD_body [some x.d, some y.d, some (.str "shared"), none, none, none, none, none, none, none] b_law_due g_law_due rfl rfl rfl ?_
  unfold b_law_due
  array_get_dec
  unfold shD at q
  refine law_field_of_ok (n := n + 1) hx hy (by decide) hF ?_
  cases e : fofL x y with
  | none => rw [e] at q; rw [show isNon (fo none) = true from rfl, br_true]; exact q
  | some u =>
    rw [e] at q
    obtain ⟨a, c, e1, e2, e3, e4, hu, hu0, hh⟩ := fofL_some (by decide) hx hy e
    dsimp only at q
    rw [e1, e2] at q
    dsimp only at q
    obtain ⟨ha, hb⟩ := infQ_fr hx hu hu0 e1
    obtain ⟨hc, hd⟩ := infQ_fr hy hu hu0 e2
    rw [show isNon (fo (some u)) = false from rfl, br_false]
    show okX (callD F G (n + 5) 64 [x.d, fr u] s) _ _
    refine law_split_ok (n := n + 1) hx hu hu0 (by decide) hF e1 ?_
    show okX (callD F G (n + 5) 64 [y.d, fr u] s) _ _
    refine law_split_ok (n := n + 1) hy hu hu0 (by decide) hF e2 ?_
    array_get_dec
    rw [show fo (some u) = fr u from rfl]
    refine ⟨by decide, rfl, rfl, rfl, false, by decide +kernel, ?_⟩
    rw [br_false]
    refine ⟨true, by decide +kernel, ?_⟩
    rw [br_true]
    refine law_by_ok (n := n + 3) hc hc (by decide) hF (law_by_ok (n := n + 3) hd hd (by decide) hF (law_by_ok (n := n + 3) (hd.by hd) hu (by decide) hF ?_))
    refine law_minus_ok (n := n + 3) (hc.by hc) ((hd.by hd).by hu) (by decide) hF ?_
    rw [show minusQ (byQ c.1 c.1) (byQ (byQ c.2 c.2) u) = amQ c u from rfl]
    have zi := zero_iff hy hu hu0 e2
    refine ⟨by decide, decide (c.1 = (0, 1)), eq_fr (x := c.1) (y := (0, 1)), ?_⟩
    refine br_pair (eq_fr (x := c.2) (y := (0, 1))) (by decide) (fun z1 z2 => ?_) fun z => ?_
    · rw [if_pos (zi.mp ⟨of_decide_eq_true z1, of_decide_eq_true z2⟩)] at q
      exact q
    · have hz : y ≠ zeroN := fun h => z ⟨decide_eq_true (zi.mpr h).1, decide_eq_true (zi.mpr h).2⟩
      rw [if_neg hz] at q
      have cs : sqrtQ u = none ∨ c.2 = (0, 1) := by
        rcases hh with rfl | ⟨_, _, _, _, h⟩
        · exact (fofQ_ns hx hy).imp id fun z => by rw [infQ_plain e2 z.2]
        · exact .inr h
      have am0 := am_ne hy hu hu0 e2 hz cs
      have fam := am_fr hc hd hu
      refine law_over_ok (n := n + 3) hc fam am0 (by decide) hF ?_
      have e0 : ∀ (Q' : D → Sto → Prop) (X' : Nat → Sto → Prop) (s' : Sto), okX (ixD s' (fr c.2) (.int 0)) Q' X' = Q' (.int c.2.1) s' := fun Q' X' s' => by unfold fr; rw [o_t0]
      have e1' : ∀ (Q' : D → Sto → Prop) (X' : Nat → Sto → Prop) (s' : Sto), okX (ixD s' (fr c.2) (.int 1)) Q' X' = Q' (.int c.2.2) s' := fun Q' X' s' => by unfold fr; rw [o_t1]
      rw [e0, o_sub, e1']
      refine ⟨by decide, ?_⟩
      rw [show D.tup [D.int (0 - c.2.1), D.int c.2.2] = fr (negF c.2) from by unfold fr negF; rw [Int.zero_sub]]
      refine law_over_ok (n := n + 3) hd.neg fam am0 (by decide) hF ?_
      have fp := hc.over fam am0
      have fr' := hd.neg.over fam am0
      refine law_by_ok (n := n + 3) ha fp (by decide) hF (law_by_ok (n := n + 3) hb fr' (by decide) hF (law_by_ok (n := n + 3) (hb.by fr') hu (by decide) hF ?_))
      refine law_plus2_ok (n := n + 3) (ha.by fp) ((hb.by fr').by hu) (by decide) hF ?_
      refine law_by_ok (n := n + 3) ha fr' (by decide) hF (law_by_ok (n := n + 3) hb fp (by decide) hF (law_plus2_ok (n := n + 3) (ha.by fr') (hb.by fp) (by decide) hF ?_))
      refine law_number_ok (n := n + 1) ((ha.by fp).plus ((hb.by fr').by hu)) ((ha.by fr').plus (hb.by fp)) hu (by decide) (by decide) hF ?_
      exact ⟨by decide, q⟩
end Dn

end
section
set_option Elab.async false
set_option maxRecDepth 100000
set_option maxHeartbeats 400000
set_option linter.unusedVariables false
set_option exponentiation.threshold 20000
/-! Pv13: numbers reckoned and tried. -/
namespace Dn
open PySem
local macro_rules | `(tactic| array_get_dec) => `(tactic| simp only [w_tryl, cf_low2, cf_low1, s_cons, s_nil, s_set, s_par, s_par3, s_ex, s_ret, s_retn, s_ite, s_rai, s_tryo, s_pas, s_brk, s_cnt, s_aug, t_nm, t_tup, t_sub, t_nil, t_cons, w_var, w_cst, w_top, w_bin, w_neg, w_cmp, w_cmp2, w_nt, w_and, w_or, w_ife, w_tup, w_rol, w_lst, w_ix, w_sl, w_call, w_prim, w_app, w_ins, w_bits, w_join, w_frz, w_nil, w_cons, w_no, w_so, c_no, c_so,
  okX_ok, isB_bl, br_true, br_false, o_add, o_sub, o_mul, o_fdiv, o_mod, o_pow, o_shl, o_cat, o_strs, o_rols, o_neg, o_lt, o_le, o_gt, o_ge, o_is, o_isn, o_eq, o_ne, o_in, o_nin, o_t0, o_t1, o_t2, o_t3, o_sl, o_slr, o_len, o_lenr, o_abs, o_int, o_intb, o_tupr, o_tupt, o_listt, o_listr, o_listm, o_isi, o_frzr, cf_self, eq_int, okS_then,
  List.getElem?_cons_zero, List.getElem?_cons_succ, List.set_cons_zero, List.set_cons_succ, List.length_cons, List.length_nil, Option.some.injEq, exists_eq_left', exists_eq_left, D.int.injEq, D.bl.injEq, D.tup.injEq, and_true, true_and, Nat.zero_add, Nat.reduceAdd, Nat.reduceLT, Nat.lt_irrefl, tysD, tyD, Bool.not_true, Bool.not_false])
variable {F n : Nat} {s : Sto} {Q : D → Sto → Prop} {X : Nat → Sto → Prop}
theorem kin2 : D.str (kinStr 2) = .str "NoField+" := congrArg D.str (by decide +kernel : kinStr 2 = "NoField+")
theorem kin1 : D.str (kinStr 1) = .str "NoNumber+" := congrArg D.str (by decide +kernel : kinStr 1 = "NoNumber+")
theorem str_self {z : Str} (h : SeqAt.shaped (D.str z).py = true) : eqD (.str z) (.str z) = some true := by rw [eq_strs h h, decide_eq_true rfl]
theorem eq_due (o : Option Nm) : eqD (dueD o) (dueD o) = some true := by
  cases o with
  | none => exact str_self (by decide +kernel)
  | some z => exact told_nm z
theorem try_added {x y : Nm} {W : D → Sto → Prop} {cs : List Nat} (hc : 2 ∈ cs) (hx : NmOk 60 60 x) (hy : NmOk 60 60 y) (hF : 2 ^ 10000 ≤ F) (q : W (dueD (addQ x y)) s) : okX (callD F G (n + 5) 30 [x.d, y.d] s) (fun d s1 => W (.tup [.str "told", d]) s1) (fun c s1 => c ∈ cs ∧ W (.str (kinStr c)) s1) := by
  refine added_ok (by decide) hx hy (by decide) (by decide) hF ?_
  cases e : addQ x y with
  | none => rw [e] at q; exact ⟨hc, by rw [kin2]; exact q⟩
  | some z => rw [e] at q; exact q
theorem try_times {x y : Nm} {W : D → Sto → Prop} {cs : List Nat} (hc : 2 ∈ cs) (hx : NmOk 60 60 x) (hy : NmOk 60 60 y) (hF : 2 ^ 10000 ≤ F) (q : W (dueD (timesQ x y)) s) : okX (callD F G (n + 5) 31 [x.d, y.d] s) (fun d s1 => W (.tup [.str "told", d]) s1) (fun c s1 => c ∈ cs ∧ W (.str (kinStr c)) s1) := by
  refine times_ok (by decide) hx hy (by decide) hF ?_
  cases e : timesQ x y with
  | none => rw [e] at q; exact ⟨hc, by rw [kin2]; exact q⟩
  | some z => rw [e] at q; exact q
theorem shP_plain {k l : Nat} {y : Nm} {a c : (Int × Int) × (Int × Int)} {u v : Int × Int} (hy : NmOk 60 60 y) (hu : Fr k u) (u0 : 0 < u.1) (hv : Fr l v) (v0 : 0 < v.1) (e : infQ y u = some c) (e' : infQ y v = some c) (hn : y ≠ zeroN) (h1 : a.2 = (0, 1)) (h2 : c.2 = (0, 1)) (ha : Fr 60 a.1) : shP a c u = shP a c v := by
  obtain ⟨hc, hd⟩ := infQ_fr hy hu u0 e
  have am0 := am_ne hy hu u0 e hn (.inr h2)
  have ame : amQ c u = amQ c v := by unfold amQ; rw [h2, by_00, by_0 hu, by_0 hv]
  have fam := am_fr hc hd hu
  have r0 : overQ (negF c.2) (amQ c u) = (0, 1) := by rw [h2]; exact over_0 fam am0
  have fp := hc.over fam am0
  unfold shP
  rw [← ame, r0, h1, by_00, by_0 hu, by_0 hv, by_z ha, by_0 fp, plus_00, numQ_0 hu, numQ_0 hv]
theorem try_shared {x y : Nm} {W : D → Sto → Prop} {cs : List Nat} (hc1 : 1 ∈ cs) (hc : 2 ∈ cs) (hx : NmOk 60 60 x) (hy : NmOk 60 60 y) (hF : 2 ^ 10000 ≤ F) (q : W (shD x y) s) : okX (callD F G (n + 6) 61 [x.d, y.d] s) (fun d s1 => W (.tup [.str "told", d]) s1) (fun c s1 => c ∈ cs ∧ W (.str (kinStr c)) s1) := by
  refine shared_by hx hy hF ?_
  unfold shD at q
  cases e : fofL x y with
  | none =>
    obtain ⟨_, _, _, e1, e2⟩ := fofL_none hx hy e
    rw [e] at q
    rw [e1, e2]
    exact ⟨hc, by rw [kin2]; exact q⟩
  | some u =>
    obtain ⟨a, c, e1, e2, e3, e4, hu, hu0, hh⟩ := fofL_some (by decide) hx hy e
    rw [e] at q
    dsimp only at q
    rw [e1, e2] at q
    dsimp only at q
    rw [e3, e4]
    refine ⟨fun z => ?_, fun z => ?_⟩
    · rw [if_pos z] at q
      exact ⟨hc1, by rw [kin1]; exact q⟩
    · rw [if_neg z] at q
      obtain ⟨hv, hv0⟩ := fofQ_ok (show 1 ≤ 60 by decide) hx hy
      have ee : shP a c (fofQ x y) = shP a c u := by
        rcases hh with h | ⟨_, _, _, h1, h2⟩
        · rw [h]
        · exact shP_plain hy hv hv0 hu hu0 e4 e2 z h1 h2 (infQ_fr hx hu hu0 e1).1
      rw [ee]
      exact q
theorem eq_sh {x y : Nm} (hx : NmOk 60 60 x) (hy : NmOk 60 60 y) : eqD (shD x y) (shD x y) = some true := by
  unfold shD
  cases e : fofL x y with
  | none => exact str_self (by decide +kernel)
  | some u =>
    obtain ⟨a, c, e1, e2, _⟩ := fofL_some (by decide) hx hy e
    dsimp only
    rw [e1, e2]
    dsimp only
    split
    · exact str_self (by decide +kernel)
    · exact told_nm _
def negN (x : Nm) : Nm := ⟨negF x.p, -x.g, x.u⟩
theorem contrary_ok {k l : Nat} {x : Nm} (hx : NmOk k l x) (hk : k + 1 ≤ 8000) (hF : 2 ^ 10000 ≤ F) (q : Q (negN x).d s) : okX (callD F G (n + 4) 60 [x.d] s) Q X := by
  refine callD_body [some x.d] b_contrary g_contrary rfl rfl rfl ?_
  unfold b_contrary Nm.d
  array_get_dec
  refine minus_ok (n := n) (x := (0, 1)) hF (fr01 (k := 1) (by decide)) hx.p (by omega) ?_
  rw [minus_0 hx.p]
  exact ⟨by decide, q⟩
theorem negN_ok {k l : Nat} {x : Nm} (hx : NmOk k l x) : NmOk k l (negN x) := by
  refine ⟨hx.p.neg, hx.u, ?_⟩
  rcases hx.g with ⟨a, b⟩ | ⟨a, b, c⟩
  · exact .inl ⟨by show -x.g = 0; omega, b⟩
  · exact .inr ⟨by show -x.g = 1 ∨ -x.g = -1; omega, b, c⟩
end Dn

end
section
set_option Elab.async false
set_option maxRecDepth 100000
set_option maxHeartbeats 400000
set_option linter.unusedVariables false
set_option exponentiation.threshold 20000
/-! Pv14: law k03. -/
namespace Dn
open PySem
local macro_rules | `(tactic| array_get_dec) => `(tactic| simp only [w_tryl, cf_low2, cf_low1, s_cons, s_nil, s_set, s_par, s_par3, s_ex, s_ret, s_retn, s_ite, s_rai, s_tryo, s_pas, s_brk, s_cnt, s_aug, t_nm, t_tup, t_sub, t_nil, t_cons, w_var, w_cst, w_top, w_bin, w_neg, w_cmp, w_cmp2, w_nt, w_and, w_or, w_ife, w_tup, w_rol, w_lst, w_ix, w_sl, w_call, w_prim, w_app, w_ins, w_bits, w_join, w_frz, w_nil, w_cons, w_no, w_so, c_no, c_so,
  okX_ok, isB_bl, br_true, br_false, o_add, o_sub, o_mul, o_fdiv, o_mod, o_pow, o_shl, o_cat, o_strs, o_rols, o_neg, o_lt, o_le, o_gt, o_ge, o_is, o_isn, o_eq, o_ne, o_in, o_nin, o_t0, o_t1, o_t2, o_t3, o_sl, o_slr, o_len, o_lenr, o_abs, o_int, o_intb, o_tupr, o_tupt, o_listt, o_listr, o_listm, o_isi, o_frzr, cf_self, eq_int, okS_then,
  List.getElem?_cons_zero, List.getElem?_cons_succ, List.set_cons_zero, List.set_cons_succ, List.length_cons, List.length_nil, Option.some.injEq, exists_eq_left', exists_eq_left, D.int.injEq, D.bl.injEq, D.tup.injEq, and_true, true_and, Nat.zero_add, Nat.reduceAdd, Nat.reduceLT, Nat.lt_irrefl, tysD, tyD, Bool.not_true, Bool.not_false])
variable {F n : Nat} {s : Sto} {Q : D → Sto → Prop} {X : Nat → Sto → Prop}
theorem some_field_ok {j c k : Nat} {u : Int × Int} (hu : Fr k u) (hk : k ≤ 10) (u0 : 0 < u.1) (hd : Deck s j c) (hc : c + 100 < 2 ^ 29) (hF : 2 ^ 10000 ≤ F) (q : ∀ (x : Nm) s', NmOk 60 60 x → Deck s' j (c + 7) → Keep j s s' → Q x.d s') : okX (callD F G (n + 5) 55 [.lst j, fr u] s) Q X :=
  some_number_ok hu (by omega) hd hc hF fun p r s' hp hr hd' kp => by
    have nk := numQ_ok hp hr hu u0
    exact q _ _ ⟨nk.p.le (by omega), nk.u.le (by omega), nk.g⟩ hd' kp
theorem fr_pos_by {k l : Nat} {x y : Int × Int} (hx : Fr k x) (hy : Fr l y) (x0 : 0 < x.1) (y0 : 0 < y.1) : 0 < (byQ x y).1 :=
  (V_pos (hx.by hy)).mp (by rw [V_by hx hy]; exact Rat.mul_pos ((V_pos hx).mpr x0) ((V_pos hy).mpr y0))
theorem pick_fr {j c k : Nat} {ps : List (Int × Int)} (hp : ∀ p ∈ ps, Fr k p ∧ 0 < p.1) (h0 : ps ≠ []) (hl : ps.length < 100) (hd : Deck s j c) (hc : c < 2 ^ 30) (q : ∀ p s', Fr k p → 0 < p.1 → Deck s' j (c + 1) → Keep j s s' → Q (fr p) s') : okX (callD F G (n + 2) 7 [.lst j, .rol (ps.map fr)] s) Q X := by
  refine one_ok hd hc (by simpa using h0) (by rw [List.length_map]; omega) fun y s' hy hd' kp => ?_
  obtain ⟨p, hp', rfl⟩ := List.mem_map.mp hy
  exact q p s' (hp p hp').1 (hp p hp').2 hd' kp
theorem test_added {m : Nat} {x y : Nm} {B K : Sto → Prop} {X2 : Nat → Sto → Prop} {cs : List Nat} (hc : 2 ∈ cs) (hx : NmOk 60 60 x) (hy : NmOk 60 60 y) (hF : 2 ^ 10000 ≤ F) (q : K s) : okX (callD F G (n + 5) 30 [x.d, y.d] s) (fun d s1 => okX (callD F G (m + 6) 66 [x.d, y.d, .str "added"] s1) (fun w s2 => ∃ b, eqD (.tup [.str "told", d]) w = some b ∧ br (!b) (B s2) (K s2)) X2)
    (fun c s1 => c ∈ cs ∧ okX (callD F G (m + 6) 66 [x.d, y.d, .str "added"] s1) (fun w s2 => ∃ b, eqD (.str (kinStr c)) w = some b ∧ br (!b) (B s2) (K s2)) X2) := by
  refine try_added (W := fun t s1 => okX (callD F G (m + 6) 66 [x.d, y.d, .str "added"] s1) (fun w s2 => ∃ b, eqD t w = some b ∧ br (!b) (B s2) (K s2)) X2) hc hx hy hF ?_
  refine due_added hx hy hF ⟨true, eq_due _, ?_⟩
  rw [Bool.not_true, br_false]
  exact q
theorem test_times {m : Nat} {x y : Nm} {B K : Sto → Prop} {X2 : Nat → Sto → Prop} {cs : List Nat} (hc : 2 ∈ cs) (hx : NmOk 60 60 x) (hy : NmOk 60 60 y) (hF : 2 ^ 10000 ≤ F) (q : K s) : okX (callD F G (n + 5) 31 [x.d, y.d] s) (fun d s1 => okX (callD F G (m + 6) 66 [x.d, y.d, .str "times"] s1) (fun w s2 => ∃ b, eqD (.tup [.str "told", d]) w = some b ∧ br (!b) (B s2) (K s2)) X2)
    (fun c s1 => c ∈ cs ∧ okX (callD F G (m + 6) 66 [x.d, y.d, .str "times"] s1) (fun w s2 => ∃ b, eqD (.str (kinStr c)) w = some b ∧ br (!b) (B s2) (K s2)) X2) := by
  refine try_times (W := fun t s1 => okX (callD F G (m + 6) 66 [x.d, y.d, .str "times"] s1) (fun w s2 => ∃ b, eqD t w = some b ∧ br (!b) (B s2) (K s2)) X2) hc hx hy hF ?_
  refine due_times hx hy hF ⟨true, eq_due _, ?_⟩
  rw [Bool.not_true, br_false]
  exact q
theorem test_shared {m : Nat} {x y : Nm} {B K : Sto → Prop} {X2 : Nat → Sto → Prop} {cs : List Nat} (h1 : 1 ∈ cs) (hc : 2 ∈ cs) (hx : NmOk 60 60 x) (hy : NmOk 60 60 y) (hF : 2 ^ 10000 ≤ F) (q : K s) : okX (callD F G (n + 6) 61 [x.d, y.d] s) (fun d s1 => okX (callD F G (m + 6) 66 [x.d, y.d, .str "shared"] s1) (fun w s2 => ∃ b, eqD (.tup [.str "told", d]) w = some b ∧ br (!b) (B s2) (K s2)) X2)
    (fun c s1 => c ∈ cs ∧ okX (callD F G (m + 6) 66 [x.d, y.d, .str "shared"] s1) (fun w s2 => ∃ b, eqD (.str (kinStr c)) w = some b ∧ br (!b) (B s2) (K s2)) X2) := by
  refine try_shared (W := fun t s1 => okX (callD F G (m + 6) 66 [x.d, y.d, .str "shared"] s1) (fun w s2 => ∃ b, eqD t w = some b ∧ br (!b) (B s2) (K s2)) X2) h1 hc hx hy hF ?_
  refine due_shared hx hy hF ⟨true, eq_sh hx hy, ?_⟩
  rw [Bool.not_true, br_false]
  exact q
theorem k03_ok {ns : List Int} (hn : ns.length ≤ 100000) (hF : 2 ^ 10000 ≤ F) (q : ∀ s', Q (.bl true) s') : okX (callD F G (n + 20) 67 [.rol (ns.map D.int)] s) Q X := by
  refine callD_body [some (.rol (ns.map D.int)), none, none, none, none, none, none, none] b_law_k03 g_law_k03 rfl rfl rfl ?_
  unfold b_law_k03
  array_get_dec
  obtain ⟨l10, mem⟩ := cells_of (ns := ns) (k := 10) (by decide)
  refine s_for (fun i e s2 => ∃ o1 o2 o3 o4 o5 o6 o7, e = [some (.rol (ns.map D.int)), o1, o2, o3, o4, o5, o6, o7]) ?_
  rw [i_seq]
  array_get_dec
  refine ⟨by decide, decide_eq_true (by unfold sizeLine; simp; omega), _, rfl, _, rfl, two_lt hF (Nat.le_trans l10 (by decide)), ⟨_, _, _, _, _, _, _, rfl⟩, ?_, ?_⟩
  · rintro i d e s2 hi ⟨o1, o2, o3, o4, o5, o6, o7, rfl⟩
    obtain ⟨c, rfl⟩ := mem d (List.mem_of_getElem? hi)
    array_get_dec
    refine deck_ok (by decide) fun s3 hd3 _ => ?_
    generalize s2.length = j at *
    refine s_for (fun k e s2 => ∃ o3 o4 o5 o6 o7, e = [some (.rol (ns.map D.int)), some (.int c), some (.lst j), o3, o4, o5, o6, o7] ∧ Deck s2 j (3 + 1000 * k)) ?_
    rw [i_rng]
    array_get_dec
    refine ⟨by decide, _, rfl, two_lt hF (by decide), ⟨_, _, _, _, _, rfl, hd3⟩, ?_, ?_⟩
    · rintro k d e s4 hk ⟨o3, o4, o5, o6, o7, rfl, hd4⟩
      have hk5 : k < 6 := (List.getElem?_eq_some_iff.mp hk).1
      array_get_dec
      refine some_under_ok (n := n + 16) hd4 (by omega) fun u s5 hu hu0 hd5 _ => ?_
      refine some_field_ok (n := n + 14) hu (by decide) hu0 hd5 (by omega) hF fun x s6 hx hd6 _ => ?_
      refine ⟨by decide, by decide, by decide, by decide, by decide, ?_⟩
      refine pick_fr (n := n + 17) (k := 5) (ps := [(1, 1), (4, 1), (9, 25), (1, 4)]) (fun p hp => ?_) (by simp) (by decide) hd6 (by omega) fun w s7 hw hw0 hd7 _ => ?_
      · simp only [List.mem_cons, List.not_mem_nil, or_false] at hp
        rcases hp with rfl | rfl | rfl | rfl <;> exact ⟨⟨by unfold Sm; decide, by unfold Sm; decide, by decide, by decide⟩, by decide⟩
      refine law_by_ok (n := n + 17) hu hw (by decide) hF ?_
      have hsq := hu.by hw
      have sq0 := fr_pos_by hu hw hu0 hw0
      refine some_under_ok (n := n + 16) hd7 (by omega) fun u2 s8 hu2 hu20 hd8 _ => ?_
      refine ⟨by decide, ?_⟩
      refine pick_fr (n := n + 17) (k := 10) (ps := [byQ u w, byQ u w, byQ u w, u2]) (fun p hp => ?_) (by simp) (by simp) hd8 (by omega) fun v s9 hv hv0 hd9 _ => ?_
      · simp only [List.mem_cons, List.not_mem_nil, or_false] at hp
        rcases hp with rfl | rfl | rfl | rfl <;> first | exact ⟨hsq, sq0⟩ | exact ⟨hu2.le (by decide), hu20⟩
      refine some_field_ok (n := n + 14) hv (by decide) hv0 hd9 (by omega) hF fun y0 s10 hy0 hd10 _ => ?_
      refine ⟨by decide, ?_⟩
      refine law_plain_ok ?_
      refine ⟨by decide, ?_⟩
      refine one_ok (n := n + 17) hd10 (by omega) (by simp) (by simp) fun yd s11 hyd hd11 _ => ?_
      obtain ⟨y, rfl, hy⟩ : ∃ y : Nm, yd = y.d ∧ NmOk 60 60 y := by
        simp only [List.mem_cons, List.not_mem_nil, or_false] at hyd
        have hz : NmOk 60 60 (plainQ (0, 1)) := ⟨fr01 (by decide), fr01 (by decide), .inl ⟨rfl, rfl⟩⟩
        rcases hyd with rfl | rfl | rfl | rfl | rfl
        · exact ⟨_, rfl, hy0⟩
        · exact ⟨_, rfl, hy0⟩
        · exact ⟨_, rfl, hy0⟩
        · exact ⟨_, rfl, hz⟩
        · exact ⟨_, rfl, hx⟩
      refine test_added (n := n + 12) (m := n + 13) (by decide) hx hy hF ?_
      refine test_times (n := n + 12) (m := n + 13) (by decide) hx hy hF ?_
      refine test_shared (n := n + 11) (m := n + 13) (by decide) (by decide) hx hy hF ?_
      refine contrary_ok (n := n + 15) hx (by decide) hF ?_
      unfold Nm.d
      array_get_dec
      have i0 : ∀ (Q' : D → Sto → Prop) (X' : Nat → Sto → Prop) (s' : Sto), okX (ixD s' (fr x.p) (.int 0)) Q' X' = Q' (.int x.p.1) s' := fun Q' X' s' => by unfold fr; rw [o_t0]
      have i1 : ∀ (Q' : D → Sto → Prop) (X' : Nat → Sto → Prop) (s' : Sto), okX (ixD s' (fr x.p) (.int 1)) Q' X' = Q' (.int x.p.2) s' := fun Q' X' s' => by unfold fr; rw [o_t1]
      rw [i0, o_sub, i1]
      refine ⟨by decide, by decide, ?_⟩
      have en : D.tup [D.tup [D.int (0 - x.p.1), D.int x.p.2], D.int (0 - x.g), fr x.u] = (negN x).d := by
        unfold negN Nm.d negF fr
        rw [Int.zero_sub, Int.zero_sub]
      rw [en]
      refine same_self (k := 130) (m := 4) (n := n + 15) (by decide) hF 2 (thB_nm (negN_ok hx) (by decide) (by decide)).1 (by decide) ?_
      rw [isB_bl, Bool.not_true, br_false]
      exact ⟨_, _, _, _, _, rfl, hd11.le (by omega)⟩
    · rintro e s4 ⟨o3, o4, o5, o6, o7, rfl, hd4⟩
      exact ⟨_, _, _, _, _, _, _, rfl⟩
  · rintro e s2 ⟨o1, o2, o3, o4, o5, o6, o7, rfl⟩
    exact q _
theorem pure_k03 {ns : List Int} (hn : ns.length ≤ 100000) : ∃ s F, callD F G KL 67 [.rol (ns.map D.int)] [] = .ok (.bl true) s := by
  obtain ⟨s, e⟩ := of_okX (k03_ok (n := 40) (F := FU) (s := []) (Q := fun d _ => d = .bl true) (X := fun _ _ => False) hn FU_le fun _ => rfl)
  exact ⟨s, FU, e⟩
end Dn

end
section
set_option Elab.async false
set_option maxRecDepth 100000
set_option maxHeartbeats 400000
set_option linter.unusedVariables false
set_option exponentiation.threshold 20000
/-! Pv15: numbers over one under. -/
namespace Dn
open PySem
local macro_rules | `(tactic| array_get_dec) => `(tactic| simp only [w_tryl, cf_low2, cf_low1, s_cons, s_nil, s_set, s_par, s_par3, s_ex, s_ret, s_retn, s_ite, s_rai, s_tryo, s_pas, s_brk, s_cnt, s_aug, t_nm, t_tup, t_sub, t_nil, t_cons, w_var, w_cst, w_top, w_bin, w_neg, w_cmp, w_cmp2, w_nt, w_and, w_or, w_ife, w_tup, w_rol, w_lst, w_ix, w_sl, w_call, w_prim, w_app, w_ins, w_bits, w_join, w_frz, w_nil, w_cons, w_no, w_so, c_no, c_so,
  okX_ok, isB_bl, br_true, br_false, o_add, o_sub, o_mul, o_fdiv, o_mod, o_pow, o_shl, o_cat, o_strs, o_rols, o_neg, o_lt, o_le, o_gt, o_ge, o_is, o_isn, o_eq, o_ne, o_in, o_nin, o_t0, o_t1, o_t2, o_t3, o_sl, o_slr, o_len, o_lenr, o_abs, o_int, o_intb, o_tupr, o_tupt, o_listt, o_listr, o_listm, o_isi, o_frzr, cf_self, eq_int, okS_then,
  List.getElem?_cons_zero, List.getElem?_cons_succ, List.set_cons_zero, List.set_cons_succ, List.length_cons, List.length_nil, Option.some.injEq, exists_eq_left', exists_eq_left, D.int.injEq, D.bl.injEq, D.tup.injEq, and_true, true_and, Nat.zero_add, Nat.reduceAdd, Nat.reduceLT, Nat.lt_irrefl, tysD, tyD, Bool.not_true, Bool.not_false])
variable {F n : Nat} {s : Sto} {Q : D → Sto → Prop} {X : Nat → Sto → Prop}
/-- a number that is a part and so many times the root of v -/
structure Rp (v : Int × Int) (i j : Nat) (x : Nm) (P R : Rat) : Prop where
  e : ∃ p r, Fr i p ∧ Fr j r ∧ V p = P ∧ V r = R ∧ x = numQ p r v
  n : sqrtQ v = none ∨ R = 0
theorem V_0 {k : Nat} {r : Int × Int} (hr : Fr k r) (h : V r = 0) : r = (0, 1) := V_inj hr (fr01 (k := 1) (by decide)) (by rw [V01]; exact h)
section
variable {c i j i' j' : Nat} {v : Int × Int} {x y : Nm} {P R P' R' : Rat} (hv : Fr c v) (v0 : 0 < v.1) (hx : Rp v i j x P R) (hy : Rp v i' j' y P' R')
include hv v0 hx
theorem Rp.ok : NmOk (i + (2 * j + c + 1) / 2 + 3) (2 * j + c + 1) x := by
  obtain ⟨p, r, hp, hr, _, _, rfl⟩ := hx.e
  exact numQ_ok hp hr hv v0
theorem Rp.inf : ∃ p r, Fr i p ∧ Fr j r ∧ V p = P ∧ V r = R ∧ infQ x v = some (p, r) := by
  obtain ⟨p, r, hp, hr, eP, eR, rfl⟩ := hx.e
  exact ⟨p, r, hp, hr, eP, eR, infQ_num hp hr hv v0 (hx.n.imp id fun z => V_0 hr (by rw [eR, z]))⟩
omit v0 in
theorem Rp.neg : Rp v i j (negN x) (-P) (-R) := by
  obtain ⟨p, r, hp, hr, eP, eR, rfl⟩ := hx.e
  refine ⟨⟨negF p, negF r, hp.neg, hr.neg, by rw [V_negF, eP], by rw [V_negF, eR], ?_⟩, hx.n.imp id fun z => by rw [z]; grind⟩
  have e : byQ (negF r) (negF r) = byQ r r := V_inj (hr.neg.by hr.neg) (hr.by hr) (by rw [V_by hr.neg hr.neg, V_by hr hr, V_negF]; grind)
  unfold numQ
  rw [e]
  have es : (negF r).1.sign = -r.1.sign := by show (-r.1).sign = _; rw [Int.sign_neg]
  rw [es]
  cases h : sqrtQ (byQ (byQ r r) v) with
  | none => rfl
  | some w =>
    obtain ⟨_, _, fw⟩ := sqrt_V ((hr.by hr).by hv) h
    have f1 := frs1 (sign_abs r.1)
    have f2 : Fr 1 (-r.1.sign, 1) := frs1 (by rw [Int.natAbs_neg]; exact sign_abs r.1)
    have ee : negF (plusQ p (byQ (r.1.sign, 1) w)) = plusQ (negF p) (byQ (-r.1.sign, 1) w) := V_inj (hp.plus (f1.by fw)).neg (hp.neg.plus (f2.by fw)) (by
      rw [V_negF, V_plus hp (f1.by fw), V_plus hp.neg (f2.by fw), V_by f1 fw, V_by f2 fw, V_negF]
      have : V (-r.1.sign, 1) = - V (r.1.sign, 1) := V_negF (r.1.sign, 1)
      rw [this]; grind)
    dsimp only
    unfold negN plainQ
    dsimp only
    rw [ee]; rfl
include hy
theorem Rp.add : ∃ z, addQ x y = some z ∧ Rp v (i + i' + 1) (j + j' + 1) z (P + P') (R + R') := by
  obtain ⟨p, r, hp, hr, eP, eR, ei⟩ := hx.inf hv v0
  obtain ⟨p', r', hp', hr', eP', eR', ei'⟩ := hy.inf hv v0
  have kx := hx.ok hv v0
  have ky := hy.ok hv v0
  have a := addQ_in (k := i + i' + j + j' + c + 10) (l := 2 * (j + j') + c + 10) (by omega) ⟨kx.p.le (by omega), kx.u.le (by omega), kx.g⟩ ⟨ky.p.le (by omega), ky.u.le (by omega), ky.g⟩ hv v0 ei ei'
  refine ⟨_, a, ⟨_, _, hp.plus hp', hr.plus hr', by rw [V_plus hp hp', eP, eP'], by rw [V_plus hr hr', eR, eR'], rfl⟩, ?_⟩
  rcases hx.n with h | h
  · exact .inl h
  · rcases hy.n with h' | h'
    · exact .inl h'
    · exact .inr (by rw [h, h']; grind)
theorem Rp.mul : ∃ z, timesQ x y = some z ∧ Rp v (i + i' + (j + j' + c) + 1) (i + j' + (j + i') + 1) z (P * P' + R * R' * V v) (P * R' + R * P') := by
  obtain ⟨p, r, hp, hr, eP, eR, ei⟩ := hx.inf hv v0
  obtain ⟨p', r', hp', hr', eP', eR', ei'⟩ := hy.inf hv v0
  have kx := hx.ok hv v0
  have ky := hy.ok hv v0
  have a := timesQ_in (k := i + i' + j + j' + c + 10) (l := 2 * (j + j') + c + 10) (by omega) ⟨kx.p.le (by omega), kx.u.le (by omega), kx.g⟩ ⟨ky.p.le (by omega), ky.u.le (by omega), ky.g⟩ hv v0 ei ei'
  refine ⟨_, a, ⟨_, _, (hp.by hp').plus ((hr.by hr').by hv), (hp.by hr').plus (hr.by hp'), ?_, ?_, rfl⟩, ?_⟩
  · rw [V_plus (hp.by hp') ((hr.by hr').by hv), V_by hp hp', V_by (hr.by hr') hv, V_by hr hr', eP, eP', eR, eR']
  · rw [V_plus (hp.by hr') (hr.by hp'), V_by hp hr', V_by hr hp', eP, eP', eR, eR']
  · rcases hx.n with h | h
    · exact .inl h
    · rcases hy.n with h' | h'
      · exact .inl h'
      · exact .inr (by rw [h, h']; grind)
omit v0 in
theorem Rp.uniq (h1 : P = P') (h2 : R = R') : x = y := by
  obtain ⟨p, r, hp, hr, eP, eR, rfl⟩ := hx.e
  obtain ⟨p', r', hp', hr', eP', eR', rfl⟩ := hy.e
  rw [V_inj hp hp' (by rw [eP, eP', h1]), V_inj hr hr' (by rw [eR, eR', h2])]
/-- one by another one -/
theorem Rp.share (hn : y ≠ zeroN) : P' * P' - R' * R' * V v ≠ 0 ∧ ∃ a d z, infQ x (fofQ x y) = some a ∧ infQ y (fofQ x y) = some d ∧ shP a d (fofQ x y) = z ∧
    Rp v (i + (i' + (i' + i' + (j' + j' + c) + 1)) + (j + (j' + (i' + i' + (j' + j' + c) + 1)) + c) + 1) (i + (j' + (i' + i' + (j' + j' + c) + 1)) + (j + (i' + (i' + i' + (j' + j' + c) + 1))) + 1) z ((P * P' - R * R' * V v) / (P' * P' - R' * R' * V v)) ((R * P' - P * R') / (P' * P' - R' * R' * V v)) := by
  obtain ⟨p, r, hp, hr, eP, eR, ei⟩ := hx.inf hv v0
  obtain ⟨p', r', hp', hr', eP', eR', ei'⟩ := hy.inf hv v0
  have kx' := hx.ok hv v0
  have ky' := hy.ok hv v0
  obtain ⟨k, hk⟩ : ∃ k, k = i + i' + j + j' + c + 10 := ⟨_, rfl⟩
  obtain ⟨l, hl⟩ : ∃ l, l = 2 * (j + j') + c + 10 := ⟨_, rfl⟩
  have kx : NmOk k l x := ⟨kx'.p.le (by omega), kx'.u.le (by omega), kx'.g⟩
  have ky : NmOk k l y := ⟨ky'.p.le (by omega), ky'.u.le (by omega), ky'.g⟩
  have hs : sqrtQ v = none ∨ r' = (0, 1) := hy.n.imp id fun z => V_0 hr' (by rw [eR', z])
  have am0 := am_ne ky hv v0 ei' hn hs
  have fam := am_fr (c := (p', r')) hp' hr' hv
  have eam : V (amQ (p', r') v) = P' * P' - R' * R' * V v := by rw [am_V (c := (p', r')) hp' hr' hv, eP', eR']
  have nz : P' * P' - R' * R' * V v ≠ 0 := by rw [← eam]; exact fun z => am0 ((V_zero fam).mp z)
  refine ⟨nz, ?_⟩
  have fp := hp'.over fam am0
  have fq := hr'.neg.over fam am0
  have vp : V (overQ p' (amQ (p', r') v)) = P' / (P' * P' - R' * R' * V v) := by rw [V_over hp' fam am0, eP', eam]
  have vq : V (overQ (negF r') (amQ (p', r') v)) = - R' / (P' * P' - R' * R' * V v) := by rw [V_over hr'.neg fam am0, V_negF, eR', eam]
  have rep : Rp v (i + (i' + (i' + i' + (j' + j' + c) + 1)) + (j + (j' + (i' + i' + (j' + j' + c) + 1)) + c) + 1) (i + (j' + (i' + i' + (j' + j' + c) + 1)) + (j + (i' + (i' + i' + (j' + j' + c) + 1))) + 1) (shP (p, r) (p', r') v) ((P * P' - R * R' * V v) / (P' * P' - R' * R' * V v)) ((R * P' - P * R') / (P' * P' - R' * R' * V v)) := by
    refine ⟨⟨_, _, (hp.by fp).plus ((hr.by fq).by hv), (hp.by fq).plus (hr.by fp), ?_, ?_, rfl⟩, ?_⟩
    · rw [V_plus (hp.by fp) ((hr.by fq).by hv), V_by hp fp, V_by (hr.by fq) hv, V_by hr fq, vp, vq, eP, eR]; grind
    · rw [V_plus (hp.by fq) (hr.by fp), V_by hp fq, V_by hr fp, vp, vq, eP, eR]; grind
    · rcases hx.n with h | h
      · exact .inl h
      · rcases hy.n with h' | h'
        · exact .inl h'
        · exact .inr (by rw [h, h']; grind)
  obtain ⟨hw, w0⟩ := fofQ_ok (show 1 ≤ l by omega) kx ky
  by_cases hg : x.g ≠ 0 ∨ y.g ≠ 0
  · obtain ⟨m, d, fm, m0, em⟩ := fofQ_scale kx ky hv v0 ei ei' hg
    generalize fofQ x y = w at *
    have s1 := infQ_scale kx hv v0 hw w0 fm m0 em ei
    have s2 := infQ_scale ky hv v0 hw w0 fm m0 em ei'
    refine ⟨_, _, _, s1, s2, ?_, rep⟩
    have vw : V w ≠ 0 := fun z => by have := (V_zero hw).mp z; omega
    have fr2 := hr.by fm
    have fr2' := hr'.by fm
    have fam2 := am_fr (c := (p', byQ r' m)) hp' fr2' hw
    have ea : amQ (p', byQ r' m) w = amQ (p', r') v := V_inj fam2 fam (by
      rw [am_V (c := (p', byQ r' m)) hp' fr2' hw, eam]
      dsimp only
      rw [V_by hr' fm, eP', eR']; grind)
    dsimp only
    unfold shP
    rw [ea]
    dsimp only
    generalize amQ (p', r') v = am at *
    have en : overQ (negF (byQ r' m)) am = byQ (overQ (negF r') am) m := V_inj (fr2'.neg.over fam am0) (fq.by fm) (by
      rw [V_over fr2'.neg fam am0, V_negF, V_by hr' fm, V_by fq fm, V_over hr'.neg fam am0, V_negF]; grind)
    rw [en]
    have e1 : plusQ (byQ p (overQ p' am)) (byQ (byQ (byQ r m) (byQ (overQ (negF r') am) m)) w) = plusQ (byQ p (overQ p' am)) (byQ (byQ r (overQ (negF r') am)) v) := by
      congr 1
      refine V_inj ((fr2.by (fq.by fm)).by hw) ((hr.by fq).by hv) ?_
      rw [V_by (fr2.by (fq.by fm)) hw, V_by fr2 (fq.by fm), V_by hr fm, V_by fq fm, V_by (hr.by fq) hv, V_by hr fq]
      grind
    rw [e1]
    have e2 : V (plusQ (byQ p (byQ (overQ (negF r') am) m)) (byQ (byQ r m) (overQ p' am))) = V (plusQ (byQ p (overQ (negF r') am)) (byQ r (overQ p' am))) * V m := by
      rw [V_plus (hp.by (fq.by fm)) (fr2.by fp), V_plus (hp.by fq) (hr.by fp), V_by hp (fq.by fm), V_by fq fm, V_by fr2 fp, V_by hr fm, V_by hp fq, V_by hr fp]; grind
    refine numQ_congr ((hp.by (fq.by fm)).plus (fr2.by fp)) hw ((hp.by fq).plus (hr.by fp)) hv ?_ ?_
    · rw [e2]; grind
    · exact sign_V ((hp.by fq).plus (hr.by fp)) ((hp.by (fq.by fm)).plus (fr2.by fp)) ((V_pos fm).mpr m0) e2
  · have xg : x.g = 0 := by simp only [ne_eq, not_or, Decidable.not_not] at hg; exact hg.1
    have yg : y.g = 0 := by simp only [ne_eq, not_or, Decidable.not_not] at hg; exact hg.2
    have pl : ∀ (z : Nm) (v : Int × Int), z.g = 0 → infQ z v = some (z.p, (0, 1)) := fun z v hz => by unfold infQ; rw [if_pos hz]
    have z1 := infQ_plain ei xg
    have z2 := infQ_plain ei' yg
    have r1 : r = (0, 1) := congrArg Prod.snd z1
    have r2 : r' = (0, 1) := congrArg Prod.snd z2
    have p1 : p = x.p := congrArg Prod.fst z1
    have p2 : p' = y.p := congrArg Prod.fst z2
    refine ⟨_, _, _, pl x _ xg, pl y _ yg, ?_, rep⟩
    subst p1 p2 r1 r2
    generalize fofQ x y = w at *
    have ea : amQ (y.p, (0, 1)) w = amQ (y.p, (0, 1)) v := by unfold amQ; dsimp only; rw [by_00, by_0 hw, by_0 hv]
    have r0 : overQ (negF (0, 1)) (amQ (y.p, (0, 1)) v) = (0, 1) := over_0 fam am0
    unfold shP
    rw [ea]
    dsimp only
    rw [r0, by_00, by_0 hw, by_0 hv, by_z hp, by_0 fp, plus_00, numQ_0 hw, numQ_0 hv]
end
end Dn

end
section
set_option Elab.async false
set_option maxRecDepth 100000
set_option maxHeartbeats 400000
set_option linter.unusedVariables false
set_option exponentiation.threshold 20000
/-! Pv16: field laws. -/
namespace Dn
open PySem
local macro_rules | `(tactic| array_get_dec) => `(tactic| simp only [w_tryl, cf_low2, cf_low1, s_cons, s_nil, s_set, s_par, s_par3, s_ex, s_ret, s_retn, s_ite, s_rai, s_tryo, s_pas, s_brk, s_cnt, s_aug, t_nm, t_tup, t_sub, t_nil, t_cons, w_var, w_cst, w_top, w_bin, w_neg, w_cmp, w_cmp2, w_nt, w_and, w_or, w_ife, w_tup, w_rol, w_lst, w_ix, w_sl, w_call, w_prim, w_app, w_ins, w_bits, w_join, w_frz, w_nil, w_cons, w_no, w_so, c_no, c_so,
  okX_ok, isB_bl, br_true, br_false, o_add, o_sub, o_mul, o_fdiv, o_mod, o_pow, o_shl, o_cat, o_strs, o_rols, o_neg, o_lt, o_le, o_gt, o_ge, o_is, o_isn, o_eq, o_ne, o_in, o_nin, o_t0, o_t1, o_t2, o_t3, o_sl, o_slr, o_len, o_lenr, o_abs, o_int, o_intb, o_tupr, o_tupt, o_listt, o_listr, o_listm, o_isi, o_frzr, cf_self, eq_int, okS_then,
  List.getElem?_cons_zero, List.getElem?_cons_succ, List.set_cons_zero, List.set_cons_succ, List.length_cons, List.length_nil, Option.some.injEq, exists_eq_left', exists_eq_left, D.int.injEq, D.bl.injEq, D.tup.injEq, and_true, true_and, Nat.zero_add, Nat.reduceAdd, Nat.reduceLT, Nat.lt_irrefl, tysD, tyD, Bool.not_true, Bool.not_false])
variable {F n : Nat} {s : Sto} {Q : D → Sto → Prop} {X : Nat → Sto → Prop}
theorem Rp_plain {k l c : Nat} {v : Int × Int} {x : Nm} (hx : NmOk k l x) (hv : Fr c v) (g : x.g = 0) : Rp v k 1 x (V x.p) 0 := by
  refine ⟨⟨x.p, (0, 1), hx.p, fr01 (by decide), rfl, V01, ?_⟩, .inr rfl⟩
  rw [numQ_0 hv]
  have e : plusQ x.p (0, 1) = x.p := V_inj (hx.p.plus (fr01 (k := 1) (by decide))) hx.p (by rw [V_plus hx.p (fr01 (k := 1) (by decide)), V01]; grind)
  rw [e]
  rcases hx.g with ⟨_, z⟩ | ⟨z | z, _⟩
  · obtain ⟨p, g', u⟩ := x
    have g : g' = 0 := g
    have z : u = (0, 1) := z
    rw [g, z]; rfl
  · omega
  · omega
theorem numQ_sq {a b c : Nat} {p r u w : Int × Int} (hr : Fr b r) (hu : Fr c u) (hw : Fr a w) (h : V w * V w = V u) : (numQ p r u).g = 0 := by
  unfold numQ
  rw [sqrt_of ((hr.by hr).by hu) (hr.by hw) (by rw [V_by hr hw, V_by (hr.by hr) hu, V_by hr hr, ← h]; grind)]
  rfl
theorem drawn_Rp {p r u q : Int × Int} (hp : Fr 21 p) (hr : Fr 21 r) (hu : Fr 5 u) (u0 : 0 < u.1) (hq : Fr 2 q) (q0 : 0 < q.1) : ∃ i j P R, i + j ≤ 51 ∧ Rp u i j (numQ p r (byQ u (byQ q q))) P R := by
  have hqq := hq.by hq
  have hb := hu.by hqq
  have b0 := fr_pos_by hu hqq u0 (fr_pos_by hq hq q0 q0)
  cases e : sqrtQ u with
  | none =>
    refine ⟨21, 23, V p, V (byQ r q), by decide, ⟨⟨p, byQ r q, hp, hr.by hq, rfl, rfl, ?_⟩, .inl e⟩⟩
    refine numQ_congr hr hb (hr.by hq) hu ?_ ?_
    · rw [V_by hu hqq, V_by hq hq, V_by hr hq]; grind
    · exact (sign_V hr (hr.by hq) ((V_pos hq).mpr q0) (V_by hr hq)).symm
  | some w =>
    obtain ⟨e1, _, fw⟩ := sqrt_V hu e
    have nk := numQ_ok hp hr hb b0
    exact ⟨_, 1, _, _, by omega, Rp_plain nk hu (numQ_sq hr hb (fw.by hq) (by rw [V_by fw hq, V_by hu hqq, V_by hq hq, ← e1]; grind))⟩
theorem t_ok {x y z : Nm} (hx : NmOk 700 700 x) (hy : NmOk 700 700 y) (h : timesQ x y = some z) (hF : 2 ^ 10000 ≤ F) (q : Q z.d s) : okX (callD F G (n + 5) 31 [x.d, y.d] s) Q X := by
  refine times_ok (by decide) hx hy (by decide) hF ?_
  rw [h]; exact q
theorem a_ok {x y z : Nm} (hx : NmOk 700 700 x) (hy : NmOk 700 700 y) (h : addQ x y = some z) (hF : 2 ^ 10000 ≤ F) (q : Q z.d s) : okX (callD F G (n + 5) 30 [x.d, y.d] s) Q X := by
  refine added_ok (by decide) hx hy (by decide) (by decide) hF ?_
  rw [h]; exact q
theorem Rp.b {i j c : Nat} {v : Int × Int} {x : Nm} {P R : Rat} (h : Rp v i j x P R) (hv : Fr c v) (v0 : 0 < v.1) (h1 : i + (2 * j + c + 1) / 2 + 3 ≤ 700) (h2 : 2 * j + c + 1 ≤ 700) : NmOk 700 700 x := by
  have k := h.ok hv v0
  exact ⟨k.p.le h1, k.u.le h2, k.g⟩
/-- the sign of a part and so many times a root -/
def sotQ (p r u : Int × Int) : Int :=
  if p.1.sign = (if 0 < u.1 then r.1.sign else 0) ∨ (if 0 < u.1 then r.1.sign else 0) = 0 then p.1.sign
  else if p.1.sign = 0 then (if 0 < u.1 then r.1.sign else 0)
  else p.1.sign * (minusQ (byQ p p) (byQ (byQ r r) u)).1.sign
theorem sm_sign {a : Int} : Sm 1 a.sign := by unfold Sm; have := sign_abs a; omega
theorem sot_tail {a b c : Nat} {p r u : Int × Int} {o : Int} {K : Pt} (hp : Fr a p) (hr : Fr b r) (hu : Fr c u) (h1 : 2 * a + (2 * b + c) ≤ 8000) (hF : 2 ^ 10000 ≤ F) (q : K.rt (.int (if p.1.sign = o ∨ o = 0 then p.1.sign else if p.1.sign = 0 then o else p.1.sign * (minusQ (byQ p p) (byQ (byQ r r) u)).1.sign)) s) :
    okS (denSs F (callT F G (n + 3)) (n + 3) (.cons (.ite (.or (.cmp .eq (.var 3) (.var 4)) (.cmp .eq (.var 4) (.cst (.int 0)))) (.cons (.ret (.var 3)) .nil) .nil) (.cons (.ite (.cmp .eq (.var 3) (.cst (.int 0))) (.cons (.ret (.var 4)) .nil) .nil) (.cons (.set (.nm 5) (.call 59 (.cons (.call 19 (.cons (.var 0) (.cons (.var 0) .nil))) (.cons (.call 19 (.cons (.call 19 (.cons (.var 1) (.cons (.var 1) .nil))) (.cons (.var 2) .nil))) .nil)))) (.cons (.ret (.bin .mul (.var 3) (.call 22 (.cons (.var 5) .nil)))) .nil)))) [some (fr p), some (fr r), some (fr u), some (.int p.1.sign), some (.int o), none] s) K := by
  array_get_dec
  by_cases h : p.1.sign = o ∨ o = 0
  · rw [if_pos h] at q
    by_cases ho : p.1.sign = o
    · rw [decide_eq_true ho, br_true]; exact q
    · rw [decide_eq_false ho, br_false, decide_eq_true (h.resolve_left ho), br_true]; exact q
  · rw [if_neg h] at q
    rw [decide_eq_false (fun z => h (.inl z)), br_false, decide_eq_false (fun z => h (.inr z)), br_false]
    by_cases hs : p.1.sign = 0
    · rw [if_pos hs] at q
      rw [decide_eq_true hs, br_true]; exact q
    · rw [if_neg hs] at q
      rw [decide_eq_false hs, br_false]
      refine by_ok (n := n) hF hp hp (by omega) (by_ok (n := n) hF hr hr (by omega) (by_ok (n := n) hF (hr.by hr) hu (by omega) (minus_ok (n := n) hF (hp.by hp) ((hr.by hr).by hu) (by omega) ?_)))
      refine sign_of_ok ?_
      rw [o_mul]
      exact ⟨sm_sign.mulOk sm_sign (by decide), q⟩
theorem sot_ok {a b c : Nat} {p r u : Int × Int} (hp : Fr a p) (hr : Fr b r) (hu : Fr c u) (h1 : 2 * a + (2 * b + c) ≤ 8000) (hF : 2 ^ 10000 ≤ F) (q : Q (.int (sotQ p r u)) s) : okX (callD F G (n + 4) 68 [fr p, fr r, fr u] s) Q X := by
  refine callD_body [some (fr p), some (fr r), some (fr u), none, none, none] b_sign_of_two g_sign_of_two rfl rfl rfl ?_
  unfold b_sign_of_two
  rw [s_cons, s_par]
  simp only [w_call, w_cons, w_nil, w_var, w_ife, w_cmp, w_ix, w_cst, cf_self, List.getElem?_cons_zero, List.getElem?_cons_succ, List.set_cons_zero, List.set_cons_succ, Option.some.injEq, exists_eq_left', List.length_cons, List.length_nil]
  refine sign_of_ok ?_
  have i0 : ∀ (Q' : D → Sto → Prop) (X' : Nat → Sto → Prop) (s' : Sto), okX (ixD s' (fr u) (.int 0)) Q' X' = Q' (.int u.1) s' := fun Q' X' s' => by unfold fr; rw [o_t0]
  rw [i0, o_gt, isB_bl]
  unfold sotQ at q
  by_cases hu0 : 0 < u.1
  · rw [if_pos hu0] at q
    rw [decide_eq_true hu0, br_true]
    refine sign_of_ok ?_
    refine ⟨⟨by decide, by decide⟩, ?_⟩
    refine sot_tail hp hr hu h1 hF ?_
    exact q
  · rw [if_neg hu0] at q
    rw [decide_eq_false hu0, br_false]
    refine ⟨⟨by decide, by decide⟩, ?_⟩
    refine sot_tail hp hr hu h1 hF ?_
    exact q
def lessQ (x y : Nm) : Bool :=
  let t := minusQ x.p y.p
  let l := sotQ t (x.g, 1) x.u
  if l ≠ y.g ∨ l = 0 then decide (l < y.g)
  else decide (l * sotQ (minusQ (plusQ (byQ t t) (byQ (x.g * x.g, 1) x.u)) y.u) (byQ (2 * x.g, 1) t) x.u < 0)
theorem sot_sm {p r u : Int × Int} : Sm 1 (sotQ p r u) := by
  unfold sotQ
  have a := sm_sign (a := p.1)
  have b := sm_sign (a := r.1)
  have z : Sm 1 0 := by unfold Sm; decide
  have m : ∀ c : Int, Sm 1 (p.1.sign * c.sign) := fun c => by
    have c' := sign_abs c
    have a' := sign_abs p.1
    unfold Sm
    rw [Int.natAbs_mul]
    have := Nat.mul_le_mul a' c'
    omega
  repeat' split
  all_goals first | exact a | exact b | exact z | exact m _
theorem less_ok {k l : Nat} {x y : Nm} (hx : NmOk k l x) (hy : NmOk k l y) (hk : 1 ≤ k) (h1 : 16 * k + 10 * l ≤ 6000) (hF : 2 ^ 10000 ≤ F) (q : Q (.bl (lessQ x y)) s) : okX (callD F G (n + 5) 69 [x.d, y.d] s) Q X := by
  refine callD_body [some x.d, some y.d, none, none, none, none] b_less g_less rfl rfl rfl ?_
  unfold b_less Nm.d
  array_get_dec
  refine minus_ok (n := n + 1) hF hx.p hy.p (by omega) ?_
  have ft := hx.p.minus hy.p
  unfold lessQ at q
  dsimp only at q
  generalize minusQ x.p y.p = t at *
  refine ⟨by decide, ?_⟩
  refine sot_ok (n := n) (r := (x.g, 1)) ft (frs1 hx.ga) hx.u (by omega) hF ?_
  generalize hl : sotQ t (x.g, 1) x.u = l at *
  have sl : Sm 1 l := by rw [← hl]; exact sot_sm
  refine ⟨_, eq_int, ?_⟩
  by_cases h1' : l ≠ y.g
  · rw [if_pos (.inl h1')] at q
    rw [decide_eq_false h1', Bool.not_false, br_true, o_lt]
    exact q
  · have h1'' : l = y.g := Decidable.not_not.mp h1'
    rw [decide_eq_true h1'', Bool.not_true, br_false]
    refine ⟨_, eq_int, ?_⟩
    by_cases h2 : l = 0
    · rw [if_pos (.inr h2)] at q
      rw [decide_eq_true h2, br_true, o_lt]
      exact q
    · rw [if_neg (by rintro (z | z); exact h1' z; exact h2 z)] at q
      rw [decide_eq_false h2, br_false]
      have sg : Sm 1 x.g := by unfold Sm; have := hx.ga; omega
      have s2 : Sm 2 2 := by unfold Sm; decide
      have f1 : Fr 2 (x.g * x.g, 1) := fr_int (sg.mul sg) (by decide)
      have f2 : Fr 3 (2 * x.g, 1) := fr_int (s2.mul sg) (by decide)
      refine by_ok (n := n + 1) hF ft ft (by omega) ?_
      refine ⟨sg.mulOk sg (by decide), by decide, ?_⟩
      refine by_ok (n := n + 1) (x := (x.g * x.g, 1)) hF f1 hx.u (by omega) ?_
      refine plus_ok (n := n + 1) hF (ft.by ft) (f1.by hx.u) (by omega) ?_
      refine minus_ok (n := n + 1) hF ((ft.by ft).plus (f1.by hx.u)) hy.u (by omega) ?_
      refine ⟨s2.mulOk sg (by decide), by decide, ?_⟩
      refine by_ok (n := n + 1) (x := (2 * x.g, 1)) hF f2 ft (by omega) ?_
      refine sot_ok (n := n) (((ft.by ft).plus (f1.by hx.u)).minus hy.u) (f2.by ft) hx.u (by omega) hF ?_
      rw [o_mul]
      refine ⟨sl.mulOk sot_sm (by decide), ?_⟩
      rw [o_lt]
      exact q
theorem less_zero {k l : Nat} {x : Nm} (hx : NmOk k l x) (h : x.g = 0 ∧ 0 ≤ x.p.1 ∨ x.g = 1 ∧ x.p = (0, 1)) : lessQ x (plainQ (0, 1)) = false := by
  have e : minusQ x.p (0, 1) = x.p := V_inj (hx.p.minus (fr01 (k := 1) (by decide))) hx.p (by rw [V_minus hx.p (fr01 (k := 1) (by decide)), V01]; grind)
  unfold lessQ plainQ
  dsimp only
  rw [e]
  have s0 : 0 ≤ sotQ x.p (x.g, 1) x.u := by
    rcases h with ⟨g, p0⟩ | ⟨g, p0⟩
    · have : sotQ x.p (x.g, 1) x.u = x.p.1.sign := by
        unfold sotQ
        rw [if_pos (.inr (by rw [g]; simp))]
      rw [this]
      rcases Int.lt_or_eq_of_le p0 with z | z
      · rw [Int.sign_eq_one_of_pos z]; decide
      · rw [← z]; decide
    · have u0 := hx.u0 (by omega)
      unfold sotQ
      rw [if_pos u0, g, p0]
      rw [if_neg (by decide), if_pos (by decide)]
      decide
  generalize sotQ x.p (x.g, 1) x.u = l at *
  by_cases hl : l ≠ 0 ∨ l = 0
  · rw [if_pos hl]
    exact decide_eq_false (by omega)
  · exact absurd (Decidable.em (l = 0)) (by omega)
end Dn

end
section
set_option Elab.async false
set_option maxRecDepth 100000
set_option maxHeartbeats 400000
set_option linter.unusedVariables false
set_option exponentiation.threshold 20000
/-! Pv17: field laws. -/
namespace Dn
open PySem
local macro_rules | `(tactic| array_get_dec) => `(tactic| simp only [w_tryl, cf_low2, cf_low1, s_cons, s_nil, s_set, s_par, s_par3, s_ex, s_ret, s_retn, s_ite, s_rai, s_tryo, s_pas, s_brk, s_cnt, s_aug, t_nm, t_tup, t_sub, t_nil, t_cons, w_var, w_cst, w_top, w_bin, w_neg, w_cmp, w_cmp2, w_nt, w_and, w_or, w_ife, w_tup, w_rol, w_lst, w_ix, w_sl, w_call, w_prim, w_app, w_ins, w_bits, w_join, w_frz, w_nil, w_cons, w_no, w_so, c_no, c_so,
  okX_ok, isB_bl, br_true, br_false, o_add, o_sub, o_mul, o_fdiv, o_mod, o_pow, o_shl, o_cat, o_strs, o_rols, o_neg, o_lt, o_le, o_gt, o_ge, o_is, o_isn, o_eq, o_ne, o_in, o_nin, o_t0, o_t1, o_t2, o_t3, o_sl, o_slr, o_len, o_lenr, o_abs, o_int, o_intb, o_tupr, o_tupt, o_listt, o_listr, o_listm, o_isi, o_frzr, cf_self, eq_int, okS_then,
  List.getElem?_cons_zero, List.getElem?_cons_succ, List.set_cons_zero, List.set_cons_succ, List.length_cons, List.length_nil, Option.some.injEq, exists_eq_left', exists_eq_left, D.int.injEq, D.bl.injEq, D.tup.injEq, and_true, true_and, Nat.zero_add, Nat.reduceAdd, Nat.reduceLT, Nat.lt_irrefl, tysD, tyD, Bool.not_true, Bool.not_false])
variable {F n : Nat} {s : Sto} {Q : D → Sto → Prop} {X : Nat → Sto → Prop}
theorem some_Rp_ok {j c : Nat} {u q : Int × Int} (hu : Fr 5 u) (u0 : 0 < u.1) (hq : Fr 2 q) (q0 : 0 < q.1) (hd : Deck s j c) (hc : c + 100 < 2 ^ 29) (hF : 2 ^ 10000 ≤ F) (w : ∀ (x : Nm) s' i k P R, NmOk 60 60 x → i + k ≤ 51 → Rp u i k x P R → Deck s' j (c + 7) → Keep j s s' → Q x.d s') : okX (callD F G (n + 5) 55 [.lst j, fr (byQ u (byQ q q))] s) Q X :=
  have hqq := hq.by hq
  have hb := hu.by hqq
  have b0 := fr_pos_by hu hqq u0 (fr_pos_by hq hq q0 q0)
  some_number_ok hb (by omega) hd hc hF fun p r s' hp hr hd' kp => by
    have nk := numQ_ok hp hr hb b0
    obtain ⟨i, k, P, R, h, rp⟩ := drawn_Rp hp hr hu u0 hq q0
    exact w _ _ i k P R ⟨nk.p.le (by omega), nk.u.le (by omega), nk.g⟩ h rp hd' kp
theorem br_step {t : Bool} {A B : Prop} (hB : B) (hA : t = false → B → A) : br (!t) A B := ⟨fun h => hA (by simpa using h) hB, fun _ => hB⟩
theorem root_nm {k : Nat} {p : Int × Int} (hp : Fr k p) (h0 : 0 ≤ p.1) : NmOk ((k + 1) / 2 + 2) (k + 3) (numQ (0, 1) (1, 1) p) ∧ ((numQ (0, 1) (1, 1) p).g = 0 ∧ 0 ≤ (numQ (0, 1) (1, 1) p).p.1 ∧ V (numQ (0, 1) (1, 1) p).p * V (numQ (0, 1) (1, 1) p).p = V p ∨ numQ (0, 1) (1, 1) p = ⟨(0, 1), 1, p⟩ ∧ 0 < p.1 ∧ sqrtQ p = none) := by
  have f1 := fr11 (k := 1) (by decide)
  have e : byQ (byQ (1, 1) (1, 1)) p = p := by
    rw [show byQ (1, 1) (1, 1) = (1, 1) from by decide +kernel]
    exact V_inj (f1.by hp) hp (by rw [V_by f1 hp, V11]; grind)
  unfold numQ
  rw [e]
  cases h : sqrtQ p with
  | none =>
    have p0 : 0 < p.1 := by
      rcases Int.lt_or_eq_of_le h0 with z | z
      · exact z
      · have : p = (0, 1) := V_0 hp ((V_zero hp).mpr z.symm)
        rw [this, sqrt01] at h; cases h
    refine ⟨⟨fr01 (by omega), hp.le (by omega), .inr ⟨.inl rfl, p0, h⟩⟩, .inr ⟨rfl, p0, rfl⟩⟩
  | some w =>
    obtain ⟨e1, w0, fw⟩ := sqrt_V hp h
    have z0 := fr01 (k := 1) (by decide)
    have ew : plusQ (0, 1) (byQ ((1 : Int).sign, 1) w) = w := V_inj (z0.plus (f1.by fw)) fw (by rw [show (1 : Int).sign = 1 from rfl, V_plus z0 (f1.by fw), V_by f1 fw, V01, V11]; grind)
    dsimp only
    rw [ew]
    exact ⟨⟨fw.le (by omega), fr01 (by omega), .inl ⟨rfl, rfl⟩⟩, .inl ⟨rfl, w0, e1⟩⟩
theorem root_sq {k : Nat} {p : Int × Int} (hp : Fr k p) (h0 : 0 ≤ p.1) : timesQ (numQ (0, 1) (1, 1) p) (numQ (0, 1) (1, 1) p) = some (plainQ p) := by
  obtain ⟨ok, h⟩ := root_nm hp h0
  have f1 := fr11 (k := 1) (by decide)
  rcases h with ⟨g, w0, e⟩ | ⟨e, p0, hn⟩
  · have r := Rp_plain ok f1 g
    obtain ⟨z, ez, rz⟩ := r.mul f1 (by decide) r
    rw [ez]
    congr 1
    exact rz.uniq f1 (Rp_plain (plainQ_ok hp) f1 rfl) (by show _ = V p; rw [← e]; grind) (by grind)
  · have r : Rp p 1 1 (numQ (0, 1) (1, 1) p) 0 1 := ⟨⟨_, _, fr01 (by decide), f1, V01, V11, rfl⟩, .inl hn⟩
    obtain ⟨z, ez, rz⟩ := r.mul hp p0 r
    rw [ez]
    congr 1
    exact rz.uniq hp (Rp_plain (plainQ_ok hp) hp rfl) (by show _ = V p; grind) (by grind)
theorem k04_ok {ns : List Int} (hn : ns.length ≤ 100000) (hF : 2 ^ 10000 ≤ F) (q : ∀ s', Q (.bl true) s') : okX (callD F G (n + 20) 70 [.rol (ns.map D.int)] s) Q X := by
  refine callD_body [some (.rol (ns.map D.int)), none, none, none, none, none, none, none] b_law_k04 g_law_k04 rfl rfl rfl ?_
  unfold b_law_k04
  array_get_dec
  obtain ⟨l10, mem⟩ := cells_of (ns := ns) (k := 10) (by decide)
  refine s_for (fun i e s2 => ∃ o1 o2 o3 o4 o5 o6 o7, e = [some (.rol (ns.map D.int)), o1, o2, o3, o4, o5, o6, o7]) ?_
  rw [i_seq]
  array_get_dec
  refine ⟨by decide, decide_eq_true (by unfold sizeLine; simp; omega), _, rfl, _, rfl, two_lt hF (Nat.le_trans l10 (by decide)), ⟨_, _, _, _, _, _, _, rfl⟩, ?_, ?_⟩
  · rintro i d e s2 hi ⟨o1, o2, o3, o4, o5, o6, o7, rfl⟩
    obtain ⟨c, rfl⟩ := mem d (List.mem_of_getElem? hi)
    array_get_dec
    refine deck_ok (by decide) fun s3 hd3 _ => ?_
    generalize s2.length = j at *
    refine some_under_ok (n := n + 16) hd3 (by decide) fun u s4 hu u0 hd4 _ => ?_
    have q1 : Fr 2 ((1 : Int), (1 : Int)) := fr11 (by decide)
    have q3 : Fr 2 ((3 : Int), (2 : Int)) := ⟨by unfold Sm; decide, by unfold Sm; decide, by decide, by decide⟩
    have e1 : byQ u (byQ (1, 1) (1, 1)) = u := by rw [show byQ (1, 1) (1, 1) = (1, 1) from by decide +kernel]; exact by_11 hu
    have e3 : byQ (3, 2) (3, 2) = (9, 4) := by decide +kernel
    rw [show fr u = fr (byQ u (byQ (1, 1) (1, 1))) from by rw [e1]]
    refine some_Rp_ok (n := n + 14) hu u0 q1 (by decide) hd4 (by decide) hF fun a s5 ia ja A A' oa la ra hd5 _ => ?_
    rw [e1]
    refine ⟨by decide, ?_⟩
    have h9 : Fr 4 ((9 : Int), (4 : Int)) := ⟨by unfold Sm; decide, by unfold Sm; decide, by decide, by decide⟩
    refine law_by_ok (n := n + 17) (y := (9, 4)) hu h9 (by decide) hF ?_
    rw [← e3]
    refine some_Rp_ok (n := n + 14) hu u0 q3 (by decide) hd5 (by decide) hF fun b s6 ib jb B B' ob lb rb hd6 _ => ?_
    rw [show fr u = fr (byQ u (byQ (1, 1) (1, 1))) from by rw [e1]]
    refine some_Rp_ok (n := n + 14) hu u0 q1 (by decide) hd6 (by decide) hF fun g s7 ig jg C C' oc lc rc hd7 _ => ?_
    have B7 : ∀ {x : Nm}, NmOk 60 60 x → NmOk 700 700 x := fun h => ⟨h.p.le (by decide), h.u.le (by decide), h.g⟩
    have oa' := B7 oa
    have ob' := B7 ob
    have oc' := B7 oc
    obtain ⟨ab, eab, rab⟩ := ra.add hu u0 rb
    obtain ⟨ba, eba, rba⟩ := rb.add hu u0 ra
    obtain ⟨tab, etab, rtab⟩ := ra.mul hu u0 rb
    obtain ⟨tba, etba, rtba⟩ := rb.mul hu u0 ra
    obtain ⟨bc, ebc, rbc⟩ := rb.add hu u0 rc
    obtain ⟨tbc, etbc, rtbc⟩ := rb.mul hu u0 rc
    obtain ⟨tac, etac, rtac⟩ := ra.mul hu u0 rc
    obtain ⟨abc, eabc, rabc⟩ := rab.add hu u0 rc
    obtain ⟨abc', eabc', rabc'⟩ := ra.add hu u0 rbc
    obtain ⟨tabc, etabc, rtabc⟩ := rtab.mul hu u0 rc
    obtain ⟨tabc', etabc', rtabc'⟩ := ra.mul hu u0 rtbc
    obtain ⟨x1, ex1, rx1⟩ := ra.mul hu u0 rbc
    obtain ⟨x2, ex2, rx2⟩ := rtab.add hu u0 rtac
    obtain ⟨x3, ex3, rx3⟩ := rab.add hu u0 (rb.neg hu)
    have oab := rab.b hu u0 (by omega) (by omega)
    have otab := rtab.b hu u0 (by omega) (by omega)
    have obc := rbc.b hu u0 (by omega) (by omega)
    have otbc := rtbc.b hu u0 (by omega) (by omega)
    have otac := rtac.b hu u0 (by omega) (by omega)
    have u1 : ab = ba := rab.uniq hu rba (by grind) (by grind)
    have u2 : tab = tba := rtab.uniq hu rtba (by grind) (by grind)
    have u3 : abc = abc' := rabc.uniq hu rabc' (by grind) (by grind)
    have u4 : tabc = tabc' := rtabc.uniq hu rtabc' (by grind) (by grind)
    have u5 : x1 = x2 := rx1.uniq hu rx2 (by grind) (by grind)
    have u6 : x3 = a := rx3.uniq hu ra (by grind) (by grind)
    have u7 : negN (negN a) = a := ((ra.neg hu).neg hu).uniq hu ra (by grind) (by grind)
    refine a_ok (n := n + 14) oa' ob' eab hF (a_ok (n := n + 14) ob' oa' eba hF ?_)
    refine ⟨true, by rw [eq_nm, decide_eq_true u1], ?_⟩
    rw [Bool.not_true, br_false]
    refine t_ok (n := n + 14) oa' ob' etab hF (t_ok (n := n + 14) ob' oa' etba hF ?_)
    refine ⟨true, by rw [eq_nm, decide_eq_true u2], ?_⟩
    rw [Bool.not_true, br_false]
    refine a_ok (n := n + 14) oa' ob' eab hF (a_ok (n := n + 14) oab oc' eabc hF ?_)
    refine a_ok (n := n + 14) ob' oc' ebc hF (a_ok (n := n + 14) oa' obc eabc' hF ?_)
    refine ⟨true, by rw [eq_nm, decide_eq_true u3], ?_⟩
    rw [Bool.not_true, br_false]
    refine t_ok (n := n + 14) oa' ob' etab hF (t_ok (n := n + 14) otab oc' etabc hF ?_)
    refine t_ok (n := n + 14) ob' oc' etbc hF (t_ok (n := n + 14) oa' otbc etabc' hF ?_)
    refine ⟨true, by rw [eq_nm, decide_eq_true u4], ?_⟩
    rw [Bool.not_true, br_false]
    refine a_ok (n := n + 14) ob' oc' ebc hF (t_ok (n := n + 14) oa' obc ex1 hF ?_)
    refine t_ok (n := n + 14) oa' ob' etab hF (t_ok (n := n + 14) oa' oc' etac hF (a_ok (n := n + 14) otab otac ex2 hF ?_))
    refine ⟨true, by rw [eq_nm, decide_eq_true u5], ?_⟩
    rw [Bool.not_true, br_false]
    refine a_ok (n := n + 14) oa' ob' eab hF (contrary_ok (n := n + 15) ob' (by decide) hF (a_ok (n := n + 14) oab (negN_ok ob') ex3 hF ?_))
    refine ⟨true, by rw [eq_nm, decide_eq_true u6], ?_⟩
    rw [Bool.not_true, br_false]
    refine contrary_ok (n := n + 15) oa' (by decide) hF (contrary_ok (n := n + 15) (negN_ok oa') (by decide) hF ?_)
    refine ⟨true, by rw [eq_nm, decide_eq_true u7], ?_⟩
    rw [Bool.not_true, br_false]
    refine ⟨by decide, law_plain_ok ?_⟩
    refine ⟨decide (b = plainQ (0, 1)), eq_nm (y := plainQ (0, 1)), ?_⟩
    refine br_step ?_ fun hb fin => ?_
    · refine some_fraction_ok (n := n + 16) hd7 (by decide) hF fun p0 s8 hp0 hd8 _ => ?_
      have i0 : ∀ (Q' : D → Sto → Prop) (X' : Nat → Sto → Prop) (s' : Sto), okX (ixD s' (fr p0) (.int 0)) Q' X' = Q' (.int p0.1) s' := fun Q' X' s' => by unfold fr; rw [o_t0]
      have i1 : ∀ (Q' : D → Sto → Prop) (X' : Nat → Sto → Prop) (s' : Sto), okX (ixD s' (fr p0) (.int 1)) Q' X' = Q' (.int p0.2) s' := fun Q' X' s' => by unfold fr; rw [o_t1]
      rw [i0, o_abs, i1]
      refine ⟨by decide, ?_⟩
      have fp : Fr 21 ((if p0.1 < 0 then -p0.1 else p0.1), p0.2) := by
        split
        · exact hp0.neg
        · exact hp0
      have pp : 0 ≤ (if p0.1 < 0 then -p0.1 else p0.1) := by split <;> omega
      generalize (if p0.1 < 0 then -p0.1 else p0.1) = t at *
      have fp : Fr 21 (t, p0.2) := fp
      generalize p0.2 = t2 at *
      rw [show D.tup [D.int t, D.int t2] = fr (t, t2) from rfl]
      refine root_by (n := n + 14) fp (by decide) hF (fun _ => root_by (n := n + 14) fp (by decide) hF (fun _ => ?_) fun z => absurd z (by show ¬ t < 0; omega)) fun z => absurd z (by show ¬ t < 0; omega)
      obtain ⟨ok0, hr⟩ := root_nm fp pp
      have okr' : NmOk 60 60 (numQ (0, 1) (1, 1) (t, t2)) := ⟨ok0.p.le (by decide), ok0.u.le (by decide), ok0.g⟩
      have okr := B7 okr'
      refine t_ok (n := n + 14) okr okr (root_sq fp pp) hF ?_
      refine plain_ok ?_
      refine ⟨true, by rw [eq_nm, decide_eq_true rfl], ?_⟩
      rw [Bool.not_true, br_false]
      refine root_by (n := n + 14) fp (by decide) hF (fun _ => ?_) fun z => absurd z (by show ¬ t < 0; omega)
      refine ⟨by decide, plain_ok (p := (0, 1)) ?_⟩
      have okz : NmOk 60 60 (plainQ (0, 1)) := ⟨fr01 (by decide), fr01 (by decide), .inl ⟨rfl, rfl⟩⟩
      refine less_ok (n := n + 14) okr' okz (by decide) (by decide) hF ?_
      rw [less_zero okr' (hr.imp (fun z => ⟨z.1, z.2.1⟩) fun z => by rw [z.1]; exact ⟨rfl, rfl⟩), isB_bl, br_false]
      exact ⟨_, _, _, _, _, _, _, rfl⟩
    · have hn : b ≠ zeroN := fun z => by rw [z] at hb; exact absurd hb (by decide)
      obtain ⟨nz, pa, pd, z, e1', e2', ez, rz⟩ := ra.share hu u0 rb hn
      refine shared_by (n := n + 13) oa ob hF ?_
      rw [e1', e2']
      refine ⟨fun z => absurd z hn, fun _ => ?_⟩
      rw [ez]
      obtain ⟨w, ew, rw'⟩ := rz.mul hu u0 rb
      refine t_ok (n := n + 14) (rz.b hu u0 (by omega) (by omega)) ob' ew hF ?_
      refine ⟨true, by rw [eq_nm, decide_eq_true (rw'.uniq hu ra (by grind) (by grind))], ?_⟩
      rw [Bool.not_true, br_false]
      exact fin
  · rintro e s2 ⟨o1, o2, o3, o4, o5, o6, o7, rfl⟩
    exact q _
theorem pure_k04 {ns : List Int} (hn : ns.length ≤ 100000) : ∃ s, callD FU G KL 70 [.rol (ns.map D.int)] [] = .ok (.bl true) s :=
  of_okX (k04_ok (n := 40) hn FU_le fun _ => rfl)
end Dn

end
section
set_option Elab.async false
set_option maxRecDepth 100000
set_option maxHeartbeats 400000
set_option linter.unusedVariables false
set_option exponentiation.threshold 20000
/-! Pw1: numbers with one root in order -/
namespace Dn
open PySem
local macro_rules | `(tactic| array_get_dec) => `(tactic| simp only [w_tryl, cf_low2, cf_low1, s_cons, s_nil, s_set, s_par, s_par3, s_ex, s_ret, s_retn, s_ite, s_rai, s_tryo, s_pas, s_brk, s_cnt, s_aug, t_nm, t_tup, t_sub, t_nil, t_cons, w_var, w_cst, w_top, w_bin, w_neg, w_cmp, w_cmp2, w_nt, w_and, w_or, w_ife, w_tup, w_rol, w_lst, w_ix, w_sl, w_call, w_prim, w_app, w_ins, w_bits, w_join, w_frz, w_nil, w_cons, w_no, w_so, c_no, c_so,
  okX_ok, isB_bl, br_true, br_false, o_add, o_sub, o_mul, o_fdiv, o_mod, o_pow, o_shl, o_cat, o_strs, o_rols, o_neg, o_lt, o_le, o_gt, o_ge, o_is, o_isn, o_eq, o_ne, o_in, o_nin, o_t0, o_t1, o_t2, o_t3, o_sl, o_slr, o_len, o_lenr, o_abs, o_int, o_intb, o_tupr, o_tupt, o_listt, o_listr, o_listm, o_isi, o_frzr, cf_self, eq_int, okS_then,
  List.getElem?_cons_zero, List.getElem?_cons_succ, List.set_cons_zero, List.set_cons_succ, List.length_cons, List.length_nil, Option.some.injEq, exists_eq_left', exists_eq_left, D.int.injEq, D.bl.injEq, D.tup.injEq, and_true, true_and, Nat.zero_add, Nat.reduceAdd, Nat.reduceLT, Nat.lt_irrefl, tysD, tyD, Bool.not_true, Bool.not_false])
variable {F n : Nat} {s : Sto} {Q : D → Sto → Prop} {X : Nat → Sto → Prop}
/-- p + r times the root of u is above nought -/
def Pos (u p r : Rat) : Prop := (0 < p * p - r * r * u ∧ 0 < p) ∨ (p * p - r * r * u < 0 ∧ 0 < r)
theorem q_mul {a b : Rat} (ha : 0 < a) (hb : 0 < b) : 0 < a * b := Rat.mul_pos ha hb
theorem q_mul0 {a b : Rat} (ha : 0 ≤ a) (hb : 0 ≤ b) : 0 ≤ a * b := Rat.mul_nonneg ha hb
theorem q_sq (a : Rat) : 0 ≤ a * a := by
  rcases (show 0 ≤ a ∨ 0 ≤ -a by grind) with h | h
  · exact q_mul0 h h
  · have := q_mul0 h h; grind
/-- a square is less, the root is -/
theorem q_lt {a b : Rat} (hb : 0 ≤ b) (h : a * a < b * b) : a < b ∧ -b < a := by
  constructor
  · by_cases z : a < b
    · exact z
    · have := q_mul0 (show 0 ≤ a - b by grind) (show 0 ≤ a + b by grind); grind
  · by_cases z : -b < a
    · exact z
    · have := q_mul0 (show 0 ≤ -a - b by grind) (show 0 ≤ b - a by grind); grind
theorem q_le {a b : Rat} (hb : 0 ≤ b) (h : a * a ≤ b * b) : a ≤ b ∧ -b ≤ a := by
  constructor
  · by_cases z : a ≤ b
    · exact z
    · have := q_mul (show 0 < a - b by grind) (show 0 < a + b by grind); grind
  · by_cases z : -b ≤ a
    · exact z
    · have := q_mul (show 0 < -a - b by grind) (show 0 < b - a by grind); grind
theorem q_neg {a : Rat} (h : ¬ 0 < a) (h0 : a ≠ 0) : a < 0 := by grind
/-- a product of unlike squares -/
theorem q_mm {a b c d : Rat} (ha : 0 ≤ b) (hb : b < a) (hc : 0 ≤ d) (hd : d < c) : b * d < a * c := by
  have h1 := q_mul (show 0 < a - b by grind) (show 0 < c by grind)
  have h2 := q_mul0 ha (show 0 ≤ c - d by grind)
  grind
section
variable {u p r p' r' : Rat} (u0 : 0 ≤ u) 
include u0
theorem Pos.mul (h : Pos u p r) (h' : Pos u p' r') : Pos u (p * p' + r * r' * u) (p * r' + r * p') := by
  have s1 := q_sq p
  have s2 := q_sq p'
  have s3 := q_mul0 (q_sq r) u0
  have s4 := q_mul0 (q_sq r') u0
  rcases h with ⟨n, a⟩ | ⟨n, a⟩ <;> rcases h' with ⟨n', a'⟩ | ⟨n', a'⟩
  · refine .inl ⟨?_, ?_⟩
    · have := q_mul n n'; grind
    · have m := q_mm s3 (show r * r * u < p * p by grind) s4 (show r' * r' * u < p' * p' by grind)
      have := (q_lt (a := r * r' * u) (b := p * p') (q_mul0 (by grind) (by grind)) (by grind)).2
      grind
  · refine .inr ⟨?_, ?_⟩
    · have := q_mul n (show 0 < -(p' * p' - r' * r' * u) by grind); grind
    · have m := q_mm s3 (show r * r * u < p * p by grind) s2 (show p' * p' < r' * r' * u by grind)
      by_cases z : u = 0
      · subst z; grind
      · have u1 : 0 < u := by grind
        have m' : (r * p') * (r * p') < (p * r') * (p * r') := by
          by_cases y : (r * p') * (r * p') < (p * r') * (p * r')
          · exact y
          · have := q_mul0 (show 0 ≤ (r * p') * (r * p') - (p * r') * (p * r') by grind) u0; grind
        have := (q_lt (q_mul0 (by grind) (by grind)) m').2
        grind
  · refine .inr ⟨?_, ?_⟩
    · have := q_mul n' (show 0 < -(p * p - r * r * u) by grind); grind
    · have m := q_mm s4 (show r' * r' * u < p' * p' by grind) s1 (show p * p < r * r * u by grind)
      by_cases z : u = 0
      · subst z; grind
      · have u1 : 0 < u := by grind
        have m' : (p * r') * (p * r') < (r * p') * (r * p') := by
          by_cases y : (p * r') * (p * r') < (r * p') * (r * p')
          · exact y
          · have := q_mul0 (show 0 ≤ (p * r') * (p * r') - (r * p') * (r * p') by grind) u0; grind
        have := (q_lt (q_mul0 (by grind) (by grind)) m').2
        grind
  · refine .inl ⟨?_, ?_⟩
    · have := q_mul (show 0 < -(p * p - r * r * u) by grind) (show 0 < -(p' * p' - r' * r' * u) by grind); grind
    · have m := q_mm s1 (show p * p < r * r * u by grind) s2 (show p' * p' < r' * r' * u by grind)
      have := (q_lt (a := p * p') (b := r * r' * u) (q_mul0 (q_mul0 (by grind) (by grind)) u0) (by grind)).2
      grind
end
section
variable {u p r p' r' : Rat}
theorem Pos.not_neg (h : Pos u p r) (h' : Pos u (-p) (-r)) : False := by
  rcases h with ⟨n, a⟩ | ⟨n, a⟩ <;> rcases h' with ⟨n', a'⟩ | ⟨n', a'⟩ <;> grind
theorem Pos.q {c : Rat} (h : 0 < c) : Pos u c 0 := .inl ⟨by have := q_mul h h; grind, h⟩
theorem Pos.of_q {c : Rat} (h : Pos u c 0) : 0 < c := by
  rcases h with ⟨_, a⟩ | ⟨_, a⟩
  · exact a
  · grind
theorem Pos.cg (h : Pos u p r) (e : p = p') (e' : r = r') : Pos u p' r' := by rw [← e, ← e']; exact h
/-- u is no square -/
theorem Pos.tri (u0 : 0 ≤ u) (hn : (∀ q : Rat, q * q ≠ u) ∨ r = 0) : Pos u p r ∨ Pos u (-p) (-r) ∨ (p = 0 ∧ r = 0) := by
  by_cases r0 : r = 0
  · subst r0
    rcases (show 0 < p ∨ 0 < -p ∨ p = 0 by grind) with h | h | h
    · exact .inl (.inl ⟨by have := q_mul h h; grind, h⟩)
    · exact .inr (.inl (.inl ⟨by have := q_mul h h; grind, h⟩))
    · exact .inr (.inr ⟨h, rfl⟩)
  · have hn := hn.resolve_right r0
    have nz : p * p - r * r * u ≠ 0 := fun z => hn (p / r) (by
      have : p / r * (p / r) = (p * p) / (r * r) := by grind
      rw [this]; grind)
    rcases (show 0 < p * p - r * r * u ∨ p * p - r * r * u < 0 by grind) with n | n
    · have p0 : p ≠ 0 := fun z => by
        subst z
        have := q_mul0 (q_sq r) u0
        grind
      rcases (show 0 < p ∨ 0 < -p by grind) with h | h
      · exact .inl (.inl ⟨n, h⟩)
      · exact .inr (.inl (.inl ⟨by grind, h⟩))
    · rcases (show 0 < r ∨ 0 < -r by grind) with h | h
      · exact .inl (.inr ⟨n, h⟩)
      · exact .inr (.inl (.inr ⟨by grind, h⟩))
theorem add_11 (u0 : 0 ≤ u) (n : 0 < p * p - r * r * u) (a : 0 < p) (n' : 0 < p' * p' - r' * r' * u) (a' : 0 < p') : 0 < (p + p') * (p + p') - (r + r') * (r + r') * u := by
  have s3 := q_mul0 (q_sq r) u0
  have s4 := q_mul0 (q_sq r') u0
  have m := q_mm s3 (show r * r * u < p * p by grind) s4 (show r' * r' * u < p' * p' by grind)
  have := (q_lt (a := r * r' * u) (b := p * p') (q_mul0 (by grind) (by grind)) (by grind)).1
  grind
theorem add_22 (u0 : 0 ≤ u) (n : p * p - r * r * u < 0) (a : 0 < r) (n' : p' * p' - r' * r' * u < 0) (a' : 0 < r') : (p + p') * (p + p') - (r + r') * (r + r') * u < 0 := by
  have m := q_mm (q_sq p) (show p * p < r * r * u by grind) (q_sq p') (show p' * p' < r' * r' * u by grind)
  have := (q_lt (a := p * p') (b := r * r' * u) (q_mul0 (q_mul0 (by grind) (by grind)) u0) (by grind)).1
  grind
theorem Pos.add (u0 : 0 ≤ u) (hn : (∀ q : Rat, q * q ≠ u) ∨ r + r' = 0) (h : Pos u p r) (h' : Pos u p' r') : Pos u (p + p') (r + r') := by
  rcases Pos.tri (p := p + p') u0 hn with z | z | ⟨z1, z2⟩
  · exact z
  · rcases h with ⟨n, a⟩ | ⟨n, a⟩ <;> rcases h' with ⟨n', a'⟩ | ⟨n', a'⟩ <;> rcases z with ⟨n2, a2⟩ | ⟨n2, a2⟩
    · grind
    · have := add_11 u0 n a n' a'; grind
    · have := add_11 u0 n a n2 a2; grind
    · have := add_22 u0 n' a' n2 a2; grind
    · have := add_11 u0 n' a' n2 a2; grind
    · have := add_22 u0 n a n2 a2; grind
    · have := add_22 u0 n a n' a'; grind
    · grind
  · obtain rfl : p' = -p := by grind
    obtain rfl : r' = -r := by grind
    rcases h with ⟨n, a⟩ | ⟨n, a⟩ <;> rcases h' with ⟨n', a'⟩ | ⟨n', a'⟩ <;> grind
theorem Pos.addq {c : Rat} (u0 : 0 ≤ u) (hn : (∀ q : Rat, q * q ≠ u) ∨ r = 0) (h : Pos u p r) (h0 : 0 ≤ c) : Pos u (p + c) r := by
  by_cases z : c = 0
  · exact h.cg (by grind) rfl
  · exact (h.add u0 (hn.imp id (fun e => by grind)) (Pos.q (show 0 < c by grind))).cg rfl (by grind)
/-- above what is told -/
theorem up_pos {d s A R R' : Rat} (u0 : 0 ≤ u) (hn : (∀ q : Rat, q * q ≠ u) ∨ s = 0) (hs : s = 1 ∨ s = 0 ∨ s = -1) (A0 : 0 ≤ A) (h : d + s * A ≤ R) (h1 : s = 1 → u ≤ A * A) (h2 : s = -1 → A * A ≤ u) (hR : R < R') : Pos u (R' - d) (-s) := by
  rcases hs with rfl | rfl | rfl
  · have h1 := h1 rfl
    refine .inl ⟨?_, by grind⟩
    have := q_mul (show 0 < R' - d - A by grind) (show 0 < R' - d + A by grind)
    grind
  · exact (Pos.q (u := u) (c := R' - d) (by grind)).cg rfl (by grind)
  · have h2 := h2 rfl
    have hn := hn.resolve_right (by decide)
    have nz := hn (R' - d)
    rcases (show 0 < (R' - d) * (R' - d) - u ∨ (R' - d) * (R' - d) - u < 0 by grind) with n | n
    · refine .inl ⟨by grind, ?_⟩
      by_cases z : 0 < R' - d
      · exact z
      · have := q_mul0 (show 0 ≤ A + (R' - d) by grind) (show 0 ≤ A - (R' - d) by grind)
        grind
    · exact .inr ⟨by grind, by grind⟩
end
section
variable {U W d s t A B R R' : Rat} (u0 : 0 ≤ U) (hn : (∀ q : Rat, q * q ≠ U) ∨ s = 0) (z1 : Pos U (R' - d) (-s))
include u0 hn z1
theorem A_pos (B0 : 0 ≤ B) (h : R' ≤ B) (hW : B * B ≤ W) (z2 : Pos U d s) : Pos U (-(d * d + s * s * U - W)) (-(2 * s * d)) := by
  have z3 : Pos U R' 0 := (z1.add u0 (.inr (by grind)) z2).cg (by grind) (by grind)
  have r0 := z3.of_q
  have z4 := z2.addq u0 hn (c := R') (by grind)
  have m := (z1.mul u0 z4).addq u0 (c := W - R' * R') (hn.imp id (fun e => by subst e; grind)) (by
    have := q_mul0 (show 0 ≤ B - R' by grind) (show 0 ≤ B + R' by grind); grind)
  exact m.cg (by grind) (by grind)
theorem A_neg (h : R' ≤ 0) : Pos U (-d) (-s) := (z1.addq u0 (c := -R') (hn.imp id (fun e => by grind)) (by grind)).cg (by grind) rfl
theorem A_neg2 (B0 : 0 ≤ B) (h : R' ≤ -B) (hW : W ≤ B * B) : Pos U (d * d + s * s * U - W) (2 * s * d) := by
  have z4 := z1.addq u0 (c := -2 * R') (hn.imp id (fun e => by grind)) (by grind)
  have m := (z1.mul u0 z4).addq u0 (c := R' * R' - W) (hn.imp id (fun e => by subst e; grind)) (by
    have := q_mul0 (show 0 ≤ -R' - B by grind) (show 0 ≤ -R' + B by grind); grind)
  exact m.cg (by grind) (by grind)
end
section
variable {U W e s t A B R R' : Rat} (w0 : 0 ≤ W) (hn : (∀ q : Rat, q * q ≠ W) ∨ t = 0) (z1 : Pos W (e - R) t)
include w0 hn z1
theorem B_pos (h : 0 ≤ R) : Pos W e t := (z1.addq w0 hn h).cg (by grind) rfl
theorem B_pos2 (A0 : 0 ≤ A) (h : A ≤ R) (hU : U ≤ A * A) : Pos W (e * e + t * t * W - U) (2 * t * e) := by
  have z4 := z1.addq w0 (c := 2 * R) hn (by grind)
  have m := (z1.mul w0 z4).addq w0 (c := R * R - U) (hn.imp id (fun e => by subst e; grind)) (by
    have := q_mul0 (show 0 ≤ R - A by grind) (show 0 ≤ R + A by grind); grind)
  exact m.cg (by grind) (by grind)
theorem B_neg (A0 : 0 ≤ A) (h : -A ≤ R) (hU : A * A ≤ U) (z2 : Pos W (-e) (-t)) : Pos W (-(e * e + t * t * W - U)) (-(2 * t * e)) := by
  have z3 : Pos W (-R) 0 := (z1.add w0 (.inr (by grind)) z2).cg (by grind) (by grind)
  have r0 := z3.of_q
  have z4 := z2.addq w0 (c := -R) (hn.imp id (fun e => by grind)) (by grind)
  have m := (z1.mul w0 z4).addq w0 (c := U - R * R) (hn.imp id (fun e => by subst e; grind)) (by
    have := q_mul0 (show 0 ≤ A - R by grind) (show 0 ≤ A + R by grind); grind)
  exact m.cg (by grind) (by grind)
end
theorem q_abs {a b A B : Rat} (A0 : 0 ≤ A) (B0 : 0 ≤ B) (h1 : -A ≤ a) (h2 : a ≤ A) (h3 : -B ≤ b) (h4 : b ≤ B) : -(A * B) ≤ a * b ∧ a * b ≤ A * B := by
  have m1 := q_mul0 (show 0 ≤ A - a by grind) (show 0 ≤ B - b by grind)
  have m2 := q_mul0 (show 0 ≤ A - a by grind) (show 0 ≤ B + b by grind)
  have m3 := q_mul0 (show 0 ≤ A + a by grind) (show 0 ≤ B - b by grind)
  have m4 := q_mul0 (show 0 ≤ A + a by grind) (show 0 ≤ B + b by grind)
  constructor <;> grind
/-- what is nought where d, and roots of U and W with signs, come together -/
def nrm (d U W : Rat) : Rat := (d * d + U - W) * (d * d + U - W) - 4 * d * d * U
/-- near by, it is small -/
theorem nrm_small {d a b U W D ε : Rat} (hd1 : -D ≤ d) (hd2 : d ≤ D) (ha1 : -D ≤ a) (ha2 : a ≤ D) (hb1 : -D ≤ b) (hb2 : b ≤ D) (D1 : 1 ≤ D) (e0 : 0 < ε) (e1 : ε ≤ 1)
    (h1 : -(4 * ε) ≤ d + a - b) (h2 : d + a - b ≤ 4 * ε) (hU : a * a ≤ U) (hU2 : U ≤ a * a + 3 * D * ε) (hW : b * b ≤ W) (hW2 : W ≤ b * b + 3 * D * ε) :
    -(256 * (D * D * D) * ε) ≤ nrm d U W ∧ nrm d U W ≤ 256 * (D * D * D) * ε := by
  have D0 : 0 ≤ D := by grind
  have f1 := q_abs (a := d + a - b) (b := d + a + b) (A := 4 * ε) (B := 3 * D) (by grind) (by grind) h1 h2 (by grind) (by grind)
  have f2 := q_abs (a := d - a - b) (b := d - a + b) (A := 3 * D) (B := 3 * D) (by grind) (by grind) (by grind) (by grind) (by grind) (by grind)
  have p0 := q_mul0 D0 (show 0 ≤ ε by grind)
  have p1 := q_mul0 D0 D0
  have f3 := q_abs (A := 4 * ε * (3 * D)) (B := 3 * D * (3 * D)) (by grind) (by grind) f1.1 f1.2 f2.1 f2.2
  have g1 := q_abs (a := d) (b := d) D0 D0 hd1 hd2 hd1 hd2
  have ga := q_abs (a := a) (b := a) D0 D0 ha1 ha2 ha1 ha2
  have gb := q_abs (a := b) (b := b) D0 D0 hb1 hb2 hb1 hb2
  have sa := q_sq a
  have sb := q_sq b
  have sd := q_sq d
  have k1 : D * ε ≤ D * D := by
    have := q_mul0 D0 (show 0 ≤ D - ε by grind)
    grind
  -- the change by U and W
  have c1 := q_abs (a := d * d) (b := (U - a * a) + (W - b * b)) (A := D * D) (B := 6 * D * ε) p1 (by grind) (by grind) (by grind) (by grind) (by grind)
  have c2 := q_abs (a := (U - a * a) - (W - b * b)) (b := (U - W) + (a * a - b * b)) (A := 6 * D * ε) (B := 10 * (D * D)) (by grind) (by grind) (by grind) (by grind) (by grind) (by grind)
  have e : nrm d U W = (d + a - b) * (d + a + b) * ((d - a - b) * (d - a + b)) - 2 * (d * d * ((U - a * a) + (W - b * b))) + ((U - a * a) - (W - b * b)) * ((U - W) + (a * a - b * b)) := by
    unfold nrm; grind
  have p3 : D * D * D * ε = D * D * (D * ε) := by grind
  have p4 := q_mul0 p1 p0
  rw [e]
  constructor <;> grind
/-- nought of a number that is no square -/
theorem nrm_zero {d U W : Rat} (h : nrm d U W = 0) (hn : (∀ q : Rat, q * q ≠ U) ∨ U = 0) (hw : (∀ q : Rat, q * q ≠ W) ∨ W = 0) : d = 0 ∧ U = W := by
  unfold nrm at h
  by_cases d0 : d = 0
  · subst d0
    refine ⟨rfl, ?_⟩
    have : (U - W) * (U - W) = 0 := by grind
    grind
  · exfalso
    rcases hn with hn | hn
    · have q_of : ∃ q : Rat, q * (2 * d) = d * d + U - W := ⟨(d * d + U - W) / (2 * d), by clear hn hw h; grind⟩
      obtain ⟨q, e⟩ := q_of
      refine hn q ?_
      clear hn hw
      have : (q * q - U) * (d * d) = 0 := by rw [← e] at h; grind
      have d2 : d * d ≠ 0 := by grind
      grind
    · subst hn
      have z : (d * d - W) * (d * d - W) = 0 := by grind
      have z : d * d = W := by grind
      rcases hw with hw | hw
      · exact hw d z
      · subst hw; grind
/-- a fraction of a rational -/
theorem rat_fr (q : Rat) : ∃ k x, Fr k x ∧ V x = q := by
  refine ⟨q.num.natAbs + q.den, (q.num, (q.den : Int)), ⟨?_, ?_, by have := q.den_pos; show 0 < (q.den : Int); omega, q.reduced⟩, ?_⟩
  · exact Nat.lt_of_lt_of_le (Nat.lt_two_pow_self (n := q.num.natAbs)) (Nat.pow_le_pow_right (by decide) (by omega))
  · show (q.den : Int).natAbs < _
    exact Nat.lt_of_lt_of_le (Nat.lt_two_pow_self (n := q.den)) (Nat.pow_le_pow_right (by decide) (by omega))
  · unfold V
    have := Rat.mkRat_self q
    rw [Rat.mkRat_eq_div] at this
    exact_mod_cast this
theorem no_sq {k : Nat} {u : Int × Int} (hu : Fr k u) (h : sqrtQ u = none) (q : Rat) : q * q ≠ V u := fun e => by
  obtain ⟨l, x, hx, ex⟩ := rat_fr q
  rw [sqrt_of hu hx (by rw [ex, e])] at h
  cases h
end Dn

end
section
set_option Elab.async false
set_option maxRecDepth 100000
set_option maxHeartbeats 400000
set_option linter.unusedVariables false
set_option exponentiation.threshold 20000
/-! Pw2: less and what lies between -/
namespace Dn
open PySem
local macro_rules | `(tactic| array_get_dec) => `(tactic| simp only [w_tryl, cf_low2, cf_low1, s_cons, s_nil, s_set, s_par, s_par3, s_ex, s_ret, s_retn, s_ite, s_rai, s_tryo, s_pas, s_brk, s_cnt, s_aug, t_nm, t_tup, t_sub, t_nil, t_cons, w_var, w_cst, w_top, w_bin, w_neg, w_cmp, w_cmp2, w_nt, w_and, w_or, w_ife, w_tup, w_rol, w_lst, w_ix, w_sl, w_call, w_prim, w_app, w_ins, w_bits, w_join, w_frz, w_nil, w_cons, w_no, w_so, c_no, c_so,
  okX_ok, isB_bl, br_true, br_false, o_add, o_sub, o_mul, o_fdiv, o_mod, o_pow, o_shl, o_cat, o_strs, o_rols, o_neg, o_lt, o_le, o_gt, o_ge, o_is, o_isn, o_eq, o_ne, o_in, o_nin, o_t0, o_t1, o_t2, o_t3, o_sl, o_slr, o_len, o_lenr, o_abs, o_int, o_intb, o_tupr, o_tupt, o_listt, o_listr, o_listm, o_isi, o_frzr, cf_self, eq_int, okS_then,
  List.getElem?_cons_zero, List.getElem?_cons_succ, List.set_cons_zero, List.set_cons_succ, List.length_cons, List.length_nil, Option.some.injEq, exists_eq_left', exists_eq_left, D.int.injEq, D.bl.injEq, D.tup.injEq, and_true, true_and, Nat.zero_add, Nat.reduceAdd, Nat.reduceLT, Nat.lt_irrefl, tysD, tyD, Bool.not_true, Bool.not_false])
variable {F n : Nat} {s : Sto} {Q : D → Sto → Prop} {X : Nat → Sto → Prop}
section
variable {a b c : Nat} {p r u : Int × Int} (hp : Fr a p) (hr : Fr b r) (hu : Fr c u)
include hp hr hu
theorem sot_abs (u0 : 0 ≤ V u) : (Pos (V u) (V p) (V r) → sotQ p r u = 1) ∧ (Pos (V u) (-V p) (-V r) → sotQ p r u = -1) := by
  have fm := (hp.by hp).minus ((hr.by hr).by hu)
  have em : V (minusQ (byQ p p) (byQ (byQ r r) u)) = V p * V p - V r * V r * V u := by
    rw [V_minus (hp.by hp) ((hr.by hr).by hu), V_by hp hp, V_by (hr.by hr) hu, V_by hr hr]
  have m1 := V_pos fm
  have m2 := V_neg fm
  have p1 := V_pos hp
  have p2 := V_neg hp
  have r1 := V_pos hr
  have r2 := V_neg hr
  have q1 := V_pos hu
  rw [em] at m1 m2
  have sg : ∀ {i : Int}, (0 < i → i.sign = 1) ∧ (i < 0 → i.sign = -1) ∧ (i = 0 → i.sign = 0) := fun {i} => ⟨Int.sign_eq_one_of_pos, Int.sign_eq_neg_one_of_neg, fun h => by rw [h]; rfl⟩
  have sp := @sg p.1
  have sr := @sg r.1
  have sm := @sg (minusQ (byQ p p) (byQ (byQ r r) u)).1
  unfold sotQ
  generalize (minusQ (byQ p p) (byQ (byQ r r) u)).1 = m at *
  by_cases hu0 : 0 < u.1
  · rw [if_pos hu0]
    constructor
    · rintro (⟨n, h⟩ | ⟨n, h⟩)
      · have em := sm.1 (m1.mp n)
        have ep := sp.1 (p1.mp h)
        rw [em, ep]
        split
        · rfl
        · rfl
      · have em := sm.2.1 (m2.mp n)
        have er := sr.1 (r1.mp h)
        rw [em, er]
        rcases Int.lt_trichotomy p.1 0 with z | z | z
        · rw [sp.2.1 z]; decide
        · rw [sp.2.2 z]; decide
        · rw [sp.1 z]; decide
    · rintro (⟨n, h⟩ | ⟨n, h⟩)
      · have em := sm.1 (m1.mp (by grind))
        have ep := sp.2.1 (p2.mp (by grind))
        rw [em, ep]
        split
        · rfl
        · rfl
      · have em := sm.2.1 (m2.mp (by grind))
        have er := sr.2.1 (r2.mp (by grind))
        rw [em, er]
        rcases Int.lt_trichotomy p.1 0 with z | z | z
        · rw [sp.2.1 z]; decide
        · rw [sp.2.2 z]; decide
        · rw [sp.1 z]; decide
  · have z : V u = 0 := by
      have : ¬ 0 < V u := fun z => hu0 (q1.mp z)
      grind
    rw [z]
    rw [if_neg hu0, if_pos (.inr rfl)]
    have s := q_sq (V p)
    constructor
    · rintro (⟨n, h⟩ | ⟨n, h⟩)
      · exact sp.1 (p1.mp h)
      · grind
    · rintro (⟨n, h⟩ | ⟨n, h⟩)
      · exact sp.2.1 (p2.mp (by grind))
      · grind
theorem sot_one (u0 : 0 ≤ V u) (h : Pos (V u) (V p) (V r)) : sotQ p r u = 1 := (sot_abs hp hr hu u0).1 h
theorem sot_neg (u0 : 0 ≤ V u) (h : Pos (V u) (-V p) (-V r)) : sotQ p r u = -1 := (sot_abs hp hr hu u0).2 h
end
/-- at most R -/
def Up (x : Nm) (R : Rat) : Prop := ∃ A : Rat, 0 ≤ A ∧ V x.p + x.g * A ≤ R ∧ (x.g = 1 → V x.u ≤ A * A) ∧ (x.g = -1 → A * A ≤ V x.u)
/-- at least R -/
def Lo (x : Nm) (R : Rat) : Prop := ∃ A : Rat, 0 ≤ A ∧ R ≤ V x.p + x.g * A ∧ (x.g = 1 → A * A ≤ V x.u) ∧ (x.g = -1 → V x.u ≤ A * A)
section
variable {k l : Nat} {x : Nm} (hx : NmOk k l x)
include hx
theorem NmOk.uv : 0 ≤ V x.u := by
  rcases hx.g with ⟨_, e⟩ | ⟨_, h, _⟩
  · rw [e, V01]; decide
  · have := (V_pos hx.u).mpr h; grind
theorem NmOk.ns : (∀ q : Rat, q * q ≠ V x.u) ∨ (x.g : Rat) = 0 := by
  rcases hx.g with ⟨e, _⟩ | ⟨_, _, h⟩
  · right; rw [e]; rfl
  · exact .inl (no_sq hx.u h)
theorem NmOk.g3 : x.g = 1 ∨ x.g = 0 ∨ x.g = -1 := by
  rcases hx.g with ⟨e, _⟩ | ⟨h, _⟩
  · exact .inr (.inl e)
  · exact h.elim .inl fun h => .inr (.inr h)
end
theorem g_neg {g : Int} (h : (g : Rat) = -1) : g = -1 := by
  have : (g : Rat) = ((-1 : Int) : Rat) := by rw [h]; rfl
  exact Rat.intCast_inj.mp this
theorem V_int (g : Int) : V (g, 1) = (g : Rat) := by unfold V; show (g : Rat) / ((1 : Int) : Rat) = _; grind
/-- what less says, of a part and a root -/
theorem less_cases {k l : Nat} {x y : Nm} (hx : NmOk k l x) (hy : NmOk k l y) :
    (Pos (V x.u) (V x.p - V y.p) x.g → (y.g ≠ 1 → lessQ x y = false) ∧
      (y.g = 1 → (Pos (V x.u) ((V x.p - V y.p) * (V x.p - V y.p) + x.g * x.g * V x.u - V y.u) (2 * x.g * (V x.p - V y.p)) → lessQ x y = false) ∧
        (Pos (V x.u) (-((V x.p - V y.p) * (V x.p - V y.p) + x.g * x.g * V x.u - V y.u)) (-(2 * x.g * (V x.p - V y.p))) → lessQ x y = true))) ∧
    (Pos (V x.u) (-(V x.p - V y.p)) (-x.g) → (y.g ≠ -1 → lessQ x y = true) ∧
      (y.g = -1 → (Pos (V x.u) ((V x.p - V y.p) * (V x.p - V y.p) + x.g * x.g * V x.u - V y.u) (2 * x.g * (V x.p - V y.p)) → lessQ x y = true) ∧
        (Pos (V x.u) (-((V x.p - V y.p) * (V x.p - V y.p) + x.g * x.g * V x.u - V y.u)) (-(2 * x.g * (V x.p - V y.p))) → lessQ x y = false))) ∧
    (V x.p - V y.p = 0 → x.g = 0 → lessQ x y = decide (0 < y.g)) := by
  have u0 := hx.uv
  have ft := hx.p.minus hy.p
  have et := V_minus hx.p hy.p
  have gx := hx.g3
  have gy := hy.g3
  have g1 : Fr 1 (x.g, 1) := frs1 (by rcases gx with h | h | h <;> rw [h] <;> decide)
  have g2 : Fr 2 (x.g * x.g, 1) := by rcases gx with h | h | h <;> rw [h] <;> exact ⟨by unfold Sm; decide, by unfold Sm; decide, by decide, by decide⟩
  have g3 : Fr 3 (2 * x.g, 1) := by rcases gx with h | h | h <;> rw [h] <;> exact ⟨by unfold Sm; decide, by unfold Sm; decide, by decide, by decide⟩
  have fs := ((ft.by ft).plus (g2.by hx.u)).minus hy.u
  have es : V (minusQ (plusQ (byQ (minusQ x.p y.p) (minusQ x.p y.p)) (byQ (x.g * x.g, 1) x.u)) y.u) = (V x.p - V y.p) * (V x.p - V y.p) + x.g * x.g * V x.u - V y.u := by
    rw [V_minus ((ft.by ft).plus (g2.by hx.u)) hy.u, V_plus (ft.by ft) (g2.by hx.u), V_by ft ft, V_by g2 hx.u, V_int, et]; push_cast; rfl
  have fd := g3.by ft
  have ed : V (byQ (2 * x.g, 1) (minusQ x.p y.p)) = 2 * x.g * (V x.p - V y.p) := by
    rw [V_by g3 ft, V_int, et]; push_cast; rfl
  have l1 := sot_abs ft g1 hx.u u0
  have l2 := sot_abs fs fd hx.u u0
  rw [V_int, et] at l1
  rw [es, ed] at l2
  have l0 : V x.p - V y.p = 0 → x.g = 0 → sotQ (minusQ x.p y.p) (x.g, 1) x.u = 0 := fun h1 h2 => by
    rw [V_0 ft (by rw [et, h1]), h2]
    unfold sotQ
    split <;> rfl
  unfold lessQ
  dsimp only
  generalize sotQ (minusQ x.p y.p) (x.g, 1) x.u = a at *
  generalize sotQ (minusQ (plusQ (byQ (minusQ x.p y.p) (minusQ x.p y.p)) (byQ (x.g * x.g, 1) x.u)) y.u) (byQ (2 * x.g, 1) (minusQ x.p y.p)) x.u = b at *
  refine ⟨?_, ?_, fun h1 h2 => by rw [l0 h1 h2, if_pos (.inr rfl)]⟩
  · intro h
    rw [l1.1 h]
    refine ⟨fun ny => ?_, fun ey => ⟨fun h => ?_, fun h => ?_⟩⟩
    · rw [if_pos (.inl fun z => ny z.symm)]
      rcases gy with e | e | e
      · exact absurd e ny
      · rw [e]; rfl
      · rw [e]; rfl
    · rw [ey, l2.1 h]; decide
    · rw [ey, l2.2 h]; decide
  · intro h
    rw [l1.2 h]
    refine ⟨fun ny => ?_, fun ey => ⟨fun h => ?_, fun h => ?_⟩⟩
    · rw [if_pos (.inl fun z => ny z.symm)]
      rcases gy with e | e | e
      · rw [e]; rfl
      · rw [e]; rfl
      · exact absurd e ny
    · rw [ey, l2.1 h]; decide
    · rw [ey, l2.2 h]; decide
/-- what lies between parts them -/
theorem less_parted {k l : Nat} {x y : Nm} {R R' : Rat} (hx : NmOk k l x) (hy : NmOk k l y) (h1 : Up x R) (h2 : Lo y R') (hR : R < R') : lessQ x y = true ∧ lessQ y x = false := by
  obtain ⟨A, A0, a1, a2, a3⟩ := h1
  obtain ⟨B, B0, b1, b2, b3⟩ := h2
  have hxs : (x.g : Rat) = 1 ∨ (x.g : Rat) = 0 ∨ (x.g : Rat) = -1 := by rcases hx.g3 with h | h | h <;> rw [h] <;> decide
  have hys : (y.g : Rat) = 1 ∨ (y.g : Rat) = 0 ∨ (y.g : Rat) = -1 := by rcases hy.g3 with h | h | h <;> rw [h] <;> decide
  constructor
  · obtain ⟨c1, c2, c0⟩ := less_cases hx hy
    have z1 := up_pos (u := V x.u) (d := V x.p - V y.p) (s := x.g) (A := A) (R := R - V y.p) (R' := R' - V y.p) hx.uv hx.ns hxs A0 (by grind) (fun h => a2 (by exact_mod_cast h)) (fun h => a3 (g_neg h)) (by grind)
    rcases hy.g3 with e | e | e
    · rcases Pos.tri (p := V x.p - V y.p) (r := x.g) hx.uv hx.ns with t | t | ⟨t1, t2⟩
      · refine ((c1 t).2 e).2 (A_pos hx.uv hx.ns z1 B0 (by rw [e] at b1; grind) (b2 e) t)
      · exact (c2 t).1 (by rw [e]; decide)
      · rw [c0 t1 (by exact_mod_cast t2), e]; rfl
    · exact (c2 (A_neg hx.uv hx.ns z1 (by rw [e] at b1; grind))).1 (by rw [e]; decide)
    · exact ((c2 (A_neg hx.uv hx.ns z1 (by rw [e] at b1; grind))).2 e).1 (A_neg2 hx.uv hx.ns z1 B0 (by rw [e] at b1; grind) (b3 e))
  · obtain ⟨c1, c2, c0⟩ := less_cases hy hx
    have z1 := up_pos (u := V y.u) (d := V x.p - V y.p) (s := -(y.g : Rat)) (A := B) (R := -(R' - V x.p)) (R' := -(R - V x.p)) hy.uv (hy.ns.imp id fun h => by rw [h]; rfl) (by rcases hys with h | h | h <;> rw [h] <;> decide) B0 (by grind)
      (fun h => b3 (g_neg (by grind))) (fun h => b2 (by
        have : (y.g : Rat) = 1 := by grind
        exact_mod_cast this)) (by grind)
    have z1 : Pos (V y.u) ((V y.p - V x.p) - (R - V x.p)) y.g := z1.cg (by grind) (by grind)
    rcases hx.g3 with e | e | e
    · exact ((c1 (B_pos hy.uv hy.ns z1 (by rw [e] at a1; grind))).2 e).1 (B_pos2 hy.uv hy.ns z1 A0 (by rw [e] at a1; grind) (a2 e))
    · exact (c1 (B_pos hy.uv hy.ns z1 (by rw [e] at a1; grind))).1 (by rw [e]; decide)
    · rcases Pos.tri (p := V y.p - V x.p) (r := y.g) hy.uv hy.ns with t | t | ⟨t1, t2⟩
      · exact (c1 t).1 (by rw [e]; decide)
      · exact ((c2 t).2 e).2 (B_neg hy.uv hy.ns z1 A0 (by rw [e] at a1; grind) (a3 e) t)
      · rw [c0 t1 (by exact_mod_cast t2), e]; rfl
end Dn

end
section
set_option Elab.async false
set_option maxRecDepth 100000
set_option maxHeartbeats 400000
set_option linter.unusedVariables false
set_option exponentiation.threshold 20000
/-! Pw3: cut between whole numbers -/
namespace Dn
open PySem
local macro_rules | `(tactic| array_get_dec) => `(tactic| simp only [w_tryl, cf_low2, cf_low1, s_cons, s_nil, s_set, s_par, s_par3, s_ex, s_ret, s_retn, s_ite, s_rai, s_tryo, s_pas, s_brk, s_cnt, s_aug, t_nm, t_tup, t_sub, t_nil, t_cons, w_var, w_cst, w_top, w_bin, w_neg, w_cmp, w_cmp2, w_nt, w_and, w_or, w_ife, w_tup, w_rol, w_lst, w_ix, w_sl, w_call, w_prim, w_app, w_ins, w_bits, w_join, w_frz, w_nil, w_cons, w_no, w_so, c_no, c_so,
  okX_ok, isB_bl, br_true, br_false, o_add, o_sub, o_mul, o_fdiv, o_mod, o_pow, o_shl, o_cat, o_strs, o_rols, o_neg, o_lt, o_le, o_gt, o_ge, o_is, o_isn, o_eq, o_ne, o_in, o_nin, o_t0, o_t1, o_t2, o_t3, o_sl, o_slr, o_len, o_lenr, o_abs, o_int, o_intb, o_tupr, o_tupt, o_listt, o_listr, o_listm, o_isi, o_frzr, cf_self, eq_int, okS_then,
  List.getElem?_cons_zero, List.getElem?_cons_succ, List.set_cons_zero, List.set_cons_succ, List.length_cons, List.length_nil, Option.some.injEq, exists_eq_left', exists_eq_left, D.int.injEq, D.bl.injEq, D.tup.injEq, and_true, true_and, Nat.zero_add, Nat.reduceAdd, Nat.reduceLT, Nat.lt_irrefl, tysD, tyD, Bool.not_true, Bool.not_false])
variable {F n : Nat} {s : Sto} {Q : D → Sto → Prop} {X : Nat → Sto → Prop}
/-- whole numbers about a number times a scale -/
def ptI (x : Nm) (M : Int) : Int := x.p.1 * M / x.p.2
def rtN (x : Nm) (M : Int) : Nat := isq (x.u.1 * M * M / x.u.2).toNat
def loI (x : Nm) (M : Int) : Int := if x.g = 0 then ptI x M else if 0 < x.g then ptI x M + rtN x M else ptI x M - rtN x M - 1
def hiI (x : Nm) (M : Int) : Int := if x.g = 0 then ptI x M + 1 else if 0 < x.g then ptI x M + rtN x M + 2 else ptI x M - rtN x M + 1
theorem V_mul2 {k : Nat} {x : Int × Int} (hx : Fr k x) : V x * x.2 = x.1 := by
  unfold V
  have := hx.q
  grind
theorem q_cancel {a b c : Rat} (hc : 0 < c) (h : a * c ≤ b * c) : a ≤ b := by
  by_cases z : a ≤ b
  · exact z
  · have := q_mul (show 0 < a - b by grind) hc; grind
theorem q_cancel' {a b c : Rat} (hc : 0 < c) (h : a * c < b * c) : a < b := by
  by_cases z : a < b
  · exact z
  · have := q_mul0 (show 0 ≤ a - b by grind) (show 0 ≤ c by grind); grind
section
variable {k l : Nat} {x : Nm} {M : Int} (hx : NmOk k l x) (hM : 0 < M)
include hx hM
theorem pt_at : (ptI x M : Rat) ≤ V x.p * M ∧ V x.p * M ≤ (ptI x M : Rat) + 1 := by
  have p2 := hx.p.p
  have h1 : x.p.1 * M / x.p.2 * x.p.2 ≤ x.p.1 * M := Int.ediv_mul_le _ (by omega)
  have h2 : x.p.1 * M < (x.p.1 * M / x.p.2 + 1) * x.p.2 := Int.lt_ediv_add_one_mul_self _ p2
  unfold ptI
  generalize x.p.1 * M / x.p.2 = t at *
  have v := V_mul2 hx.p
  have p2' : (0 : Rat) < x.p.2 := by exact_mod_cast p2
  have h1' : (t : Rat) * x.p.2 ≤ x.p.1 * M := by exact_mod_cast h1
  have h2' : (x.p.1 : Rat) * M < (t + 1) * x.p.2 := by exact_mod_cast h2
  constructor
  · refine q_cancel p2' ?_
    grind
  · refine q_cancel p2' ?_
    grind
theorem rt_at : (rtN x M : Rat) * rtN x M ≤ V x.u * (M * M) ∧ V x.u * (M * M) ≤ ((rtN x M : Rat) + 1) * (rtN x M + 1) := by
  have p2 := hx.u.p
  have u0 : 0 ≤ x.u.1 := by
    rcases hx.g with ⟨_, e⟩ | ⟨_, h, _⟩
    · rw [e]; decide
    · omega
  have h1 : x.u.1 * M * M / x.u.2 * x.u.2 ≤ x.u.1 * M * M := Int.ediv_mul_le _ (by omega)
  have h2 : x.u.1 * M * M < (x.u.1 * M * M / x.u.2 + 1) * x.u.2 := Int.lt_ediv_add_one_mul_self _ p2
  have h0 : 0 ≤ x.u.1 * M * M / x.u.2 := Int.ediv_nonneg (Int.mul_nonneg (Int.mul_nonneg u0 (by omega)) (by omega)) (by omega)
  unfold rtN
  obtain ⟨s1, s2⟩ := isq_spec (x.u.1 * M * M / x.u.2).toNat
  generalize isq (x.u.1 * M * M / x.u.2).toNat = r at *
  generalize x.u.1 * M * M / x.u.2 = t at *
  obtain ⟨m, rfl⟩ : ∃ m : Nat, t = m := ⟨t.toNat, by omega⟩
  rw [Int.toNat_natCast] at s1 s2
  have v := V_mul2 hx.u
  have p2' : (0 : Rat) < x.u.2 := by exact_mod_cast p2
  have h1' : (m : Rat) * x.u.2 ≤ x.u.1 * M * M := by exact_mod_cast h1
  have h2' : (x.u.1 : Rat) * M * M < (m + 1) * x.u.2 := by exact_mod_cast h2
  have s1' : (r : Rat) * r ≤ m := by exact_mod_cast s1
  have s2' : (m : Rat) + 1 ≤ (r + 1) * (r + 1) := by exact_mod_cast s2
  have a1 := q_mul0 (show 0 ≤ (m : Rat) - r * r by grind) (show 0 ≤ (x.u.2 : Rat) by grind)
  have a2 := q_mul0 (show 0 ≤ ((r : Rat) + 1) * (r + 1) - (m + 1) by grind) (show 0 ≤ (x.u.2 : Rat) by grind)
  constructor
  · refine q_cancel p2' ?_
    grind
  · refine q_cancel p2' ?_
    grind
theorem cut_sq : (rtN x M : Rat) / M * (rtN x M / M) ≤ V x.u ∧ V x.u ≤ ((rtN x M : Rat) + 1) / M * ((rtN x M + 1) / M) := by
  obtain ⟨r1, r2⟩ := rt_at hx hM
  have m0 : (0 : Rat) < M := by exact_mod_cast hM
  have mm := q_mul m0 m0
  have e1 : (rtN x M : Rat) / M * (rtN x M / M) * (M * M) = rtN x M * rtN x M := by grind
  have e2 : ((rtN x M : Rat) + 1) / M * ((rtN x M + 1) / M) * (M * M) = (rtN x M + 1) * (rtN x M + 1) := by grind
  exact ⟨q_cancel mm (by rw [e1]; exact r1), q_cancel mm (by rw [e2]; exact r2)⟩
theorem hi_up : Up x (hiI x M / M) := by
  obtain ⟨p1, p2⟩ := pt_at hx hM
  obtain ⟨c1, c2⟩ := cut_sq hx hM
  have m0 : (0 : Rat) < M := by exact_mod_cast hM
  have r0 : (0 : Rat) ≤ rtN x M := by exact_mod_cast Nat.zero_le _
  have d0 : ∀ a : Rat, 0 ≤ a → 0 ≤ a / M := fun a h => by
    refine q_cancel m0 ?_
    have : a / M * M = a := by grind
    grind
  rcases hx.g3 with e | e | e
  · refine ⟨(rtN x M + 1) / M, d0 _ (by grind), q_cancel m0 ?_, fun _ => c2, fun z => absurd (e.symm.trans z) (by decide)⟩
    have e1 : ((rtN x M : Rat) + 1) / M * M = rtN x M + 1 := by grind
    have e2 : (hiI x M : Rat) / M * M = hiI x M := by grind
    have e3 : (hiI x M : Rat) = ptI x M + rtN x M + 2 := by unfold hiI; rw [e]; simp [Rat.intCast_natCast]
    rw [e2, e3, e]
    have : ((1 : Int) : Rat) = 1 := rfl
    grind
  · refine ⟨0, by decide, q_cancel m0 ?_, fun z => absurd (e.symm.trans z) (by decide), fun z => absurd (e.symm.trans z) (by decide)⟩
    have e2 : (hiI x M : Rat) / M * M = hiI x M := by grind
    have e3 : (hiI x M : Rat) = ptI x M + 1 := by unfold hiI; rw [e]; simp [Rat.intCast_natCast]
    rw [e2, e3]
    grind
  · refine ⟨rtN x M / M, d0 _ r0, q_cancel m0 ?_, fun z => absurd (e.symm.trans z) (by decide), fun _ => c1⟩
    have e1 : (rtN x M : Rat) / M * M = rtN x M := by grind
    have e2 : (hiI x M : Rat) / M * M = hiI x M := by grind
    have e3 : (hiI x M : Rat) = ptI x M - rtN x M + 1 := by unfold hiI; rw [e]; simp [Rat.intCast_natCast]
    rw [e2, e3, e]
    have : ((-1 : Int) : Rat) = -1 := rfl
    grind
theorem lo_lo : Lo x (loI x M / M) := by
  obtain ⟨p1, p2⟩ := pt_at hx hM
  obtain ⟨c1, c2⟩ := cut_sq hx hM
  have m0 : (0 : Rat) < M := by exact_mod_cast hM
  have r0 : (0 : Rat) ≤ rtN x M := by exact_mod_cast Nat.zero_le _
  have d0 : ∀ a : Rat, 0 ≤ a → 0 ≤ a / M := fun a h => by
    refine q_cancel m0 ?_
    have : a / M * M = a := by grind
    grind
  rcases hx.g3 with e | e | e
  · refine ⟨rtN x M / M, d0 _ r0, q_cancel m0 ?_, fun _ => c1, fun z => absurd (e.symm.trans z) (by decide)⟩
    have e1 : (rtN x M : Rat) / M * M = rtN x M := by grind
    have e2 : (loI x M : Rat) / M * M = loI x M := by grind
    have e3 : (loI x M : Rat) = ptI x M + rtN x M := by unfold loI; rw [e]; simp [Rat.intCast_natCast]
    rw [e2, e3, e]
    have : ((1 : Int) : Rat) = 1 := rfl
    grind
  · refine ⟨0, by decide, q_cancel m0 ?_, fun z => absurd (e.symm.trans z) (by decide), fun z => absurd (e.symm.trans z) (by decide)⟩
    have e2 : (loI x M : Rat) / M * M = loI x M := by grind
    have e3 : (loI x M : Rat) = ptI x M := by unfold loI; rw [e]; simp [Rat.intCast_natCast]
    rw [e2, e3]
    grind
  · refine ⟨(rtN x M + 1) / M, d0 _ (by grind), q_cancel m0 ?_, fun z => absurd (e.symm.trans z) (by decide), fun _ => c2⟩
    have e1 : ((rtN x M : Rat) + 1) / M * M = rtN x M + 1 := by grind
    have e2 : (loI x M : Rat) / M * M = loI x M := by grind
    have e3 : (loI x M : Rat) = ptI x M - rtN x M - 1 := by unfold loI; rw [e]; simp [Rat.intCast_natCast]
    rw [e2, e3, e]
    have : ((-1 : Int) : Rat) = -1 := rfl
    grind
end
/-- parted intervals tell -/
theorem parted {k l : Nat} {x y : Nm} {M : Int} (hx : NmOk k l x) (hy : NmOk k l y) (hM : 0 < M) (h : hiI x M < loI y M) : lessQ x y = true ∧ lessQ y x = false := by
  refine less_parted hx hy (hi_up hx hM) (lo_lo hy hM) ?_
  have m0 : (0 : Rat) < M := by exact_mod_cast hM
  refine q_cancel' m0 ?_
  have e1 : (hiI x M : Rat) / M * M = hiI x M := by grind
  have e2 : (loI y M : Rat) / M * M = loI y M := by grind
  rw [e1, e2]
  exact_mod_cast h
end Dn

end
section
set_option Elab.async false
set_option maxRecDepth 100000
set_option maxHeartbeats 400000
set_option linter.unusedVariables false
set_option exponentiation.threshold 20000
/-! Pw4: bounds of what is cut -/
namespace Dn
open PySem
local macro_rules | `(tactic| array_get_dec) => `(tactic| simp only [w_tryl, cf_low2, cf_low1, s_cons, s_nil, s_set, s_par, s_par3, s_ex, s_ret, s_retn, s_ite, s_rai, s_tryo, s_pas, s_brk, s_cnt, s_aug, t_nm, t_tup, t_sub, t_nil, t_cons, w_var, w_cst, w_top, w_bin, w_neg, w_cmp, w_cmp2, w_nt, w_and, w_or, w_ife, w_tup, w_rol, w_lst, w_ix, w_sl, w_call, w_prim, w_app, w_ins, w_bits, w_join, w_frz, w_nil, w_cons, w_no, w_so, c_no, c_so,
  okX_ok, isB_bl, br_true, br_false, o_add, o_sub, o_mul, o_fdiv, o_mod, o_pow, o_shl, o_cat, o_strs, o_rols, o_neg, o_lt, o_le, o_gt, o_ge, o_is, o_isn, o_eq, o_ne, o_in, o_nin, o_t0, o_t1, o_t2, o_t3, o_sl, o_slr, o_len, o_lenr, o_abs, o_int, o_intb, o_tupr, o_tupt, o_listt, o_listr, o_listm, o_isi, o_frzr, cf_self, eq_int, okS_then,
  List.getElem?_cons_zero, List.getElem?_cons_succ, List.set_cons_zero, List.set_cons_succ, List.length_cons, List.length_nil, Option.some.injEq, exists_eq_left', exists_eq_left, D.int.injEq, D.bl.injEq, D.tup.injEq, and_true, true_and, Nat.zero_add, Nat.reduceAdd, Nat.reduceLT, Nat.lt_irrefl, tysD, tyD, Bool.not_true, Bool.not_false])
variable {F n : Nat} {s : Sto} {Q : D → Sto → Prop} {X : Nat → Sto → Prop}
theorem V_le {k : Nat} {x : Int × Int} (hx : Fr k x) : -((2 : Rat) ^ k) ≤ V x ∧ V x ≤ (2 : Rat) ^ k := by
  have p2 := hx.p
  have v := V_mul2 hx
  have p2' : (1 : Rat) ≤ x.2 := by exact_mod_cast (show 1 ≤ x.2 by omega)
  have a := hx.a
  unfold Sm at a
  have a1 : x.1 ≤ ((2 ^ k : Nat) : Int) := by omega
  have a2 : -((2 ^ k : Nat) : Int) ≤ x.1 := by omega
  have a1' : (x.1 : Rat) ≤ ((2 ^ k : Nat) : Rat) := by exact_mod_cast a1
  have a2' : -((2 ^ k : Nat) : Rat) ≤ (x.1 : Rat) := by
    have := Rat.intCast_le_intCast.mpr a2
    rw [Rat.intCast_neg, Rat.intCast_natCast] at this
    exact this
  have e : ((2 ^ k : Nat) : Rat) = (2 : Rat) ^ k := by push_cast; rfl
  rw [e] at a1' a2'
  have t0 : (0 : Rat) ≤ 2 ^ k := by rw [← e]; exact_mod_cast Nat.zero_le _
  generalize (2 : Rat) ^ k = T at *
  have m := q_mul0 t0 (show 0 ≤ (x.2 : Rat) - 1 by grind)
  exact ⟨q_cancel (show (0 : Rat) < x.2 by grind) (by grind), q_cancel (show (0 : Rat) < x.2 by grind) (by grind)⟩
theorem V_ge {k : Nat} {x : Int × Int} (hx : Fr k x) (h : 0 < x.1) : 1 ≤ V x * (2 : Rat) ^ k := by
  have p2 := hx.p
  have v := V_mul2 hx
  have p2' : (0 : Rat) < x.2 := by exact_mod_cast p2
  have x1 : (1 : Rat) ≤ x.1 := by exact_mod_cast (show 1 ≤ x.1 by omega)
  have b := hx.b
  unfold Sm at b
  have b1 : x.2 ≤ ((2 ^ k : Nat) : Int) := by omega
  have b1' : (x.2 : Rat) ≤ ((2 ^ k : Nat) : Rat) := by exact_mod_cast b1
  have e : ((2 ^ k : Nat) : Rat) = (2 : Rat) ^ k := by push_cast; rfl
  rw [e] at b1'
  generalize (2 : Rat) ^ k = T at *
  have vp := (V_pos hx).mpr h
  have := q_mul0 (show 0 ≤ V x by grind) (show 0 ≤ T - (x.2 : Rat) by grind)
  grind
section
variable {k l : Nat} {x : Nm} {M : Int} {T : Rat} (hx : NmOk k k x) (hM : 0 < M) (hT : T = (2 : Rat) ^ k)
include hx hM hT
/-- a root, cut off -/
theorem cut_ok (M1 : (1 : Rat) ≤ M) (T1 : 1 ≤ T) : ∃ a : Rat, a = x.g * (rtN x M / M) ∧ a * a ≤ V x.u ∧ V x.u ≤ a * a + 3 * (4 * T) * (1 / M) ∧ -(4 * T) ≤ a ∧ a ≤ 4 * T ∧
    (loI x M : Rat) ≤ (V x.p + a) * M ∧ (V x.p + a) * M ≤ loI x M + 2 ∧ hiI x M ≤ loI x M + 2 := by
  obtain ⟨p1, p2⟩ := pt_at hx hM
  obtain ⟨c1, c2⟩ := cut_sq hx hM
  have m0 : (0 : Rat) < M := by exact_mod_cast hM
  have r0 : (0 : Rat) ≤ rtN x M := by exact_mod_cast Nat.zero_le _
  have q0 : 0 ≤ (rtN x M : Rat) / M := by
    refine q_cancel m0 ?_
    have : (rtN x M : Rat) / M * M = rtN x M := by grind
    grind
  have ub := (V_le hx.u).2
  rw [← hT] at ub
  have qT : (rtN x M : Rat) / M ≤ T := (q_le (a := (rtN x M : Rat) / M) (b := T) (by grind) (by
    have := q_mul0 (show 0 ≤ T by grind) (show 0 ≤ T - 1 by grind)
    grind)).1
  have im : (1 : Rat) / M * M = 1 := by grind
  have i0 : 0 ≤ (1 : Rat) / M := q_cancel m0 (by grind)
  have i1 : (1 : Rat) / M ≤ 1 := q_cancel m0 (by grind)
  have e1 : ((rtN x M : Rat) + 1) / M = rtN x M / M + 1 / M := by grind
  rw [e1] at c2
  have em : (rtN x M : Rat) / M * M = rtN x M := by grind
  have t3 := q_mul0 (show 0 ≤ T - (rtN x M : Rat) / M by grind) i0
  have t4 := q_mul0 i0 (show 0 ≤ 1 - (1 : Rat) / M by grind)
  have t5 := q_mul0 i0 (show 0 ≤ T - 1 by grind)
  refine ⟨_, rfl, ?_⟩
  rcases hx.g3 with e | e | e
  · have e3 : (loI x M : Rat) = ptI x M + rtN x M := by unfold loI; rw [e]; simp [Rat.intCast_natCast]
    have e4 : hiI x M = loI x M + 2 := by unfold hiI loI; rw [e]; simp
    have g1 : ((1 : Int) : Rat) = 1 := rfl
    rw [e3, e4, e, g1]
    refine ⟨by grind, ?_, by grind, by grind, by grind, by grind, Int.le_refl _⟩
    grind
  · have u0 : V x.u = 0 := by
      rcases hx.g with ⟨_, h⟩ | ⟨h | h, _⟩
      · rw [h, V01]
      · omega
      · omega
    have e3 : (loI x M : Rat) = ptI x M := by unfold loI; rw [e]; simp
    have e4 : hiI x M = loI x M + 1 := by unfold hiI loI; rw [e]; simp
    have g1 : ((0 : Int) : Rat) = 0 := rfl
    rw [e3, e4, e, g1]
    refine ⟨by grind, ?_, by grind, by grind, by grind, by grind, by omega⟩
    grind
  · have e3 : (loI x M : Rat) = ptI x M - rtN x M - 1 := by unfold loI; rw [e]; simp [Rat.intCast_natCast]
    have e4 : hiI x M = loI x M + 2 := by unfold hiI loI; rw [e]; simp; omega
    have g1 : ((-1 : Int) : Rat) = -1 := rfl
    rw [e3, e4, e, g1]
    refine ⟨by grind, ?_, by grind, by grind, by grind, by grind, Int.le_refl _⟩
    grind
end
/-- what is nought or not near nought -/
theorem nrm_int {pa pb qa qb ua ub wa wb : Int} {T R : Rat} (p0 : 0 < pb) (q0 : 0 < qb) (u0 : 0 < ub) (w0 : 0 < wb) (pT : (pb : Rat) ≤ T) (qT : (qb : Rat) ≤ T) (uT : (ub : Rat) ≤ T) (wT : (wb : Rat) ≤ T)
    (h1 : -R ≤ nrm ((pa : Rat) / pb - qa / qb) (ua / ub) (wa / wb)) (h2 : nrm ((pa : Rat) / pb - qa / qb) (ua / ub) (wa / wb) ≤ R) (hR : R * ((T * T * T * T) * (T * T * T * T) * (T * T * T * T)) < 1) :
    nrm ((pa : Rat) / pb - qa / qb) (ua / ub) (wa / wb) = 0 := by
  have a1 : (0 : Rat) < pb := by exact_mod_cast p0
  have a2 : (0 : Rat) < qb := by exact_mod_cast q0
  have a3 : (0 : Rat) < ub := by exact_mod_cast u0
  have a4 : (0 : Rat) < wb := by exact_mod_cast w0
  obtain ⟨m, hm⟩ : ∃ m : Rat, m = pb * qb := ⟨_, rfl⟩
  obtain ⟨v, hv⟩ : ∃ v : Rat, v = ub * wb := ⟨_, rfl⟩
  have m0 : 0 < m := by rw [hm]; exact q_mul a1 a2
  have v0 : 0 < v := by rw [hv]; exact q_mul a3 a4
  have mT : m ≤ T * T := by
    have s1 := q_mul0 (show 0 ≤ T - (pb : Rat) by grind) (show 0 ≤ (qb : Rat) by grind)
    have s2 := q_mul0 (show 0 ≤ T - (qb : Rat) by grind) (show 0 ≤ T by grind)
    grind
  have vT : v ≤ T * T := by
    have s1 := q_mul0 (show 0 ≤ T - (ub : Rat) by grind) (show 0 ≤ (wb : Rat) by grind)
    have s2 := q_mul0 (show 0 ≤ T - (wb : Rat) by grind) (show 0 ≤ T by grind)
    grind
  have sq : ∀ {a b : Rat}, 0 < a → a ≤ b → 0 < a * a ∧ a * a ≤ b * b := fun {a b} h h' => ⟨q_mul h h, by
    have := q_mul0 (show 0 ≤ b - a by grind) (show 0 ≤ b + a by grind); grind⟩
  have m2 := sq m0 mT
  have m4 := sq m2.1 m2.2
  have v2 := sq v0 vT
  obtain ⟨I, hI⟩ : ∃ I : Int, I = ((pa * qb - qa * pb) * (pa * qb - qa * pb) * (ub * wb) + (ua * wb - wa * ub) * ((pb * qb) * (pb * qb))) * ((pa * qb - qa * pb) * (pa * qb - qa * pb) * (ub * wb) + (ua * wb - wa * ub) * ((pb * qb) * (pb * qb))) - 4 * (pa * qb - qa * pb) * (pa * qb - qa * pb) * ((pb * qb) * (pb * qb)) * (ua * ub * (wb * wb)) := ⟨_, rfl⟩
  have eI : nrm ((pa : Rat) / pb - qa / qb) (ua / ub) (wa / wb) * (m * m * (m * m) * (v * v)) = I := by
    rw [hI, hm, hv]
    push_cast
    unfold nrm
    obtain ⟨P, hP⟩ : ∃ P : Rat, P = (pa : Rat) / pb := ⟨_, rfl⟩
    obtain ⟨Q', hQ⟩ : ∃ P : Rat, P = (qa : Rat) / qb := ⟨_, rfl⟩
    obtain ⟨U, hU⟩ : ∃ P : Rat, P = (ua : Rat) / ub := ⟨_, rfl⟩
    obtain ⟨W, hW⟩ : ∃ P : Rat, P = (wa : Rat) / wb := ⟨_, rfl⟩
    have b1 : (pa : Rat) = P * pb := by grind
    have b2 : (qa : Rat) = Q' * qb := by grind
    have b3 : (ua : Rat) = U * ub := by grind
    have b4 : (wa : Rat) = W * wb := by grind
    rw [← hP, ← hQ, ← hU, ← hW, b1, b2, b3, b4]
    clear hP hQ hU hW b1 b2 b3 b4 hI
    grind
  generalize nrm ((pa : Rat) / pb - qa / qb) (ua / ub) (wa / wb) = z at *
  have den0 : 0 < m * m * (m * m) * (v * v) := q_mul m4.1 v2.1
  have denT : m * m * (m * m) * (v * v) ≤ (T * T * T * T) * (T * T * T * T) * (T * T * T * T) := by
    have s1 := q_mul0 (show 0 ≤ T * T * (T * T) * (T * T * (T * T)) - m * m * (m * m) by grind) (show 0 ≤ v * v by grind)
    have s2 := q_mul0 (show 0 ≤ T * T * (T * T) - v * v by grind) (show 0 ≤ T * T * (T * T) * (T * T * (T * T)) by grind)
    grind
  have R0 : 0 ≤ R := by grind
  generalize m * m * (m * m) * (v * v) = den at *
  generalize (T * T * T * T) * (T * T * T * T) * (T * T * T * T) = E at *
  have s1 := q_mul0 R0 (show 0 ≤ E - den by grind)
  have s2 := q_mul0 (show 0 ≤ R - z by grind) (show 0 ≤ den by grind)
  have s3 := q_mul0 (show 0 ≤ R + z by grind) (show 0 ≤ den by grind)
  have i1 : (I : Rat) < 1 := by grind
  have i2 : (-1 : Rat) < I := by grind
  have i1 : I < 1 := by exact_mod_cast i1
  have i2 : (-1 : Int) < I := by
    have : (((-1 : Int)) : Rat) < I := i2
    exact Rat.intCast_lt_intCast.mp this
  have i0 : I = 0 := by omega
  rw [i0] at eI
  have : z * den = 0 := eI
  grind
end Dn

end
section
set_option Elab.async false
set_option maxRecDepth 100000
set_option maxHeartbeats 400000
set_option linter.unusedVariables false
set_option exponentiation.threshold 20000
/-! Pw5: unlike numbers part -/
namespace Dn
open PySem
local macro_rules | `(tactic| array_get_dec) => `(tactic| simp only [w_tryl, cf_low2, cf_low1, s_cons, s_nil, s_set, s_par, s_par3, s_ex, s_ret, s_retn, s_ite, s_rai, s_tryo, s_pas, s_brk, s_cnt, s_aug, t_nm, t_tup, t_sub, t_nil, t_cons, w_var, w_cst, w_top, w_bin, w_neg, w_cmp, w_cmp2, w_nt, w_and, w_or, w_ife, w_tup, w_rol, w_lst, w_ix, w_sl, w_call, w_prim, w_app, w_ins, w_bits, w_join, w_frz, w_nil, w_cons, w_no, w_so, c_no, c_so,
  okX_ok, isB_bl, br_true, br_false, o_add, o_sub, o_mul, o_fdiv, o_mod, o_pow, o_shl, o_cat, o_strs, o_rols, o_neg, o_lt, o_le, o_gt, o_ge, o_is, o_isn, o_eq, o_ne, o_in, o_nin, o_t0, o_t1, o_t2, o_t3, o_sl, o_slr, o_len, o_lenr, o_abs, o_int, o_intb, o_tupr, o_tupt, o_listt, o_listr, o_listm, o_isi, o_frzr, cf_self, eq_int, okS_then,
  List.getElem?_cons_zero, List.getElem?_cons_succ, List.set_cons_zero, List.set_cons_succ, List.length_cons, List.length_nil, Option.some.injEq, exists_eq_left', exists_eq_left, D.int.injEq, D.bl.injEq, D.tup.injEq, and_true, true_and, Nat.zero_add, Nat.reduceAdd, Nat.reduceLT, Nat.lt_irrefl, tysD, tyD, Bool.not_true, Bool.not_false])
variable {F n : Nat} {s : Sto} {Q : D → Sto → Prop} {X : Nat → Sto → Prop}
theorem gap_T {x y : Nm} {M : Int} {T : Rat} {k : Nat} (hx : NmOk k k x) (hy : NmOk k k y) (hT : T = (2 : Rat) ^ k) (T1 : 1 ≤ T) (hM : 0 < M) (big : 16384 * (T * T * T) * ((T * T * T * T) * (T * T * T * T) * (T * T * T * T)) < M)
    (h1 : ¬ hiI x M < loI y M) (h2 : ¬ hiI y M < loI x M) : x = y := by
  have m0 : (0 : Rat) < M := by exact_mod_cast hM
  have M1 : (1 : Rat) ≤ M := by exact_mod_cast (show 1 ≤ M by omega)
  obtain ⟨a, ea, a1, a2, a3, a4, a5, a6, a7⟩ := cut_ok hx hM hT M1 T1
  obtain ⟨b, eb, b1, b2, b3, b4, b5, b6, b7⟩ := cut_ok hy hM hT M1 T1
  have im : (1 : Rat) / M * M = 1 := by grind
  have i0 : 0 < (1 : Rat) / M := q_cancel' m0 (by grind)
  have i1 : (1 : Rat) / M ≤ 1 := q_cancel m0 (by grind)
  have l1 : loI y M ≤ loI x M + 2 := by omega
  have l2 : loI x M ≤ loI y M + 2 := by omega
  have l1 : (loI y M : Rat) ≤ loI x M + 2 := by exact_mod_cast l1
  have l2 : (loI x M : Rat) ≤ loI y M + 2 := by exact_mod_cast l2
  have vx := V_le hx.p
  have vy := V_le hy.p
  rw [← hT] at vx vy
  obtain ⟨ε, hε⟩ : ∃ ε : Rat, ε = 1 / M := ⟨_, rfl⟩
  rw [← hε] at a2 b2 im i0 i1
  have e1 : V x.p + a - (V y.p + b) ≤ 4 * ε := q_cancel m0 (by grind)
  have e2 : -(4 * ε) ≤ V x.p + a - (V y.p + b) := q_cancel m0 (by grind)
  obtain ⟨n1, n2⟩ := nrm_small (d := V x.p - V y.p) (a := a) (b := b) (U := V x.u) (W := V y.u) (D := 4 * T) (ε := ε) (by grind) (by grind) a3 a4 b3 b4 (by grind) i0 i1 (by grind) (by grind) a1 a2 b1 b2
  have den : ∀ {p : Int × Int}, Fr k p → (p.2 : Rat) ≤ T := fun {p} hp => by
    have b := hp.b
    unfold Sm at b
    have b1 : p.2 ≤ ((2 ^ k : Nat) : Int) := by omega
    have b1' : (p.2 : Rat) ≤ ((2 ^ k : Nat) : Rat) := by exact_mod_cast b1
    have e : ((2 ^ k : Nat) : Rat) = (2 : Rat) ^ k := by push_cast; rfl
    rw [hT, ← e]; exact b1'
  have z : nrm (V x.p - V y.p) (V x.u) (V y.u) = 0 := by
    refine nrm_int (T := T) (R := 256 * (4 * T * (4 * T) * (4 * T)) * ε) hx.p.p hy.p.p hx.u.p hy.u.p (den hx.p) (den hy.p) (den hx.u) (den hy.u) n1 n2 ?_
    refine q_cancel' m0 ?_
    have : 256 * (4 * T * (4 * T) * (4 * T)) * ε * ((T * T * T * T) * (T * T * T * T) * (T * T * T * T)) * M = 16384 * (T * T * T) * ((T * T * T * T) * (T * T * T * T) * (T * T * T * T)) * (ε * M) := by
      generalize (T * T * T * T) * (T * T * T * T) * (T * T * T * T) = E
      grind
    rw [this, im]
    generalize (T * T * T * T) * (T * T * T * T) * (T * T * T * T) = E at *
    grind
  have sq : ∀ {x : Nm}, NmOk k k x → (∀ q : Rat, q * q ≠ V x.u) ∨ V x.u = 0 := fun {x} h => by
    rcases h.g with ⟨_, e⟩ | ⟨_, _, e⟩
    · right; rw [e, V01]
    · exact .inl (no_sq h.u e)
  obtain ⟨d0, eU⟩ := nrm_zero z (sq hx) (sq hy)
  have ep : x.p = y.p := V_inj hx.p hy.p (by grind)
  have eu : x.u = y.u := V_inj hx.u hy.u eU
  have eg : x.g = y.g := by
    rcases hx.g with ⟨e, u0⟩ | ⟨g, u0, _⟩
    · rcases hy.g with ⟨e', _⟩ | ⟨g', u0', _⟩
      · rw [e, e']
      · rw [← eu, u0] at u0'; exact absurd u0' (by decide)
    · rcases hy.g with ⟨e', u0'⟩ | ⟨g', _, _⟩
      · rw [eu, u0'] at u0; exact absurd u0 (by decide)
      · by_cases ne : x.g = y.g
        · exact ne
        · exfalso
          have er : rtN x M = rtN y M := by unfold rtN; rw [eu]
          obtain ⟨s1, s2⟩ := cut_sq hx hM
          have ge := V_ge hx.u u0
          rw [← hT] at ge
          rw [← er] at eb
          have ab : a = x.g * (rtN x M / M) ∧ b = -(x.g * (rtN x M / M)) := by
            refine ⟨ea, ?_⟩
            have : y.g = -x.g := by omega
            rw [eb, this]
            push_cast
            grind
          obtain ⟨q, hq⟩ : ∃ q : Rat, q = (rtN x M : Rat) / M := ⟨_, rfl⟩
          have e1' : ((rtN x M : Rat) + 1) / M = q + ε := by rw [hq, hε]; grind
          rw [e1'] at s2
          rw [← hq] at s1 ab
          have qs : q ≤ 2 * ε := by
            have : a - b = 2 * (x.g * q) := by grind
            rcases g with g | g
            · have g1 : (x.g : Rat) = 1 := by rw [g]; rfl
              rw [g1] at this; grind
            · have g1 : (x.g : Rat) = -1 := by rw [g]; rfl
              rw [g1] at this; grind
          have q0 : 0 ≤ q := by
            have r0 : (0 : Rat) ≤ rtN x M := by exact_mod_cast Nat.zero_le _
            refine q_cancel m0 ?_
            have : q * M = rtN x M := by rw [hq]; grind
            grind
          have u9 : V x.u ≤ 9 * (ε * ε) := by
            have := q_mul0 (show 0 ≤ 3 * ε - (q + ε) by grind) (show 0 ≤ 3 * ε + (q + ε) by grind)
            grind
          -- 1 ≤ 9 ε ε T ≤ 9 ε T < 1
          have t1 := q_mul0 (show 0 ≤ 9 * (ε * ε) - V x.u by grind) (show 0 ≤ T by grind)
          have t2 := q_mul0 (show 0 ≤ 1 - ε by grind) (q_mul0 (show 0 ≤ ε by grind) (show 0 ≤ T by grind))
          have t3 : 1 ≤ 9 * (ε * T) := by grind
          have s1' : ∀ z : Rat, 1 ≤ z → 1 ≤ z * T := fun z hz => by
            have := q_mul0 (show 0 ≤ z - 1 by grind) (show 0 ≤ T - 1 by grind); grind
          have t4 : 1 ≤ T * T * T := s1' _ (s1' _ T1)
          have t5 : 1 ≤ T * T * T * T := s1' _ t4
          have s2' : ∀ z w : Rat, 1 ≤ z → 1 ≤ w → w ≤ z * w := fun z w hz hw => by
            have := q_mul0 (show 0 ≤ z - 1 by grind) (show 0 ≤ w by grind); grind
          have t6 : 1 ≤ (T * T * T * T) * (T * T * T * T) * (T * T * T * T) := by
            have := s2' _ _ t5 t5
            have := s2' _ _ (show 1 ≤ (T * T * T * T) * (T * T * T * T) by grind) t5
            grind
          have t7 := s2' _ _ t6 t4
          have t8 : T ≤ T * T * T := by
            have := s2' _ _ (show 1 ≤ T * T from s1' _ T1) T1; grind
          have t9 : 9 * T < M := by
            generalize (T * T * T * T) * (T * T * T * T) * (T * T * T * T) = E at *
            grind
          have t10 := q_mul0 (show 0 ≤ 9 * (ε * T) - 1 by grind) (show 0 ≤ (M : Rat) by grind)
          have t11 : ε * T * M = T := by grind
          grind
  obtain ⟨p, g, u⟩ := x
  obtain ⟨p', g', u'⟩ := y
  dsimp only at ep eu eg
  rw [ep, eu, eg]
/-- unlike numbers part -/
theorem gap {x y : Nm} {M : Int} (hx : NmOk 100 100 x) (hy : NmOk 100 100 y) (hM : 2 ^ 1520 ≤ M) (h1 : ¬ hiI x M < loI y M) (h2 : ¬ hiI y M < loI x M) : x = y := by
  refine gap_T (T := (2 : Rat) ^ 100) hx hy rfl (by decide +kernel) (Int.lt_of_lt_of_le (by decide +kernel) hM) ?_ h1 h2
  have : ((2 ^ 1520 : Int) : Rat) ≤ M := by exact_mod_cast hM
  have e : 16384 * ((2 : Rat) ^ 100 * (2 : Rat) ^ 100 * (2 : Rat) ^ 100) * (((2 : Rat) ^ 100 * (2 : Rat) ^ 100 * (2 : Rat) ^ 100 * (2 : Rat) ^ 100) * ((2 : Rat) ^ 100 * (2 : Rat) ^ 100 * (2 : Rat) ^ 100 * (2 : Rat) ^ 100) * ((2 : Rat) ^ 100 * (2 : Rat) ^ 100 * (2 : Rat) ^ 100 * (2 : Rat) ^ 100)) < ((2 ^ 1520 : Int) : Rat) := by decide +kernel
  grind
end Dn

end
section
set_option Elab.async false
set_option maxRecDepth 100000
set_option maxHeartbeats 400000
set_option linter.unusedVariables false
set_option exponentiation.threshold 20000
/-! Pw6: between two whole numbers -/
namespace Dn
open PySem
local macro_rules | `(tactic| array_get_dec) => `(tactic| simp only [w_tryl, cf_low2, cf_low1, s_cons, s_nil, s_set, s_par, s_par3, s_ex, s_ret, s_retn, s_ite, s_rai, s_tryo, s_pas, s_brk, s_cnt, s_aug, t_nm, t_tup, t_sub, t_nil, t_cons, w_var, w_cst, w_top, w_bin, w_neg, w_cmp, w_cmp2, w_nt, w_and, w_or, w_ife, w_tup, w_rol, w_lst, w_ix, w_sl, w_call, w_prim, w_app, w_ins, w_bits, w_join, w_frz, w_nil, w_cons, w_no, w_so, c_no, c_so,
  okX_ok, isB_bl, br_true, br_false, o_add, o_sub, o_mul, o_fdiv, o_mod, o_pow, o_shl, o_cat, o_strs, o_rols, o_neg, o_lt, o_le, o_gt, o_ge, o_is, o_isn, o_eq, o_ne, o_in, o_nin, o_t0, o_t1, o_t2, o_t3, o_sl, o_slr, o_len, o_lenr, o_abs, o_int, o_intb, o_tupr, o_tupt, o_listt, o_listr, o_listm, o_isi, o_frzr, cf_self, eq_int, okS_then,
  List.getElem?_cons_zero, List.getElem?_cons_succ, List.set_cons_zero, List.set_cons_succ, List.length_cons, List.length_nil, Option.some.injEq, exists_eq_left', exists_eq_left, D.int.injEq, D.bl.injEq, D.tup.injEq, and_true, true_and, Nat.zero_add, Nat.reduceAdd, Nat.reduceLT, Nat.lt_irrefl, tysD, tyD, Bool.not_true, Bool.not_false])
variable {F n : Nat} {s : Sto} {Q : D → Sto → Prop} {X : Nat → Sto → Prop}
theorem between_ok {x : Nm} {M : Int} (hx : NmOk 100 100 x) (M0 : 0 < M) (sM : Sm 1700 M) (hF : 2 ^ 10000 ≤ F) (q : Q (.tup [.int (loI x M), .int (hiI x M)]) s) : okX (callD F G (n + 1) 71 [x.d, .int M] s) Q X := by
  refine callD_body [some x.d, some (.int M), none, none, none, none, none] b_law_between g_law_between rfl rfl rfl ?_
  unfold b_law_between Nm.d fr
  array_get_dec
  have p2 := hx.p.p
  have u2 := hx.u.p
  refine ⟨hx.p.a.mulOk sM (by decide), fdivOk_of (by omega) (lt_pow hx.p.b (by decide)), ?_⟩
  rw [Int.fdiv_eq_ediv_of_nonneg _ (by omega)]
  rcases hx.g with ⟨g0, _⟩ | ⟨g1, u0, _⟩
  · rw [decide_eq_true g0, br_true]
    unfold loI hiI at q
    rw [if_pos g0, if_pos g0] at q
    exact ⟨by decide, q⟩
  have g0 : x.g ≠ 0 := by omega
  rw [decide_eq_false g0, br_false]
  unfold loI hiI at q
  rw [if_neg g0, if_neg g0] at q
  have sq := (hx.u.a.mul sM).mul sM
  refine ⟨hx.u.a.mulOk sM (by decide), (hx.u.a.mul sM).mulOk sM (by decide), fdivOk_of (by omega) (lt_pow hx.u.b (by decide)), ?_⟩
  rw [Int.fdiv_eq_ediv_of_nonneg _ (by omega)]
  have h0 : 0 ≤ x.u.1 * M * M / x.u.2 := Int.ediv_nonneg (Int.mul_nonneg (Int.mul_nonneg (by omega) (by omega)) (by omega)) (by omega)
  have hb : Sm 3500 (x.u.1 * M * M / x.u.2) := by
    obtain ⟨m, hm⟩ : ∃ m : Nat, x.u.2 = m := ⟨x.u.2.toNat, by omega⟩
    rw [hm]
    exact sq.ediv.le (by decide)
  unfold ptI rtN at q
  generalize x.p.1 * M / x.p.2 = pt at *
  generalize x.u.1 * M * M / x.u.2 = t at *
  obtain ⟨v, rfl⟩ : ∃ v : Nat, t = v := ⟨t.toNat, by omega⟩
  rw [Int.toNat_natCast] at q
  unfold Sm at hb
  rw [Int.natAbs_natCast] at hb
  have big : ∀ h : Nat, h ≤ 2 * v + 2 → Sm 3510 (h : Int) := fun h hh => by
    unfold Sm
    rw [Int.natAbs_natCast]
    have : (2 : Nat) ^ 3510 = 2 ^ 3500 * 1024 := by rw [show 3510 = 3500 + 10 from rfl, Nat.pow_add]
    omega
  have vF : 2 * v + 10 < F := by
    have a1 : 2 * 2 ^ 3500 + 10 < 2 ^ 10000 := by decide +kernel
    omega
  refine ⟨by decide, rfl, ?_⟩
  refine s_whl (fun m e s' => ∃ h : Nat, e = [some (.tup [.tup [.int x.p.1, .int x.p.2], .int x.g, .tup [.int x.u.1, .int x.u.2]]), some (.int M), some (.int pt), some (.int v), some (.int 0), some (.int h), none] ∧ 1 ≤ h ∧ h ≤ 2 * v + 2 ∧ 2 * v + 2 - h = m ∧ s' = s) (m := 2 * v + 1) (by omega) ⟨1, rfl, by omega, by omega, by omega, rfl⟩ ?_
  rintro m e s' ⟨h, rfl, h1, h2, rfl, rfl⟩
  array_get_dec
  refine ⟨(big h h2).mulOk (big h h2) (by decide), fun hl => ?_, fun hl => ?_⟩
  · have hl : (h : Int) * h ≤ v := of_decide_eq_true hl
    have hl : h * h ≤ v := by exact_mod_cast hl
    have hv : h ≤ v := Nat.le_trans (Nat.le_mul_of_pos_left h h1) hl
    refine ⟨(show Sm 8010 2 by unfold Sm; exact Nat.lt_of_lt_of_le (by decide : 2 < 2 ^ 2) (Nat.pow_le_pow_right (by decide) (by decide))).mulOk (big h h2) (by decide), ?_⟩
    exact ⟨2 * v + 2 - 2 * h, by omega, 2 * h, by simp, by omega, by omega, rfl⟩
  · have hl : ¬ (h : Int) * h ≤ v := of_decide_eq_false hl
    have hl : v < h * h := by
      have : ¬ h * h ≤ v := fun z => hl (by exact_mod_cast z)
      omega
    refine s_whl (fun m e s2 => ∃ (a b : Nat) (z : Option D), e = [some (.tup [.tup [.int x.p.1, .int x.p.2], .int x.g, .tup [.int x.u.1, .int x.u.2]]), some (.int M), some (.int pt), some (.int v), some (.int a), some (.int b), z] ∧ a < b ∧ b ≤ 2 * v + 2 ∧ a * a ≤ v ∧ v < b * b ∧ b - a = m ∧ s2 = s') (m := h) (by omega) ⟨0, h, none, rfl, by omega, h2, by omega, hl, by omega, rfl⟩ ?_
    rintro m e s2 ⟨a, b, z, rfl, ab, b2, lo, hi, rfl, rfl⟩
    array_get_dec
    refine ⟨fun hab => ?_, fun hab => ?_⟩
    · have hab : (1 : Int) < b - a := of_decide_eq_true hab
      have em : ((a : Int) + b).fdiv 2 = ((a + b) / 2 : Nat) := by
        rw [Int.fdiv_eq_ediv_of_nonneg _ (by decide)]
        omega
      rw [em]
      generalize hm : (a + b) / 2 = c
      have c2 : c ≤ 2 * v + 2 := by omega
      refine ⟨fdivOk_of (by decide) (lt_pow (a := 60) (by decide) (by decide)), (big c c2).mulOk (big c c2) (by decide), fun hc => ?_, fun hc => ?_⟩
      · have hc : (c : Int) * c ≤ v := of_decide_eq_true hc
        have hc : c * c ≤ v := by exact_mod_cast hc
        exact ⟨b - c, by omega, c, b, _, rfl, by omega, b2, hc, hi, rfl⟩
      · have hc : ¬ (c : Int) * c ≤ v := of_decide_eq_false hc
        have hc : v < c * c := by
          have : ¬ c * c ≤ v := fun z => hc (by exact_mod_cast z)
          omega
        exact ⟨c - a, by omega, a, c, _, rfl, by omega, c2, lo, hc, rfl⟩
    · have hab : ¬ (1 : Int) < b - a := of_decide_eq_false hab
      have eab : b = a + 1 := by omega
      subst eab
      rw [isq_uniq lo hi] at q
      refine ⟨fun g => ?_, fun g => ?_⟩
      · have g : 0 < x.g := of_decide_eq_true g
        rw [if_pos g, if_pos g] at q
        exact ⟨by decide, q⟩
      · have g : ¬ 0 < x.g := of_decide_eq_false g
        rw [if_neg g, if_neg g] at q
        exact ⟨by decide, q⟩
end Dn

end
section
set_option Elab.async false
set_option maxRecDepth 100000
set_option maxHeartbeats 400000
set_option linter.unusedVariables false
set_option exponentiation.threshold 20000
/-! Pw7: less by cutting -/
namespace Dn
open PySem
local macro_rules | `(tactic| array_get_dec) => `(tactic| simp only [w_tryl, cf_low2, cf_low1, s_cons, s_nil, s_set, s_par, s_par3, s_ex, s_ret, s_retn, s_ite, s_rai, s_tryo, s_pas, s_brk, s_cnt, s_aug, t_nm, t_tup, t_sub, t_nil, t_cons, w_var, w_cst, w_top, w_bin, w_neg, w_cmp, w_cmp2, w_nt, w_and, w_or, w_ife, w_tup, w_rol, w_lst, w_ix, w_sl, w_call, w_prim, w_app, w_ins, w_bits, w_join, w_frz, w_nil, w_cons, w_no, w_so, c_no, c_so,
  okX_ok, isB_bl, br_true, br_false, o_add, o_sub, o_mul, o_fdiv, o_mod, o_pow, o_shl, o_cat, o_strs, o_rols, o_neg, o_lt, o_le, o_gt, o_ge, o_is, o_isn, o_eq, o_ne, o_in, o_nin, o_t0, o_t1, o_t2, o_t3, o_sl, o_slr, o_len, o_lenr, o_abs, o_int, o_intb, o_tupr, o_tupt, o_listt, o_listr, o_listm, o_isi, o_frzr, cf_self, eq_int, okS_then,
  List.getElem?_cons_zero, List.getElem?_cons_succ, List.set_cons_zero, List.set_cons_succ, List.length_cons, List.length_nil, Option.some.injEq, exists_eq_left', exists_eq_left, D.int.injEq, D.bl.injEq, D.tup.injEq, and_true, true_and, Nat.zero_add, Nat.reduceAdd, Nat.reduceLT, Nat.lt_irrefl, tysD, tyD, Bool.not_true, Bool.not_false])
variable {F n : Nat} {s : Sto} {Q : D → Sto → Prop} {X : Nat → Sto → Prop}
theorem law_less_ok {x y : Nm} (hx : NmOk 100 100 x) (hy : NmOk 100 100 y) (ne : x ≠ y) (hF : 2 ^ 10000 ≤ F) (q : Q (.bl (lessQ x y)) s) : okX (callD F G (n + 2) 72 [x.d, y.d] s) Q X := by
  refine callD_body [some x.d, some y.d, none, none, none, none] b_law_less g_law_less rfl rfl rfl ?_
  unfold b_law_less
  array_get_dec
  refine s_for (fun i e s2 => s2 = s ∧ (∃ o3 o4 o5, e = [some x.d, some y.d, some (.int (16 ^ i)), o3, o4, o5]) ∧ (∀ j, i = j + 1 → ¬ hiI x (16 ^ j) < loI y (16 ^ j) ∧ ¬ hiI y (16 ^ j) < loI x (16 ^ j))) ?_
  rw [i_rng]
  array_get_dec
  refine ⟨⟨by decide, by decide⟩, _, rfl, ?_, ⟨⟨_, _, _, rfl⟩, fun j h => by omega⟩, ?_, ?_⟩
  · rw [List.length_map, List.length_range]
    exact two_lt hF (by decide)
  · rintro i d e s2 hi ⟨rfl, ⟨o3, o4, o5, rfl⟩, hj⟩
    have il : i < 400 := by
      have := (List.getElem?_eq_some_iff.mp hi).1
      rw [List.length_map, List.length_range] at this
      exact this
    array_get_dec
    have m0 : (0 : Int) < 16 ^ i := Int.pow_pos (by decide)
    have e16 : (16 : Int) ^ i = ((2 ^ (4 * i) : Nat) : Int) := by
      rw [Nat.pow_mul]; push_cast; rfl
    have sM : Sm 1700 ((16 : Int) ^ i) := by
      unfold Sm
      rw [e16, Int.natAbs_natCast]
      exact Nat.pow_lt_pow_right (by decide) (by omega)
    refine between_ok (n := n) hx m0 sM hF (between_ok (n := n) hy m0 sM hF ?_)
    array_get_dec
    refine ⟨fun h => ?_, fun h => ?_⟩
    · have h := of_decide_eq_true h
      rw [(parted hx hy m0 h).1] at q
      exact q
    · have h1 := of_decide_eq_false h
      refine ⟨fun h => ?_, fun h => ?_⟩
      · have h := of_decide_eq_true h
        rw [(parted hy hx m0 h).2] at q
        exact q
      · have h2 := of_decide_eq_false h
        have s16 : Sm 5 16 := by unfold Sm; decide
        refine ⟨sM.mulOk s16 (by decide), ⟨_, _, _, by rw [Int.pow_succ]⟩, fun j ej => ?_⟩
        obtain rfl : i = j := by omega
        exact ⟨h1, h2⟩
  · rintro e s2 ⟨rfl, ⟨o3, o4, o5, rfl⟩, hj⟩
    rw [List.length_map, List.length_range] at hj
    obtain ⟨h1, h2⟩ := hj 399 rfl
    exact absurd (gap hx hy (by decide +kernel) h1 h2) ne
end Dn

end
section
set_option Elab.async false
set_option maxRecDepth 100000
set_option maxHeartbeats 400000
set_option linter.unusedVariables false
set_option exponentiation.threshold 20000
/-! Pw8: law k05 -/
namespace Dn
open PySem
local macro_rules | `(tactic| array_get_dec) => `(tactic| simp only [w_tryl, cf_low2, cf_low1, s_cons, s_nil, s_set, s_par, s_par3, s_ex, s_ret, s_retn, s_ite, s_rai, s_tryo, s_pas, s_brk, s_cnt, s_aug, t_nm, t_tup, t_sub, t_nil, t_cons, w_var, w_cst, w_top, w_bin, w_neg, w_cmp, w_cmp2, w_nt, w_and, w_or, w_ife, w_tup, w_rol, w_lst, w_ix, w_sl, w_call, w_prim, w_app, w_ins, w_bits, w_join, w_frz, w_nil, w_cons, w_no, w_so, c_no, c_so,
  okX_ok, isB_bl, br_true, br_false, o_add, o_sub, o_mul, o_fdiv, o_mod, o_pow, o_shl, o_cat, o_strs, o_rols, o_neg, o_lt, o_le, o_gt, o_ge, o_is, o_isn, o_eq, o_ne, o_in, o_nin, o_t0, o_t1, o_t2, o_t3, o_sl, o_slr, o_len, o_lenr, o_abs, o_int, o_intb, o_tupr, o_tupt, o_listt, o_listr, o_listm, o_isi, o_frzr, cf_self, eq_int, okS_then,
  List.getElem?_cons_zero, List.getElem?_cons_succ, List.set_cons_zero, List.set_cons_succ, List.length_cons, List.length_nil, Option.some.injEq, exists_eq_left', exists_eq_left, D.int.injEq, D.bl.injEq, D.tup.injEq, and_true, true_and, Nat.zero_add, Nat.reduceAdd, Nat.reduceLT, Nat.lt_irrefl, tysD, tyD, Bool.not_true, Bool.not_false])
variable {F n : Nat} {s : Sto} {Q : D → Sto → Prop} {X : Nat → Sto → Prop}
theorem less_self {k l : Nat} {x : Nm} (hx : NmOk k l x) : lessQ x x = false := by
  have f1 := fr01 (k := 1) (by decide)
  have e0 : minusQ x.p x.p = (0, 1) := V_inj (hx.p.minus hx.p) f1 (by rw [V_minus hx.p hx.p, V01]; grind)
  unfold lessQ
  dsimp only
  rw [e0]
  rcases hx.g with ⟨g, u0⟩ | ⟨g, u0, _⟩
  · rw [g, u0]; decide +kernel
  · have f2 := fr11 (k := 1) (by decide)
    have e1 : minusQ (plusQ (byQ (0, 1) (0, 1)) (byQ (1, 1) x.u)) x.u = (0, 1) := V_inj (((f1.by f1).plus (f2.by hx.u)).minus hx.u) f1 (by
      rw [V_minus ((f1.by f1).plus (f2.by hx.u)) hx.u, V_plus (f1.by f1) (f2.by hx.u), V_by f1 f1, V_by f2 hx.u, V11, V01]
      grind)
    have gg : x.g * x.g = 1 := by rcases g with h | h <;> rw [h] <;> rfl
    have e2 : byQ (2 * x.g, 1) (0, 1) = (0, 1) := by rcases g with h | h <;> rw [h] <;> decide +kernel
    rw [gg, e1, e2]
    have s0 : sotQ (0, 1) (0, 1) x.u = 0 := by unfold sotQ; split <;> rfl
    have s1 : sotQ (0, 1) (x.g, 1) x.u = x.g := by
      unfold sotQ
      rw [if_pos u0]
      rcases g with h | h <;> rw [h] <;> rfl
    rw [s0, s1]
    rcases g with h | h <;> rw [h] <;> rfl
theorem lo_sm {x : Nm} (hx : NmOk 60 60 x) : Sm 90 (loI x (10 ^ 6)) := by
  have a := hx.p.a
  have p2 := hx.p.p
  have a2 := hx.u.a
  have u2 := hx.u.p
  have hp : (ptI x (10 ^ 6)).natAbs < 2 ^ 80 := by
    have : Sm 80 (x.p.1 * 10 ^ 6) := (a.mul (show Sm 20 (10 ^ 6) by unfold Sm; decide))
    obtain ⟨m, hm⟩ : ∃ m : Nat, x.p.2 = m := ⟨x.p.2.toNat, by omega⟩
    unfold ptI
    rw [hm]
    exact this.ediv
  have hr : rtN x (10 ^ 6) < 2 ^ 60 := by
    have s20 : Sm 20 (10 ^ 6) := by unfold Sm; decide
    have : Sm 100 (x.u.1 * 10 ^ 6 * 10 ^ 6) := (a2.mul s20).mul s20
    obtain ⟨m, hm⟩ : ∃ m : Nat, x.u.2 = m := ⟨x.u.2.toNat, by omega⟩
    have h := this.ediv (g := m)
    rw [← hm] at h
    unfold rtN
    unfold Sm at h
    generalize x.u.1 * 10 ^ 6 * 10 ^ 6 / x.u.2 = t at *
    obtain ⟨s1, _⟩ := isq_spec t.toNat
    by_cases z : isq t.toNat < 2 ^ 60
    · exact z
    · have := Nat.mul_le_mul (Nat.ge_of_not_lt z) (Nat.ge_of_not_lt z)
      omega
  unfold Sm
  unfold loI
  split
  · omega
  · split <;> omega
/-- both looks at which is less, alike -/
theorem both_less {x y x' y' : Nm} {A : D → Sto → Prop} {X2 X3 X4 : Nat → Sto → Prop} (hx : NmOk 100 100 x) (hy : NmOk 100 100 y) (hx' : x' = x ∧ y' = y ∨ x' = y ∧ y' = x) (hF : 2 ^ 10000 ≤ F) (q : A (.bl true) s) :
    okX (callD F G (n + 19) 69 [x.d, y.d] s) (fun v s1 => ∃ b, eqD x'.d y'.d = some b ∧ br (!b) (okX (callD F G (n + 19) 72 [x.d, y.d] s1) (fun w s2 => okX (callD F G (n + 19) 11 [v, w] s2) A X2) X3) (okX (callD F G (n + 19) 11 [v, .bl false] s1) A X4)) X := by
  refine less_ok (n := n + 14) hx hy (by decide) (by decide) hF ?_
  refine ⟨_, eq_nm, ?_⟩
  by_cases e : x = y
  · have e' : x' = y' := by rcases hx' with ⟨a, b⟩ | ⟨a, b⟩ <;> rw [a, b, e]
    subst e
    rw [decide_eq_true e', Bool.not_true, br_false, less_self hx]
    exact same_bl (n := n + 17) q
  · have e' : x' ≠ y' := by
      rcases hx' with ⟨a, b⟩ | ⟨a, b⟩
      · rw [a, b]; exact e
      · rw [a, b]; exact fun z => e z.symm
    rw [decide_eq_false e', Bool.not_false, br_true]
    refine law_less_ok (n := n + 17) hx hy e hF ?_
    refine same_bl (n := n + 17) ?_
    rw [decide_eq_true rfl]; exact q
theorem o_isb {a b : Bool} : okX (cmpD .is (.bl a) (.bl b) s) Q X = Q (.bl (a == b)) s := rfl
theorem k05_ok {ns : List Int} (hn : ns.length ≤ 100000) (hF : 2 ^ 10000 ≤ F) (q : ∀ s', Q (.bl true) s') : okX (callD F G (n + 20) 73 [.rol (ns.map D.int)] s) Q X := by
  refine callD_body [some (.rol (ns.map D.int)), none, none, none, none, none, none] b_law_k05 g_law_k05 rfl rfl rfl ?_
  unfold b_law_k05
  array_get_dec
  obtain ⟨l10, mem⟩ := cells_of (ns := ns) (k := 10) (by decide)
  refine s_for (fun i e s2 => ∃ o1 o2 o3 o4 o5 o6, e = [some (.rol (ns.map D.int)), o1, o2, o3, o4, o5, o6]) ?_
  rw [i_seq]
  array_get_dec
  refine ⟨by decide, decide_eq_true (by unfold sizeLine; simp; omega), _, rfl, _, rfl, two_lt hF (Nat.le_trans l10 (by decide)), ⟨_, _, _, _, _, _, rfl⟩, ?_, ?_⟩
  · rintro i d e s2 hi ⟨o1, o2, o3, o4, o5, o6, rfl⟩
    obtain ⟨c, rfl⟩ := mem d (List.mem_of_getElem? hi)
    array_get_dec
    refine deck_ok (by decide) fun s3 hd3 _ => ?_
    generalize s2.length = j at *
    refine s_for (fun i e s2 => Deck s2 j (5 + 20 * i) ∧ ∃ o3 o4 o5 o6, e = [some (.rol (ns.map D.int)), some (.int c), some (.lst j), o3, o4, o5, o6]) ?_
    rw [i_rng]
    array_get_dec
    refine ⟨⟨by decide, by decide⟩, _, rfl, two_lt hF (by decide), ⟨hd3, _, _, _, _, rfl⟩, ?_, ?_⟩
    · rintro i' d e s4 hi' ⟨hd4, p3, p4, p5, p6, rfl⟩
      have il : i' < 5 := (List.getElem?_eq_some_iff.mp hi').1
      array_get_dec
      refine some_under_ok (n := n + 16) hd4 (by omega) fun u s5 hu u0 hd5 _ => ?_
      refine some_field_ok (n := n + 14) hu (by decide) u0 hd5 (by omega) hF fun x s6 hx hd6 _ => ?_
      refine some_under_ok (n := n + 16) hd6 (by omega) fun u' s7 hu' u0' hd7 _ => ?_
      refine some_field_ok (n := n + 14) hu' (by decide) u0' hd7 (by omega) hF fun y s8 hy hd8 _ => ?_
      have up : ∀ {x : Nm}, NmOk 60 60 x → NmOk 100 100 x := fun h => ⟨h.p.le (by decide), h.u.le (by decide), h.g⟩
      refine ⟨by decide, ?_⟩
      refine between_ok (n := n + 18) (up hx) (M := 10 ^ 6) (by decide) (by unfold Sm; decide +kernel) hF ?_
      array_get_dec
      refine ⟨by decide, ?_⟩
      refine frac_ok (n := n + 18) (a := loI x (10 ^ 6)) (b := 10 ^ 6) (k := 90) (by decide) (lo_sm hx) (by unfold Sm; decide +kernel) (by decide) hF ?_
      refine law_plain_ok (n := n + 18) ?_
      refine ⟨by decide, ?_⟩
      have hr : NmOk 100 100 (plainQ (red (loI x (10 ^ 6)) (10 ^ 6))) := ⟨(red_fr (k := 90) (by decide) (lo_sm hx) (by unfold Sm; decide +kernel)).le (by decide), fr01 (by decide), .inl ⟨rfl, rfl⟩⟩
      refine one_ok (n := n + 17) hd8 (by omega) (by simp) (show (4 : Nat) < 2 ^ 59 by decide) fun z s9 hz hd9 _ => ?_
      obtain ⟨w, hw, ew⟩ : ∃ w, NmOk 100 100 w ∧ z = w.d := by
        rcases List.mem_cons.mp hz with rfl | hz
        · exact ⟨_, up hy, rfl⟩
        rcases List.mem_cons.mp hz with rfl | hz
        · exact ⟨_, up hy, rfl⟩
        rcases List.mem_cons.mp hz with rfl | hz
        · exact ⟨_, hr, rfl⟩
        rcases List.mem_cons.mp hz with rfl | hz
        · exact ⟨_, up hx, rfl⟩
        cases hz
      subst ew
      refine both_less (n := n) (up hx) hw (.inl ⟨rfl, rfl⟩) hF ?_
      rw [isB_bl, Bool.not_true, br_false]
      refine both_less (n := n) hw (up hx) (.inr ⟨rfl, rfl⟩) hF ?_
      rw [isB_bl, Bool.not_true, br_false]
      exact ⟨hd9.le (by omega), _, _, _, _, rfl⟩
    · rintro e s4 ⟨_, p3, p4, p5, p6, rfl⟩
      exact ⟨_, _, _, _, _, _, rfl⟩
  · rintro e s2 ⟨o1, o2, o3, o4, o5, o6, rfl⟩
    have h3 : Fr 4 ((1 : Int), (3 : Int)) := ⟨by unfold Sm; decide, by unfold Sm; decide, by decide, by decide⟩
    have h2 : Fr 4 ((1 : Int), (2 : Int)) := ⟨by unfold Sm; decide, by unfold Sm; decide, by decide, by decide⟩
    have t2 : Fr 4 ((2 : Int), (1 : Int)) := ⟨by unfold Sm; decide, by unfold Sm; decide, by decide, by decide⟩
    refine ⟨by decide, plain_ok (n := n + 18) (p := (1, 3)) ?_⟩
    refine ⟨by decide, plain_ok (n := n + 18) (p := (1, 2)) ?_⟩
    refine less_ok (n := n + 14) (plainQ_ok h3) (plainQ_ok h2) (by decide) (by decide) hF ?_
    rw [show lessQ (plainQ (1, 3)) (plainQ (1, 2)) = true from by decide +kernel]
    rw [o_isb, isB_bl]
    refine ⟨fun _ => ?_, fun z => nomatch z⟩
    refine ⟨by decide, root_by (n := n + 14) (p := (2, 1)) t2 (by decide) hF (fun _ => ?_) fun z => absurd z (by decide)⟩
    refine ⟨by decide, root_by (n := n + 14) (p := (2, 1)) t2 (by decide) hF (fun _ => ?_) fun z => absurd z (by decide)⟩
    obtain ⟨okr, _⟩ := root_nm t2 (by decide)
    have okr : NmOk 60 60 (numQ (0, 1) (1, 1) (2, 1)) := ⟨okr.p.le (by decide), okr.u.le (by decide), okr.g⟩
    refine less_ok (n := n + 14) okr okr (by decide) (by decide) hF ?_
    rw [less_self okr, o_isb]
    exact q _
theorem pure_k05 {ns : List Int} (hn : ns.length ≤ 100000) : ∃ s, callD FU G KL 73 [.rol (ns.map D.int)] [] = .ok (.bl true) s :=
  of_okX (k05_ok (n := 40) hn FU_le fun _ => rfl)
end Dn

end
section
set_option Elab.async false
set_option maxRecDepth 100000
set_option maxHeartbeats 4000000
namespace Hk05
open PySem PySem.Spec PyProof.Rows L2 Dn
def top (i : Nat) : Stmt := PySem.Challenge.pw_armwright_k05_numbers_in_order.main.body.getD i (.Pass ⟨0, 0, 0, 0⟩)
def Q : Gx := ⟨G, [73, 69, 50, 26, 11, 72, 7, 40, 14, 71, 55, 56, 4, 68, 19, 59, 18, 27, 10, 5, 54, 15, 22, 3, 24, 53, 39, 51, 52, 1, 23], [("NOUGHT", top_NOUGHT)], [1], false⟩
theorem sc_law_k05 : FnScope ["script", "cell", "deck", "k", "one", "other", "near"] ["script"] (defScope (top 37)) := ⟨rfl, rfl, rfl, by decide +kernel, rfl, by decide +kernel, by decide +kernel⟩
theorem ck_law_k05 : chkSs ⟨["script", "cell", "deck", "k", "one", "other", "near"], Q.G, Q.U, Q.tops, Q.xs, false⟩ ⟨(defScope (top 37)).names, true⟩ fn_law_k05.body (defBody (top 37)) = true := by decide +kernel
theorem sc_less : FnScope ["one", "other", "part", "left", "squares", "more"] ["one", "other"] (defScope (top 18)) := ⟨rfl, rfl, rfl, by decide +kernel, rfl, by decide +kernel, by decide +kernel⟩
theorem ck_less : chkSs ⟨["one", "other", "part", "left", "squares", "more"], Q.G, Q.U, Q.tops, Q.xs, false⟩ ⟨(defScope (top 18)).names, true⟩ fn_less.body (defBody (top 18)) = true := by decide +kernel
theorem sc_root : FnScope ["one"] ["one"] (defScope (top 16)) := ⟨rfl, rfl, rfl, by decide +kernel, rfl, by decide +kernel, by decide +kernel⟩
theorem ck_root : chkSs ⟨["one"], Q.G, Q.U, Q.tops, Q.xs, false⟩ ⟨(defScope (top 16)).names, true⟩ fn_root.body (defBody (top 16)) = true := by decide +kernel
theorem sc_plain : FnScope ["one"] ["one"] (defScope (top 14)) := ⟨rfl, rfl, rfl, by decide +kernel, rfl, by decide +kernel, by decide +kernel⟩
theorem ck_plain : chkSs ⟨["one"], Q.G, Q.U, Q.tops, Q.xs, false⟩ ⟨(defScope (top 14)).names, true⟩ fn_plain.body (defBody (top 14)) = true := by decide +kernel
theorem sc_law_same : FnScope ["told_", "due", "k", "part"] ["told_", "due"] (defScope (top 24)) := ⟨rfl, rfl, rfl, by decide +kernel, rfl, by decide +kernel, by decide +kernel⟩
theorem ck_law_same : chkSs ⟨["told_", "due", "k", "part"], Q.G, Q.U, Q.tops, Q.xs, false⟩ ⟨(defScope (top 24)).names, true⟩ fn_law_same.body (defBody (top 24)) = true := by decide +kernel
theorem sc_law_less : FnScope ["one", "other", "scale", "step", "first", "second"] ["one", "other"] (defScope (top 36)) := ⟨rfl, rfl, rfl, by decide +kernel, rfl, by decide +kernel, by decide +kernel⟩
theorem ck_law_less : chkSs ⟨["one", "other", "scale", "step", "first", "second"], Q.G, Q.U, Q.tops, Q.xs, false⟩ ⟨(defScope (top 36)).names, true⟩ fn_law_less.body (defBody (top 36)) = true := by decide +kernel
theorem sc_law_one : FnScope ["deck", "some"] ["deck", "some"] (defScope (top 22)) := ⟨rfl, rfl, rfl, by decide +kernel, rfl, by decide +kernel, by decide +kernel⟩
theorem ck_law_one : chkSs ⟨["deck", "some"], Q.G, Q.U, Q.tops, Q.xs, false⟩ ⟨(defScope (top 22)).names, true⟩ fn_law_one.body (defBody (top 22)) = true := by decide +kernel
theorem sc_law_plain : FnScope ["one"] ["one"] (defScope (top 31)) := ⟨rfl, rfl, rfl, by decide +kernel, rfl, by decide +kernel, by decide +kernel⟩
theorem ck_law_plain : chkSs ⟨["one"], Q.G, Q.U, Q.tops, Q.xs, false⟩ ⟨(defScope (top 31)).names, true⟩ fn_law_plain.body (defBody (top 31)) = true := by decide +kernel
theorem sc_law_frac : FnScope ["top", "bottom", "one", "other", "rest", "sign_"] ["top", "bottom"] (defScope (top 25)) := ⟨rfl, rfl, rfl, by decide +kernel, rfl, by decide +kernel, by decide +kernel⟩
theorem ck_law_frac : chkSs ⟨["top", "bottom", "one", "other", "rest", "sign_"], Q.G, Q.U, Q.tops, Q.xs, false⟩ ⟨(defScope (top 25)).names, true⟩ fn_law_frac.body (defBody (top 25)) = true := by decide +kernel
theorem sc_law_between : FnScope ["one", "scale", "part", "square_", "low", "high", "middle"] ["one", "scale"] (defScope (top 35)) := ⟨rfl, rfl, rfl, by decide +kernel, rfl, by decide +kernel, by decide +kernel⟩
theorem ck_law_between : chkSs ⟨["one", "scale", "part", "square_", "low", "high", "middle"], Q.G, Q.U, Q.tops, Q.xs, false⟩ ⟨(defScope (top 35)).names, true⟩ fn_law_between.body (defBody (top 35)) = true := by decide +kernel
theorem sc_law_some_number : FnScope ["deck", "under", "share"] ["deck", "under"] (defScope (top 33)) := ⟨rfl, rfl, rfl, by decide +kernel, rfl, by decide +kernel, by decide +kernel⟩
theorem ck_law_some_number : chkSs ⟨["deck", "under", "share"], Q.G, Q.U, Q.tops, Q.xs, false⟩ ⟨(defScope (top 33)).names, true⟩ fn_law_some_number.body (defBody (top 33)) = true := by decide +kernel
theorem sc_law_some_under : FnScope ["deck"] ["deck"] (defScope (top 34)) := ⟨rfl, rfl, rfl, by decide +kernel, rfl, by decide +kernel, by decide +kernel⟩
theorem ck_law_some_under : chkSs ⟨["deck"], Q.G, Q.U, Q.tops, Q.xs, false⟩ ⟨(defScope (top 34)).names, true⟩ fn_law_some_under.body (defBody (top 34)) = true := by decide +kernel
theorem sc_law_deck : FnScope ["cell", "turn"] ["cell", "turn"] (defScope (top 20)) := ⟨rfl, rfl, rfl, by decide +kernel, rfl, by decide +kernel, by decide +kernel⟩
theorem ck_law_deck : chkSs ⟨["cell", "turn"], Q.G, Q.U, Q.tops, Q.xs, false⟩ ⟨(defScope (top 20)).names, true⟩ fn_law_deck.body (defBody (top 20)) = true := by decide +kernel
theorem sc_sign_of_two : FnScope ["part", "times_root", "under", "one", "other", "more"] ["part", "times_root", "under"] (defScope (top 17)) := ⟨rfl, rfl, rfl, by decide +kernel, rfl, by decide +kernel, by decide +kernel⟩
theorem ck_sign_of_two : chkSs ⟨["part", "times_root", "under", "one", "other", "more"], Q.G, Q.U, Q.tops, Q.xs, false⟩ ⟨(defScope (top 17)).names, true⟩ fn_sign_of_two.body (defBody (top 17)) = true := by decide +kernel
theorem sc_by : FnScope ["one", "other"] ["one", "other"] (defScope (top 9)) := ⟨rfl, rfl, rfl, by decide +kernel, rfl, by decide +kernel, by decide +kernel⟩
theorem ck_by : chkSs ⟨["one", "other"], Q.G, Q.U, Q.tops, Q.xs, false⟩ ⟨(defScope (top 9)).names, true⟩ fn_by.body (defBody (top 9)) = true := by decide +kernel
theorem sc_minus : FnScope ["one", "other"] ["one", "other"] (defScope (top 8)) := ⟨rfl, rfl, rfl, by decide +kernel, rfl, by decide +kernel, by decide +kernel⟩
theorem ck_minus : chkSs ⟨["one", "other"], Q.G, Q.U, Q.tops, Q.xs, false⟩ ⟨(defScope (top 8)).names, true⟩ fn_minus.body (defBody (top 8)) = true := by decide +kernel
theorem sc_plus : FnScope ["one", "other"] ["one", "other"] (defScope (top 7)) := ⟨rfl, rfl, rfl, by decide +kernel, rfl, by decide +kernel, by decide +kernel⟩
theorem ck_plus : chkSs ⟨["one", "other"], Q.G, Q.U, Q.tops, Q.xs, false⟩ ⟨(defScope (top 7)).names, true⟩ fn_plus.body (defBody (top 7)) = true := by decide +kernel
theorem sc_number : FnScope ["part", "times_root", "under", "square", "known"] ["part", "times_root", "under"] (defScope (top 15)) := ⟨rfl, rfl, rfl, by decide +kernel, rfl, by decide +kernel, by decide +kernel⟩
theorem ck_number : chkSs ⟨["part", "times_root", "under", "square", "known"], Q.G, Q.U, Q.tops, Q.xs, false⟩ ⟨(defScope (top 15)).names, true⟩ fn_number.body (defBody (top 15)) = true := by decide +kernel
theorem sc_law_sort : FnScope ["thing"] ["thing"] (defScope (top 23)) := ⟨rfl, rfl, rfl, by decide +kernel, rfl, by decide +kernel, by decide +kernel⟩
theorem ck_law_sort : chkSs ⟨["thing"], Q.G, Q.U, Q.tops, Q.xs, false⟩ ⟨(defScope (top 23)).names, true⟩ fn_law_sort.body (defBody (top 23)) = true := by decide +kernel
theorem sc_law_pick : FnScope ["deck", "size", "found", "number_"] ["deck", "size"] (defScope (top 21)) := ⟨rfl, rfl, rfl, by decide +kernel, rfl, by decide +kernel, by decide +kernel⟩
theorem ck_law_pick : chkSs ⟨["deck", "size", "found", "number_"], Q.G, Q.U, Q.tops, Q.xs, false⟩ ⟨(defScope (top 21)).names, true⟩ fn_law_pick.body (defBody (top 21)) = true := by decide +kernel
theorem sc_law_number : FnScope ["part", "share", "under", "square_", "root_told", "sign_"] ["part", "share", "under"] (defScope (top 32)) := ⟨rfl, rfl, rfl, by decide +kernel, rfl, by decide +kernel, by decide +kernel⟩
theorem ck_law_number : chkSs ⟨["part", "share", "under", "square_", "root_told", "sign_"], Q.G, Q.U, Q.tops, Q.xs, false⟩ ⟨(defScope (top 32)).names, true⟩ fn_law_number.body (defBody (top 32)) = true := by decide +kernel
theorem sc_law_some_fraction : FnScope ["deck", "way"] ["deck"] (defScope (top 30)) := ⟨rfl, rfl, rfl, by decide +kernel, rfl, by decide +kernel, by decide +kernel⟩
theorem ck_law_some_fraction : chkSs ⟨["deck", "way"], Q.G, Q.U, Q.tops, Q.xs, false⟩ ⟨(defScope (top 30)).names, true⟩ fn_law_some_fraction.body (defBody (top 30)) = true := by decide +kernel
theorem sc_sign_of : FnScope ["one"] ["one"] (defScope (top 10)) := ⟨rfl, rfl, rfl, by decide +kernel, rfl, by decide +kernel, by decide +kernel⟩
theorem ck_sign_of : chkSs ⟨["one"], Q.G, Q.U, Q.tops, Q.xs, false⟩ ⟨(defScope (top 10)).names, true⟩ fn_sign_of.body (defBody (top 10)) = true := by decide +kernel
theorem sc_fraction : FnScope ["top", "bottom", "by"] ["top", "bottom"] (defScope (top 6)) := ⟨rfl, rfl, rfl, by decide +kernel, rfl, by decide +kernel, by decide +kernel⟩
theorem ck_fraction : chkSs ⟨["top", "bottom", "by"], Q.G, Q.U, Q.tops, Q.xs, false⟩ ⟨(defScope (top 6)).names, true⟩ fn_fraction.body (defBody (top 6)) = true := by decide +kernel
theorem sc_square_root : FnScope ["one", "top", "bottom"] ["one"] (defScope (top 12)) := ⟨rfl, rfl, rfl, by decide +kernel, rfl, by decide +kernel, by decide +kernel⟩
theorem ck_square_root : chkSs ⟨["one", "top", "bottom"], Q.G, Q.U, Q.tops, Q.xs, false⟩ ⟨(defScope (top 12)).names, true⟩ fn_square_root.body (defBody (top 12)) = true := by decide +kernel
theorem sc_law_is_square : FnScope ["one"] ["one"] (defScope (top 29)) := ⟨rfl, rfl, rfl, by decide +kernel, rfl, by decide +kernel, by decide +kernel⟩
theorem ck_law_is_square : chkSs ⟨["one"], Q.G, Q.U, Q.tops, Q.xs, false⟩ ⟨(defScope (top 29)).names, true⟩ fn_law_is_square.body (defBody (top 29)) = true := by decide +kernel
theorem sc_law_plus : FnScope ["one", "other"] ["one", "other"] (defScope (top 26)) := ⟨rfl, rfl, rfl, by decide +kernel, rfl, by decide +kernel, by decide +kernel⟩
theorem ck_law_plus : chkSs ⟨["one", "other"], Q.G, Q.U, Q.tops, Q.xs, false⟩ ⟨(defScope (top 26)).names, true⟩ fn_law_plus.body (defBody (top 26)) = true := by decide +kernel
theorem sc_law_by : FnScope ["one", "other"] ["one", "other"] (defScope (top 27)) := ⟨rfl, rfl, rfl, by decide +kernel, rfl, by decide +kernel, by decide +kernel⟩
theorem ck_law_by : chkSs ⟨["one", "other"], Q.G, Q.U, Q.tops, Q.xs, false⟩ ⟨(defScope (top 27)).names, true⟩ fn_law_by.body (defBody (top 27)) = true := by decide +kernel
theorem sc_law_root_of : FnScope ["number_", "low", "high", "middle"] ["number_"] (defScope (top 28)) := ⟨rfl, rfl, rfl, by decide +kernel, rfl, by decide +kernel, by decide +kernel⟩
theorem ck_law_root_of : chkSs ⟨["number_", "low", "high", "middle"], Q.G, Q.U, Q.tops, Q.xs, false⟩ ⟨(defScope (top 28)).names, true⟩ fn_law_root_of.body (defBody (top 28)) = true := by decide +kernel
theorem sc_divisor : FnScope ["one", "other"] ["one", "other"] (defScope (top 5)) := ⟨rfl, rfl, rfl, by decide +kernel, rfl, by decide +kernel, by decide +kernel⟩
theorem ck_divisor : chkSs ⟨["one", "other"], Q.G, Q.U, Q.tops, Q.xs, false⟩ ⟨(defScope (top 5)).names, true⟩ fn_divisor.body (defBody (top 5)) = true := by decide +kernel
theorem sc_whole_root : FnScope ["number", "found", "better"] ["number"] (defScope (top 11)) := ⟨rfl, rfl, rfl, by decide +kernel, rfl, by decide +kernel, by decide +kernel⟩
theorem ck_whole_root : chkSs ⟨["number", "found", "better"], Q.G, Q.U, Q.tops, Q.xs, false⟩ ⟨(defScope (top 11)).names, true⟩ fn_whole_root.body (defBody (top 11)) = true := by decide +kernel
end Hk05
open PySem PySem.W PyProof.Rows
set_option maxRecDepth 100000 in
set_option maxHeartbeats 0 in
theorem PySem.Challenge.cw_armwright_k05_numbers_in_order_holds : PySem.Challenge.rw_armwright_k05_numbers_in_order.Holds := by
  w_on; o_law; k_head; (case hw => w_witness2)
  k_fill
  refine Dn.law_end (l := PySem.Challenge.rw_armwright_k05_numbers_in_order) (Q := Hk05.Q) (k := Dn.KL) (F := Dn.FU) (i := 73) (x := "script") rfl (by decide) rfl ⟨rfl, by decide, by decide⟩ (fun w h Y => PySem.W.kIn_of Y) Dn.g_law_k05 rfl ?A (fun ns hl _ => Dn.pure_k05 (Nat.le_trans hl (by decide)))
  case A =>
    intro w mg h KX G
    obtain ⟨f73, fd73, d73, hb⟩ : ∃ f fd, Dn.DefAt (L2.KOf KX) mg Hk05.Q [] ([] : List (PySem.Addr × PySem.Str)) Dn.fn_law_k05 f fd ["script"] ∧ ∀ (s : Shared) (u : Value), BindsTo s fd ⟨[u], []⟩ [("script", u)] := by
      refine' ⟨_, _, Dn.def_at (Q := Hk05.Q) (fn := Dn.fn_law_k05) (st := Hk05.top 37) Hk05.sc_law_k05 rfl rfl Hk05.ck_law_k05 (fun _ _ _ _ _ _ us hl => match us, hl with | [_], _ => rfl) KX G ?a ?l ?c ?k, ?hb⟩
      (case a => k_is); (case l => k_is); (case c => k_is); (case k => k_is)
      (case hb => exact fun s u => .of_eq rfl)
    obtain ⟨f69, fd69, d69⟩ : ∃ f fd, Dn.DefAt (L2.KOf KX) mg Hk05.Q [] ([] : List (PySem.Addr × PySem.Str)) Dn.fn_less f fd ["one", "other"] := by
      refine' ⟨_, _, Dn.def_at (Q := Hk05.Q) (fn := Dn.fn_less) (st := Hk05.top 18) Hk05.sc_less rfl rfl Hk05.ck_less (fun _ _ _ _ _ _ us hl => match us, hl with | [_, _], _ => rfl) KX G ?a ?l ?c ?k⟩
      (case a => k_is); (case l => k_is); (case c => k_is); (case k => k_is)
    obtain ⟨f50, fd50, d50⟩ : ∃ f fd, Dn.DefAt (L2.KOf KX) mg Hk05.Q [] ([] : List (PySem.Addr × PySem.Str)) Dn.fn_root f fd ["one"] := by
      refine' ⟨_, _, Dn.def_at (Q := Hk05.Q) (fn := Dn.fn_root) (st := Hk05.top 16) Hk05.sc_root rfl rfl Hk05.ck_root (fun _ _ _ _ _ _ us hl => match us, hl with | [_], _ => rfl) KX G ?a ?l ?c ?k⟩
      (case a => k_is); (case l => k_is); (case c => k_is); (case k => k_is)
    obtain ⟨f26, fd26, d26⟩ : ∃ f fd, Dn.DefAt (L2.KOf KX) mg Hk05.Q [] ([] : List (PySem.Addr × PySem.Str)) Dn.fn_plain f fd ["one"] := by
      refine' ⟨_, _, Dn.def_at (Q := Hk05.Q) (fn := Dn.fn_plain) (st := Hk05.top 14) Hk05.sc_plain rfl rfl Hk05.ck_plain (fun _ _ _ _ _ _ us hl => match us, hl with | [_], _ => rfl) KX G ?a ?l ?c ?k⟩
      (case a => k_is); (case l => k_is); (case c => k_is); (case k => k_is)
    obtain ⟨f11, fd11, d11⟩ : ∃ f fd, Dn.DefAt (L2.KOf KX) mg Hk05.Q [] ([] : List (PySem.Addr × PySem.Str)) Dn.fn_law_same f fd ["told_", "due"] := by
      refine' ⟨_, _, Dn.def_at (Q := Hk05.Q) (fn := Dn.fn_law_same) (st := Hk05.top 24) Hk05.sc_law_same rfl rfl Hk05.ck_law_same (fun _ _ _ _ _ _ us hl => match us, hl with | [_, _], _ => rfl) KX G ?a ?l ?c ?k⟩
      (case a => k_is); (case l => k_is); (case c => k_is); (case k => k_is)
    obtain ⟨f72, fd72, d72⟩ : ∃ f fd, Dn.DefAt (L2.KOf KX) mg Hk05.Q [] ([] : List (PySem.Addr × PySem.Str)) Dn.fn_law_less f fd ["one", "other"] := by
      refine' ⟨_, _, Dn.def_at (Q := Hk05.Q) (fn := Dn.fn_law_less) (st := Hk05.top 36) Hk05.sc_law_less rfl rfl Hk05.ck_law_less (fun _ _ _ _ _ _ us hl => match us, hl with | [_, _], _ => rfl) KX G ?a ?l ?c ?k⟩
      (case a => k_is); (case l => k_is); (case c => k_is); (case k => k_is)
    obtain ⟨f7, fd7, d7⟩ : ∃ f fd, Dn.DefAt (L2.KOf KX) mg Hk05.Q [] ([] : List (PySem.Addr × PySem.Str)) Dn.fn_law_one f fd ["deck", "some"] := by
      refine' ⟨_, _, Dn.def_at (Q := Hk05.Q) (fn := Dn.fn_law_one) (st := Hk05.top 22) Hk05.sc_law_one rfl rfl Hk05.ck_law_one (fun _ _ _ _ _ _ us hl => match us, hl with | [_, _], _ => rfl) KX G ?a ?l ?c ?k⟩
      (case a => k_is); (case l => k_is); (case c => k_is); (case k => k_is)
    obtain ⟨f40, fd40, d40⟩ : ∃ f fd, Dn.DefAt (L2.KOf KX) mg Hk05.Q [] ([] : List (PySem.Addr × PySem.Str)) Dn.fn_law_plain f fd ["one"] := by
      refine' ⟨_, _, Dn.def_at (Q := Hk05.Q) (fn := Dn.fn_law_plain) (st := Hk05.top 31) Hk05.sc_law_plain rfl rfl Hk05.ck_law_plain (fun _ _ _ _ _ _ us hl => match us, hl with | [_], _ => rfl) KX G ?a ?l ?c ?k⟩
      (case a => k_is); (case l => k_is); (case c => k_is); (case k => k_is)
    obtain ⟨f14, fd14, d14⟩ : ∃ f fd, Dn.DefAt (L2.KOf KX) mg Hk05.Q [] ([] : List (PySem.Addr × PySem.Str)) Dn.fn_law_frac f fd ["top", "bottom"] := by
      refine' ⟨_, _, Dn.def_at (Q := Hk05.Q) (fn := Dn.fn_law_frac) (st := Hk05.top 25) Hk05.sc_law_frac rfl rfl Hk05.ck_law_frac (fun _ _ _ _ _ _ us hl => match us, hl with | [_, _], _ => rfl) KX G ?a ?l ?c ?k⟩
      (case a => k_is); (case l => k_is); (case c => k_is); (case k => k_is)
    obtain ⟨f71, fd71, d71⟩ : ∃ f fd, Dn.DefAt (L2.KOf KX) mg Hk05.Q [] ([] : List (PySem.Addr × PySem.Str)) Dn.fn_law_between f fd ["one", "scale"] := by
      refine' ⟨_, _, Dn.def_at (Q := Hk05.Q) (fn := Dn.fn_law_between) (st := Hk05.top 35) Hk05.sc_law_between rfl rfl Hk05.ck_law_between (fun _ _ _ _ _ _ us hl => match us, hl with | [_, _], _ => rfl) KX G ?a ?l ?c ?k⟩
      (case a => k_is); (case l => k_is); (case c => k_is); (case k => k_is)
    obtain ⟨f55, fd55, d55⟩ : ∃ f fd, Dn.DefAt (L2.KOf KX) mg Hk05.Q [] ([] : List (PySem.Addr × PySem.Str)) Dn.fn_law_some_number f fd ["deck", "under"] := by
      refine' ⟨_, _, Dn.def_at (Q := Hk05.Q) (fn := Dn.fn_law_some_number) (st := Hk05.top 33) Hk05.sc_law_some_number rfl rfl Hk05.ck_law_some_number (fun _ _ _ _ _ _ us hl => match us, hl with | [_, _], _ => rfl) KX G ?a ?l ?c ?k⟩
      (case a => k_is); (case l => k_is); (case c => k_is); (case k => k_is)
    obtain ⟨f56, fd56, d56⟩ : ∃ f fd, Dn.DefAt (L2.KOf KX) mg Hk05.Q [] ([] : List (PySem.Addr × PySem.Str)) Dn.fn_law_some_under f fd ["deck"] := by
      refine' ⟨_, _, Dn.def_at (Q := Hk05.Q) (fn := Dn.fn_law_some_under) (st := Hk05.top 34) Hk05.sc_law_some_under rfl rfl Hk05.ck_law_some_under (fun _ _ _ _ _ _ us hl => match us, hl with | [_], _ => rfl) KX G ?a ?l ?c ?k⟩
      (case a => k_is); (case l => k_is); (case c => k_is); (case k => k_is)
    obtain ⟨f4, fd4, d4⟩ : ∃ f fd, Dn.DefAt (L2.KOf KX) mg Hk05.Q [] ([] : List (PySem.Addr × PySem.Str)) Dn.fn_law_deck f fd ["cell", "turn"] := by
      refine' ⟨_, _, Dn.def_at (Q := Hk05.Q) (fn := Dn.fn_law_deck) (st := Hk05.top 20) Hk05.sc_law_deck rfl rfl Hk05.ck_law_deck (fun _ _ _ _ _ _ us hl => match us, hl with | [_, _], _ => rfl) KX G ?a ?l ?c ?k⟩
      (case a => k_is); (case l => k_is); (case c => k_is); (case k => k_is)
    obtain ⟨f68, fd68, d68⟩ : ∃ f fd, Dn.DefAt (L2.KOf KX) mg Hk05.Q [] ([] : List (PySem.Addr × PySem.Str)) Dn.fn_sign_of_two f fd ["part", "times_root", "under"] := by
      refine' ⟨_, _, Dn.def_at (Q := Hk05.Q) (fn := Dn.fn_sign_of_two) (st := Hk05.top 17) Hk05.sc_sign_of_two rfl rfl Hk05.ck_sign_of_two (fun _ _ _ _ _ _ us hl => match us, hl with | [_, _, _], _ => rfl) KX G ?a ?l ?c ?k⟩
      (case a => k_is); (case l => k_is); (case c => k_is); (case k => k_is)
    obtain ⟨f19, fd19, d19⟩ : ∃ f fd, Dn.DefAt (L2.KOf KX) mg Hk05.Q [] ([] : List (PySem.Addr × PySem.Str)) Dn.fn_by f fd ["one", "other"] := by
      refine' ⟨_, _, Dn.def_at (Q := Hk05.Q) (fn := Dn.fn_by) (st := Hk05.top 9) Hk05.sc_by rfl rfl Hk05.ck_by (fun _ _ _ _ _ _ us hl => match us, hl with | [_, _], _ => rfl) KX G ?a ?l ?c ?k⟩
      (case a => k_is); (case l => k_is); (case c => k_is); (case k => k_is)
    obtain ⟨f59, fd59, d59⟩ : ∃ f fd, Dn.DefAt (L2.KOf KX) mg Hk05.Q [] ([] : List (PySem.Addr × PySem.Str)) Dn.fn_minus f fd ["one", "other"] := by
      refine' ⟨_, _, Dn.def_at (Q := Hk05.Q) (fn := Dn.fn_minus) (st := Hk05.top 8) Hk05.sc_minus rfl rfl Hk05.ck_minus (fun _ _ _ _ _ _ us hl => match us, hl with | [_, _], _ => rfl) KX G ?a ?l ?c ?k⟩
      (case a => k_is); (case l => k_is); (case c => k_is); (case k => k_is)
    obtain ⟨f18, fd18, d18⟩ : ∃ f fd, Dn.DefAt (L2.KOf KX) mg Hk05.Q [] ([] : List (PySem.Addr × PySem.Str)) Dn.fn_plus f fd ["one", "other"] := by
      refine' ⟨_, _, Dn.def_at (Q := Hk05.Q) (fn := Dn.fn_plus) (st := Hk05.top 7) Hk05.sc_plus rfl rfl Hk05.ck_plus (fun _ _ _ _ _ _ us hl => match us, hl with | [_, _], _ => rfl) KX G ?a ?l ?c ?k⟩
      (case a => k_is); (case l => k_is); (case c => k_is); (case k => k_is)
    obtain ⟨f27, fd27, d27⟩ : ∃ f fd, Dn.DefAt (L2.KOf KX) mg Hk05.Q [] ([] : List (PySem.Addr × PySem.Str)) Dn.fn_number f fd ["part", "times_root", "under"] := by
      refine' ⟨_, _, Dn.def_at (Q := Hk05.Q) (fn := Dn.fn_number) (st := Hk05.top 15) Hk05.sc_number rfl rfl Hk05.ck_number (fun _ _ _ _ _ _ us hl => match us, hl with | [_, _, _], _ => rfl) KX G ?a ?l ?c ?k⟩
      (case a => k_is); (case l => k_is); (case c => k_is); (case k => k_is)
    obtain ⟨f10, fd10, d10⟩ : ∃ f fd, Dn.DefAt (L2.KOf KX) mg Hk05.Q [] ([] : List (PySem.Addr × PySem.Str)) Dn.fn_law_sort f fd ["thing"] := by
      refine' ⟨_, _, Dn.def_at (Q := Hk05.Q) (fn := Dn.fn_law_sort) (st := Hk05.top 23) Hk05.sc_law_sort rfl rfl Hk05.ck_law_sort (fun _ _ _ _ _ _ us hl => match us, hl with | [_], _ => rfl) KX G ?a ?l ?c ?k⟩
      (case a => k_is); (case l => k_is); (case c => k_is); (case k => k_is)
    obtain ⟨f5, fd5, d5⟩ : ∃ f fd, Dn.DefAt (L2.KOf KX) mg Hk05.Q [] ([] : List (PySem.Addr × PySem.Str)) Dn.fn_law_pick f fd ["deck", "size"] := by
      refine' ⟨_, _, Dn.def_at (Q := Hk05.Q) (fn := Dn.fn_law_pick) (st := Hk05.top 21) Hk05.sc_law_pick rfl rfl Hk05.ck_law_pick (fun _ _ _ _ _ _ us hl => match us, hl with | [_, _], _ => rfl) KX G ?a ?l ?c ?k⟩
      (case a => k_is); (case l => k_is); (case c => k_is); (case k => k_is)
    obtain ⟨f54, fd54, d54⟩ : ∃ f fd, Dn.DefAt (L2.KOf KX) mg Hk05.Q [] ([] : List (PySem.Addr × PySem.Str)) Dn.fn_law_number f fd ["part", "share", "under"] := by
      refine' ⟨_, _, Dn.def_at (Q := Hk05.Q) (fn := Dn.fn_law_number) (st := Hk05.top 32) Hk05.sc_law_number rfl rfl Hk05.ck_law_number (fun _ _ _ _ _ _ us hl => match us, hl with | [_, _, _], _ => rfl) KX G ?a ?l ?c ?k⟩
      (case a => k_is); (case l => k_is); (case c => k_is); (case k => k_is)
    obtain ⟨f15, fd15, d15⟩ : ∃ f fd, Dn.DefAt (L2.KOf KX) mg Hk05.Q [] ([] : List (PySem.Addr × PySem.Str)) Dn.fn_law_some_fraction f fd ["deck"] := by
      refine' ⟨_, _, Dn.def_at (Q := Hk05.Q) (fn := Dn.fn_law_some_fraction) (st := Hk05.top 30) Hk05.sc_law_some_fraction rfl rfl Hk05.ck_law_some_fraction (fun _ _ _ _ _ _ us hl => match us, hl with | [_], _ => rfl) KX G ?a ?l ?c ?k⟩
      (case a => k_is); (case l => k_is); (case c => k_is); (case k => k_is)
    obtain ⟨f22, fd22, d22⟩ : ∃ f fd, Dn.DefAt (L2.KOf KX) mg Hk05.Q [] ([] : List (PySem.Addr × PySem.Str)) Dn.fn_sign_of f fd ["one"] := by
      refine' ⟨_, _, Dn.def_at (Q := Hk05.Q) (fn := Dn.fn_sign_of) (st := Hk05.top 10) Hk05.sc_sign_of rfl rfl Hk05.ck_sign_of (fun _ _ _ _ _ _ us hl => match us, hl with | [_], _ => rfl) KX G ?a ?l ?c ?k⟩
      (case a => k_is); (case l => k_is); (case c => k_is); (case k => k_is)
    obtain ⟨f3, fd3, d3⟩ : ∃ f fd, Dn.DefAt (L2.KOf KX) mg Hk05.Q [] ([] : List (PySem.Addr × PySem.Str)) Dn.fn_fraction f fd ["top", "bottom"] := by
      refine' ⟨_, _, Dn.def_at (Q := Hk05.Q) (fn := Dn.fn_fraction) (st := Hk05.top 6) Hk05.sc_fraction rfl rfl Hk05.ck_fraction (fun _ _ _ _ _ _ us hl => match us, hl with | [_, _], _ => rfl) KX G ?a ?l ?c ?k⟩
      (case a => k_is); (case l => k_is); (case c => k_is); (case k => k_is)
    obtain ⟨f24, fd24, d24⟩ : ∃ f fd, Dn.DefAt (L2.KOf KX) mg Hk05.Q [] ([] : List (PySem.Addr × PySem.Str)) Dn.fn_square_root f fd ["one"] := by
      refine' ⟨_, _, Dn.def_at (Q := Hk05.Q) (fn := Dn.fn_square_root) (st := Hk05.top 12) Hk05.sc_square_root rfl rfl Hk05.ck_square_root (fun _ _ _ _ _ _ us hl => match us, hl with | [_], _ => rfl) KX G ?a ?l ?c ?k⟩
      (case a => k_is); (case l => k_is); (case c => k_is); (case k => k_is)
    obtain ⟨f53, fd53, d53⟩ : ∃ f fd, Dn.DefAt (L2.KOf KX) mg Hk05.Q [] ([] : List (PySem.Addr × PySem.Str)) Dn.fn_law_is_square f fd ["one"] := by
      refine' ⟨_, _, Dn.def_at (Q := Hk05.Q) (fn := Dn.fn_law_is_square) (st := Hk05.top 29) Hk05.sc_law_is_square rfl rfl Hk05.ck_law_is_square (fun _ _ _ _ _ _ us hl => match us, hl with | [_], _ => rfl) KX G ?a ?l ?c ?k⟩
      (case a => k_is); (case l => k_is); (case c => k_is); (case k => k_is)
    obtain ⟨f39, fd39, d39⟩ : ∃ f fd, Dn.DefAt (L2.KOf KX) mg Hk05.Q [] ([] : List (PySem.Addr × PySem.Str)) Dn.fn_law_plus f fd ["one", "other"] := by
      refine' ⟨_, _, Dn.def_at (Q := Hk05.Q) (fn := Dn.fn_law_plus) (st := Hk05.top 26) Hk05.sc_law_plus rfl rfl Hk05.ck_law_plus (fun _ _ _ _ _ _ us hl => match us, hl with | [_, _], _ => rfl) KX G ?a ?l ?c ?k⟩
      (case a => k_is); (case l => k_is); (case c => k_is); (case k => k_is)
    obtain ⟨f51, fd51, d51⟩ : ∃ f fd, Dn.DefAt (L2.KOf KX) mg Hk05.Q [] ([] : List (PySem.Addr × PySem.Str)) Dn.fn_law_by f fd ["one", "other"] := by
      refine' ⟨_, _, Dn.def_at (Q := Hk05.Q) (fn := Dn.fn_law_by) (st := Hk05.top 27) Hk05.sc_law_by rfl rfl Hk05.ck_law_by (fun _ _ _ _ _ _ us hl => match us, hl with | [_, _], _ => rfl) KX G ?a ?l ?c ?k⟩
      (case a => k_is); (case l => k_is); (case c => k_is); (case k => k_is)
    obtain ⟨f52, fd52, d52⟩ : ∃ f fd, Dn.DefAt (L2.KOf KX) mg Hk05.Q [] ([] : List (PySem.Addr × PySem.Str)) Dn.fn_law_root_of f fd ["number_"] := by
      refine' ⟨_, _, Dn.def_at (Q := Hk05.Q) (fn := Dn.fn_law_root_of) (st := Hk05.top 28) Hk05.sc_law_root_of rfl rfl Hk05.ck_law_root_of (fun _ _ _ _ _ _ us hl => match us, hl with | [_], _ => rfl) KX G ?a ?l ?c ?k⟩
      (case a => k_is); (case l => k_is); (case c => k_is); (case k => k_is)
    obtain ⟨f1, fd1, d1⟩ : ∃ f fd, Dn.DefAt (L2.KOf KX) mg Hk05.Q [] ([] : List (PySem.Addr × PySem.Str)) Dn.fn_divisor f fd ["one", "other"] := by
      refine' ⟨_, _, Dn.def_at (Q := Hk05.Q) (fn := Dn.fn_divisor) (st := Hk05.top 5) Hk05.sc_divisor rfl rfl Hk05.ck_divisor (fun _ _ _ _ _ _ us hl => match us, hl with | [_, _], _ => rfl) KX G ?a ?l ?c ?k⟩
      (case a => k_is); (case l => k_is); (case c => k_is); (case k => k_is)
    obtain ⟨f23, fd23, d23⟩ : ∃ f fd, Dn.DefAt (L2.KOf KX) mg Hk05.Q [] ([] : List (PySem.Addr × PySem.Str)) Dn.fn_whole_root f fd ["number"] := by
      refine' ⟨_, _, Dn.def_at (Q := Hk05.Q) (fn := Dn.fn_whole_root) (st := Hk05.top 11) Hk05.sc_whole_root rfl rfl Hk05.ck_whole_root (fun _ _ _ _ _ _ us hl => match us, hl with | [_], _ => rfl) KX G ?a ?l ?c ?k⟩
      (case a => k_is); (case l => k_is); (case c => k_is); (case k => k_is)
    obtain ⟨M, eK, eT, xc, ex, _⟩ : ∃ M : Dn.Kit, M.K = L2.KOf KX ∧ M.T = [] ∧ Dn.Xc (L2.KOf KX) mg M ∧ M.xs = [1] ∧ M.cv = Dn.cvOf [(1, _)] := by
      refine' Dn.xc_1 KX G 1 "NoNumber" rfl (by decide) (by decide) ?a1 ?i1 ?e1 ?k1 ?b1 ?t1 ?s1_1
      (case a1 => k_is); (case i1 => k_is); (case e1 => k_exc); (case k1 => k_is); (case b1 => k_is); (case t1 => k_is)
      (case s1_1 => first | rfl | k_is)
    have bl : ∀ x ∈ Dn.bltNames, mg x = none := by
      refine' Dn.blt_ok KX G ?z1 ?z2 ?z3 ?z4 ?z5 ?z6 ?z7 ?z8 ?z9 ?z10 ?z11 ?z12 ?z13
      all_goals k_is
    have t_NOUGHT : Dn.TopAt (L2.KOf KX) mg ("NOUGHT", Dn.top_NOUGHT) := by
      refine' Dn.top_tup KX G ?a ?l ?h ?z
      (case a => k_is); (case l => k_is); (case h => refine' (.cons .int (.cons .int .nil))); (case z => decide)
    refine ⟨M, f73, fd73, eT, Dn.hd_mk eK bl (eT ▸ (.cons Dn.g_law_k05 d73 (.cons Dn.g_less d69 (.cons Dn.g_root d50 (.cons Dn.g_plain d26 (.cons Dn.g_law_same d11 (.cons Dn.g_law_less d72 (.cons Dn.g_law_one d7 (.cons Dn.g_law_plain d40 (.cons Dn.g_law_frac d14 (.cons Dn.g_law_between d71 (.cons Dn.g_law_some_number d55 (.cons Dn.g_law_some_under d56 (.cons Dn.g_law_deck d4 (.cons Dn.g_sign_of_two d68 (.cons Dn.g_by d19 (.cons Dn.g_minus d59 (.cons Dn.g_plus d18 (.cons Dn.g_number d27 (.cons Dn.g_law_sort d10 (.cons Dn.g_law_pick d5 (.cons Dn.g_law_number d54 (.cons Dn.g_law_some_fraction d15 (.cons Dn.g_sign_of d22 (.cons Dn.g_fraction d3 (.cons Dn.g_square_root d24 (.cons Dn.g_law_is_square d53 (.cons Dn.g_law_plus d39 (.cons Dn.g_law_by d51 (.cons Dn.g_law_root_of d52 (.cons Dn.g_divisor d1 (.cons Dn.g_whole_root d23 (.nil))))))))))))))))))))))))))))))))) (List.forall_mem_cons.mpr ⟨t_NOUGHT, (List.forall_mem_nil _)⟩) xc ex (fun z => nomatch z), eT ▸ d73, hb⟩

end
