import PyProof.Rows.All
import Wide.All
import OpenK.AllK
import Wide.FinOn
import KE.KStateDown
import HandS.Base
import HandS.Call
import HandS.Ends
import HandS.More
import HandS.Words
import HandS.WordsExc
import HandS.Defaults
import HandS.Head0
import HandS.Head1
import HandS.Head2
import HandS.HeadEnd
import HandS.HeadHook1
import HandS.HeadHook2
import HandS.HeadHook3
import HandS.HeadHook4
import HandS.List
import HandS.Wide
import HandS.Deep
import HandS.Exc
import HandS.ExcValue
import KE.KExcSuper
import HandS.ExcOwn
import HandS.Style
import HandS.Text
import HandS.IsInst
import HandS.WideBits
import PyProof.ReprRoads
import HandS.Iter
import HandS.Comp
import PyProof.ZipIter
import PyProof.ReprBulk
import PySem.Challenge.RW_gamestold_k75_whole_best_counts_and_shar
set_option Elab.async false
set_option linter.all false
/-! A pure evaluator of a part of Python: data as trees, lists that one name alone holds may be changed. -/
namespace PV
open PySem L2

/-! ### data -/
inductive D where
  | non | bl (b : Bool) | int (i : Int) | str (s : Str)
  | tup (xs : List D) | lst (xs : List D)
  | scr (ns : List Int) | dic | rng (lo hi : Int) | exn (c : Str) (v : D) | fn (i : Nat)
mutual
def D.py : D → PyData
  | .non => .none
  | .bl b => .bool b
  | .int i => .int i
  | .str s => .str s
  | .tup xs => .tuple (D.pys xs)
  | .lst xs => .list (D.pys xs)
  | .scr ns => .list (ns.map .int)
  | .dic => .dict []
  | .rng _ _ => .none
  | .exn _ _ => .none
  | .fn _ => .none
def D.pys : List D → List PyData
  | [] => []
  | x :: r => D.py x :: D.pys r
end
mutual
/-- plain data: None, bools, ints, texts, tuples and lists of them -/
def D.pl : D → Bool
  | .non => true
  | .bl _ => true
  | .int _ => true
  | .str _ => true
  | .tup xs => D.pls xs
  | .lst xs => D.pls xs
  | .scr _ => true
  | _ => false
def D.pls : List D → Bool
  | [] => true
  | x :: r => D.pl x && D.pls r
end
/-- a tree of which some lists and tuples are held by nobody else -/
inductive CT where
  | d (x : D) | l (xs : List CT) | t (xs : List CT)
mutual
def CT.frz : CT → D
  | .d x => x
  | .l xs => .lst (CT.frzs xs)
  | .t xs => .tup (CT.frzs xs)
def CT.frzs : List CT → List D
  | [] => []
  | x :: r => CT.frz x :: CT.frzs r
end
def dAll : List CT → Option (List D)
  | [] => some []
  | .d x :: r => (dAll r).map (x :: ·)
  | _ :: _ => none
def mkT (cs : List CT) : CT := match dAll cs with
  | some ds => .d (.tup ds)
  | none => .t cs
def CT.atom : CT → Bool
  | .d .non => true
  | .d (.bl _) => true
  | .d (.int _) => true
  | .d (.str _) => true
  | _ => false
/-- the items of a list -/
def CT.lels : CT → Option (List D)
  | .d (.lst xs) => some xs
  | .l cs => dAll cs
  | _ => none
def CT.tels : CT → Option (List D)
  | .d (.tup xs) => some xs
  | .t cs => dAll cs
  | _ => none
def CT.at (c : CT) (k : Int) : Option CT := match c with
  | .d (.lst xs) => (atI xs k).map .d
  | .d (.tup xs) => (atI xs k).map .d
  | .d (.scr ns) => (atI ns k).map fun n => .d (.int n)
  | .d (.str s) => if s.length ≤ 1000000 then (atI s.cps.toList k).map fun c => .d (.str ⟨#[c]⟩) else none
  | .l xs => atI xs k
  | .t xs => atI xs k
  | _ => none
inductive Res (α : Type) where
  | ok (a : α) | exc (c : Str) (v : D) | bad
def Res.bd {α β : Type} : Res α → (α → Res β) → Res β
  | .ok a, f => f a
  | .exc c v, _ => .exc c v
  | .bad, _ => .bad
def cutB {α : Type} (b : Bool) (r : Res α) : Res α := match b, r with
  | true, .exc _ _ => .bad
  | _, r => r
/-- an exception is not carried -/
def Res.cut {α : Type} : Res α → Res α
  | .ok a => .ok a
  | _ => .bad
def Res.of {α : Type} : Option α → Res α
  | some a => .ok a
  | none => .bad
abbrev Env := List (Option CT)
def Env.get (e : Env) (i : Nat) : Option CT := match e[i]? with
  | some o => o
  | none => none

/-! ### the text -/
inductive O2 where | add | sub | mul | fdiv | mod | pow | eq | ne | lt | le | gt | ge | inn | nin | is | isn
  deriving DecidableEq
inductive TyN where | int | bool | str | list | tuple
  deriving DecidableEq
inductive BI where | len | abs | int | all | any | sum | max | min | repr | list | tuple | range | str | blen
  deriving DecidableEq
inductive Tgt where | nm (i : Nat) | tp (ts : List Tgt)
inductive ME where
  | bad | lit (d : D) | glob (k : Nat) | var (i : Nat) | take (i : Nat)
  | tup (es : List ME) | lst (es : List ME) | fr (a : ME)
  | op (o : O2) (a b : ME) | neg (a : ME) | not (a : ME) | and (es : List ME) | or (es : List ME)
  | chain (a : ME) (os : List O2) (es : List ME) | ife (c a b : ME)
  | attr (all : List Str) (a : ME)
  | idx (a i : ME) | slc (a lo hi : ME) | isi (a : ME) (ts : List TyN)
  | call (bor : Bool) (f : Nat) (es : List ME) | callIO (f i : Nat) (es : List ME) | callK (f : Nat) (perm : List Nat) (ks : List Str) (es : List ME)
  | bi (b : BI) (es : List ME)
  | sq (a : ME) | rg (es : List ME) | en (a : ME) | zp (es : List ME)
  | lc (own : List (Str × Nat)) (elt : ME) (t : Tgt) (src : ME) (cs : List ME)
  | lc2 (own own1 : List (Str × Nat)) (elt : ME) (t : Tgt) (src : ME) (t2 : Tgt) (src2 : ME) (cs : List ME)
mutual
/-- changes nothing that there is -/
def ME.pu : ME → Bool
  | .bad => true
  | .lit _ => true
  | .glob _ => true
  | .var _ => true
  | .take _ => true
  | .tup es => ME.pus es
  | .lst es => ME.pus es
  | .fr a => a.pu
  | .op _ a b => a.pu && b.pu
  | .neg a => a.pu
  | .not a => a.pu
  | .and es => ME.pus es
  | .or es => ME.pus es
  | .chain a _ es => a.pu && ME.pus es
  | .ife c a b => c.pu && (a.pu && b.pu)
  | .attr _ a => a.pu
  | .idx a i => a.pu && i.pu
  | .slc a lo hi => a.pu && (lo.pu && hi.pu)
  | .isi a _ => a.pu
  | .call _ _ es => ME.pus es
  | .callIO _ _ _ => false
  | .callK _ _ _ es => ME.pus es
  | .bi _ es => ME.pus es
  | .sq a => a.pu
  | .rg es => ME.pus es
  | .en a => a.pu
  | .zp es => ME.pus es
  | .lc _ elt _ src cs => elt.pu && (src.pu && ME.pus cs)
  | .lc2 _ _ elt _ src _ src2 cs => elt.pu && (src.pu && (src2.pu && ME.pus cs))
def ME.pus : List ME → Bool
  | [] => true
  | e :: r => e.pu && ME.pus r
end

/-! ### operators -/
def lmax : Nat := 1000000
def mulOk (i j : Int) : Prop := CMul i j ∨ CMulW i j
instance (i j : Int) : Decidable (mulOk i j) := by unfold mulOk CMul CMulW; exact inferInstance
def divOk (i j : Int) : Prop := CDivW i j
instance (i j : Int) : Decidable (divOk i j) := by unfold divOk CDivW; exact inferInstance
def powOk (i j : Int) : Prop := 0 ≤ j ∧ j ≤ 1000 ∧ (Builtin.Int.intBits i : Int) * j ≤ 1000000
instance (i j : Int) : Decidable (powOk i j) := by unfold powOk; exact inferInstance
def guardP (p : Prop) [Decidable p] (c : CT) : Option CT := if p then some c else none
/-- data that == is asked of -/
def eqOk (a b : D) : Prop := a.pl = true ∧ b.pl = true ∧ SeqAt.shaped a.py = true ∧ SeqAt.shaped b.py = true
instance (a b : D) : Decidable (eqOk a b) := by unfold eqOk; exact inferInstance
def bD (b : Bool) : CT := .d (.bl b)
def D.isNon : D → Bool | .non => true | _ => false
def D.isBl (b : Bool) : D → Bool | .bl c => b == c | _ => false
def opAdd (a b : CT) : Option CT := match a, b with
  | .d (.int i), .d (.int j) => some (.d (.int (i + j)))
  | .d (.str i), .d (.str j) => guardP (i.length + j.length ≤ lmax) (.d (.str (i ++ j)))
  | a, b => match a.lels, b.lels with
    | some xs, some ys => guardP (xs.length + ys.length ≤ lmax) (.l ((xs ++ ys).map .d))
    | _, _ => match a.tels, b.tels with
      | some xs, some ys => guardP (xs.length + ys.length ≤ lmax ∧ xs.isEmpty = false ∧ ys.isEmpty = false) (.d (.tup (xs ++ ys)))
      | _, _ => none
def opMul (a b : CT) : Option CT := match a, b with
  | .d (.int i), .d (.int j) => guardP (mulOk i j) (.d (.int (i * j)))
  | a, .d (.int k) => match a.lels with
    | some xs => guardP (-(2 ^ 63) ≤ k ∧ k < 2 ^ 63 ∧ xs.length * k.toNat ≤ lmax) (.l ((List.replicate k.toNat xs).flatten.map .d))
    | none => none
  | _, _ => none
def opInt (f : Int → Int → Option CT) (a b : CT) : Option CT := match a, b with
  | .d (.int i), .d (.int j) => f i j
  | _, _ => none
def opEq (n : Bool) (a b : CT) : Option CT := guardP (eqOk a.frz b.frz) (bD (PyData.eqv a.frz.py b.frz.py != n))
def opIn (n : Bool) (a b : CT) : Option CT := match b.frz with
  | .lst ys => guardP (eqOk a.frz (.lst ys)) (bD ((D.pys ys).any (fun z => PyData.eqv z a.frz.py) != n))
  | .tup ys => guardP (eqOk a.frz (.tup ys) ∧ a.atom = true ∧ (ys.all fun y => (CT.d y).atom) = true) (bD ((D.pys ys).any (fun z => PyData.eqv z a.frz.py) != n))
  | .str s => match a with
    | .d (.str z) => some (bD ((!(Builtin.Str.occurrences s z 0 s.length 1).isEmpty) != n))
    | _ => none
  | _ => none
def opIs (n : Bool) (a b : CT) : Option CT := match b with
  | .d .non => some (bD (a.frz.isNon != n))
  | .d (.bl c) => some (bD (a.frz.isBl c != n))
  | _ => none
def opf : O2 → CT → CT → Option CT
  | .add => opAdd
  | .sub => opInt fun i j => some (.d (.int (i - j)))
  | .mul => opMul
  | .fdiv => opInt fun i j => guardP (divOk i j) (.d (.int (i / j)))
  | .mod => opInt fun i j => guardP (0 < j) (.d (.int (i % j)))
  | .pow => opInt fun i j => guardP (powOk i j) (.d (.int (i ^ j.toNat)))
  | .eq => opEq false
  | .ne => opEq true
  | .lt => opInt fun i j => some (bD (decide (i < j)))
  | .le => opInt fun i j => some (bD (decide (i ≤ j)))
  | .gt => opInt fun i j => some (bD (decide (j < i)))
  | .ge => opInt fun i j => some (bD (decide (j ≤ i)))
  | .inn => opIn false
  | .nin => opIn true
  | .is => opIs false
  | .isn => opIs true
def cutL {α : Type} (xs : List α) (lo hi : Option Int) : List α := (xs.drop (HT.sIx xs.length 0 lo)).take (HT.sIx xs.length xs.length hi - HT.sIx xs.length 0 lo)
def slcf (a : CT) (l h : Option Int) : Option CT := match a with
  | .d (.scr ns) => some (.l ((cutL ns l h).map fun n => .d (.int n)))
  | .d (.str s) => guardP (s.length ≤ lmax) (.d (.str ⟨(cutL s.cps.toList l h).toArray⟩))
  | a => match a.lels with
    | some xs => some (.l ((cutL xs l h).map .d))
    | none => match a.tels with
      | some xs => guardP (¬ (HT.sIx xs.length 0 l = 0 ∧ HT.sIx xs.length xs.length h = xs.length)) (.d (.tup (cutL xs l h)))
      | none => none
/-- a slice's bound -/
def asPart : CT → Option (Option Int)
  | .d (.int i) => some (some i)
  | _ => none
def partOf : ME → CT → Option (Option Int)
  | .lit .non, _ => some none
  | _, c => asPart c
def tyIs : TyN → D → Option Bool
  | t, .non => some false
  | t, .bl _ => some (t == .int || t == .bool)
  | t, .int _ => some (t == .int)
  | t, .str _ => some (t == .str)
  | t, .tup _ => some (t == .tuple)
  | t, .lst _ => some (t == .list)
  | t, .scr _ => some (t == .list)
  | _, _ => none
def isif : List TyN → D → Option Bool
  | [], _ => some false
  | [t], d => tyIs t d
  | t :: r, d => match tyIs t d, isif r d with
    | some a, some b => some (a || b)
    | _, _ => none
def intsOf : List D → Option (List Int)
  | [] => some []
  | .int i :: r => (intsOf r).map (i :: ·)
  | _ :: _ => none
def blsOf : List D → Option (List Bool)
  | [] => some []
  | .bl i :: r => (blsOf r).map (i :: ·)
  | _ :: _ => none
def smallR (i : Int) : Prop := -(2 ^ 62) ≤ i ∧ i < 2 ^ 62
instance (i : Int) : Decidable (smallR i) := by unfold smallR; exact inferInstance
def reprOk (d : D) : Prop := d.pl = true ∧ SeqAt.shaped d.py = true ∧ d.py.showable = true ∧ d.py.shown.length ≤ lmax
instance (d : D) : Decidable (reprOk d) := by unfold reprOk; exact inferInstance
def bltf : BI → List CT → Option CT
  | .len, [a] => match a.frz with
    | .lst xs => some (.d (.int xs.length))
    | .tup xs => some (.d (.int xs.length))
    | .scr ns => some (.d (.int ns.length))
    | .str s => guardP (s.length ≤ lmax) (.d (.int s.length))
    | _ => none
  | .abs, [.d (.int i)] => some (.d (.int (if i < 0 then -i else i)))
  | .int, [.d (.int i)] => some (.d (.int i))
  | .int, [.d (.bl b)] => some (.d (.int (if b then 1 else 0)))
  | .all, [a] => match a.lels with
    | some xs => (blsOf xs).map fun bs => bD (bs.all id)
    | none => none
  | .any, [a] => match a.lels with
    | some xs => (blsOf xs).map fun bs => bD (bs.any id)
    | none => none
  | .sum, [a] => match a.lels with
    | some xs => (intsOf xs).map fun ns => .d (.int ns.sum)
    | none => none
  | .max, [.d (.int i), .d (.int j)] => some (.d (.int (if j > i then j else i)))
  | .repr, [a] => guardP (reprOk a.frz) (.d (.str a.frz.py.shown))
  | .list, [a] => match a.lels with
    | some xs => some (.l (xs.map .d))
    | none => match a.tels with
      | some xs => some (.l (xs.map .d))
      | none => none
  | .range, [.d (.int j)] => guardP (smallR j) (.d (.rng 0 j))
  | .range, [.d (.int i), .d (.int j)] => guardP (smallR i ∧ smallR j) (.d (.rng i j))
  | .blen, [.d (.int i)] => guardP (i.natAbs.log2 < 1000000) (.d (.int (Builtin.Int.intBits i)))
  | _, _ => none
/-- what a loop walks -/
def rngL (lo hi : Int) : List D := (List.range (hi - lo).toNat).map fun (k : Nat) => .int (lo + (k : Int))
def CT.walk : CT → Option (List D)
  | .d (.rng lo hi) => if smallR lo ∧ smallR hi then some (rngL lo hi) else none
  | .d (.scr ns) => some (ns.map .int)
  | c => match c.lels with
    | some xs => some xs
    | none => c.tels
def rgf : List CT → Option CT
  | [.d (.int j)] => guardP (smallR j) (.l ((rngL 0 j).map .d))
  | [.d (.int i), .d (.int j)] => guardP (smallR i ∧ smallR j) (.l ((rngL i j).map .d))
  | _ => none
def enumD (xs : List D) : List D := (xs.zipIdx).map fun p => .tup [.int (p.2 : Nat), p.1]
def zipD (xs ys : List D) : List D := (xs.zip ys).map fun p => .tup [p.1, p.2]
/-- a list's items -/
def CT.zl : CT → Option (List D)
  | .d (.scr ns) => some (ns.map .int)
  | c => c.lels
def zpf : List CT → Option (List D)
  | [x, y] => match x.zl, y.zl with
    | some xs, some ys => if xs.length = ys.length then some (zipD xs ys) else none
    | _, _ => none
  | _ => none
/-- the parts of a tuple -/
def CT.tparts : CT → Option (List CT)
  | .d (.tup xs) => some (xs.map .d)
  | .t cs => some cs
  | _ => none
mutual
/-- a value laid into a target -/
def asgC : Tgt → CT → Env → Option Env
  | .nm i, x, env => if i < env.length then some (env.set i (some x)) else none
  | .tp ts, c, env => match c.tparts with
    | some cs => asgCs ts cs env
    | none => none
def asgCs : List Tgt → List CT → Env → Option Env
  | [], [], env => some env
  | t :: ts, x :: xs, env => (asgC t x env).bind fun e => asgCs ts xs e
  | _, _, _ => none
end
/-- a block's own names forgotten; behind it the frozen ones stand again -/
def clr : List (Str × Nat) → Env → Env
  | [], e => e
  | p :: r, e => (clr r e).set p.2 none
def dOnly : Option CT → Option CT
  | some (.d x) => some (.d x)
  | _ => none
def back (e0 : Env) : List (Str × Nat) → Env → Env
  | [], e => e
  | p :: r, e => back e0 r (e.set p.2 (dOnly (e0.get p.2)))
def forE (f : D → Env → Res (List CT × Env)) : List D → Env → Res (List CT × Env)
  | [], env => .ok ([], env)
  | x :: xs, env => (f x env).bd fun r => (forE f xs r.2).bd fun q => .ok (r.1 ++ q.1, q.2)
def perms {α : Type} (perm : List Nat) (xs : List α) : List α := perm.filterMap fun i => xs[i]?
/-- an error's value -/
def xval (all : List Str) : CT → Option D
  | .d (.exn c v) => if c ∈ all then some v else none
  | _ => none
/-- what is frozen of the names -/
def dEnv (e : Env) : Env := e.map dOnly
abbrev Rn := Nat → List CT → Res (CT × Option CT)
section
variable (R : Rn) (G : List D)
mutual
def ev (p : Bool) : ME → Env → Res (CT × Env)
  | .bad, _ => .bad
  | .lit d, env => .ok (.d d, env)
  | .glob k, env => match G[k]? with
    | some d => .ok (.d d, env)
    | none => .bad
  | .var i, env => match env.get i with
    | some c => if p then .ok (c, env) else .ok (.d c.frz, env.set i (some (.d c.frz)))
    | none => .bad
  | .take i, env => match env.get i with
    | some c => if p then .ok (c, env) else .ok (c, env.set i none)
    | none => .bad
  | .tup es, env => (evs p es env).bd fun r => .ok (mkT r.1, r.2)
  | .lst es, env => (evs p es env).bd fun r => .ok (.l r.1, r.2)
  | .fr a, env => (ev p a env).bd fun r => if p then .ok r else .ok (.d r.1.frz, r.2)
  | .op o a b, env => (ev (a.pu && b.pu) a env).bd fun r => (ev (a.pu && b.pu) b r.2).bd fun q => (Res.of (opf o r.1 q.1)).bd fun c => .ok (c, q.2)
  | .neg a, env => (ev a.pu a env).bd fun r => match r.1 with
    | .d (.int i) => .ok (.d (.int (-i)), r.2)
    | _ => .bad
  | .not a, env => (ev a.pu a env).bd fun r => match r.1 with
    | .d (.bl b) => .ok (.d (.bl (!b)), r.2)
    | _ => .bad
  | .and es, env => evAnd es env
  | .or es, env => evOr es env
  | .chain a os es, env => (ev (a.pu && ME.pus es) a env).bd fun r => evCh (a.pu && ME.pus es) r.1 os es r.2
  | .ife c a b, env => (ev c.pu c env).bd fun r => match r.1 with
    | .d (.bl true) => ev p a r.2
    | .d (.bl false) => ev p b r.2
    | _ => .bad
  | .attr all a, env => (ev a.pu a env).bd fun r => match xval all r.1 with
    | some d => .ok (.d d, r.2)
    | none => .bad
  | .idx a i, env => (ev (a.pu && i.pu) a env).bd fun r => (ev (a.pu && i.pu) i r.2).bd fun q => match q.1 with
    | .d (.int k) => match r.1.at k with
      | some (.d x) => .ok (.d x, q.2)
      | some c => if p then .ok (c, q.2) else .bad
      | none => .bad
    | _ => .bad
  | .slc a lo hi, env => (ev (a.pu && (lo.pu && hi.pu)) a env).bd fun r => (ev (a.pu && (lo.pu && hi.pu)) lo r.2).bd fun q => (Res.of (partOf lo q.1)).bd fun l => (ev (a.pu && (lo.pu && hi.pu)) hi q.2).bd fun z => (Res.of (partOf hi z.1)).bd fun h => (Res.of (slcf r.1 l h)).bd fun c => .ok (c, z.2)
  | .isi a ts, env => (ev a.pu a env).bd fun r => match isif ts r.1.frz with
    | some b => .ok (.d (.bl b), r.2)
    | none => .bad
  | .call bor f es, env => (evs (bor && ME.pus es) es env).bd fun r => (cutB (bor && ME.pus es) (R f (r.1.map fun c => .d c.frz))).bd fun q => if (bor && ME.pus es) = true ∧ q.1.atom = false then .bad else .ok (q.1, r.2)
  | .callIO f i es, env => (Res.of (env.get i)).bd fun _ => (evs false es env).bd fun r => match r.2.get i with
    | some c => (R f (c :: r.1.map fun c => .d c.frz)).bd fun q => match q.2 with
      | some c' => .ok (q.1, r.2.set i (some c'))
      | none => .bad
    | none => .bad
  | .callK f perm _ es, env => (evs false es env).bd fun r => (R f ((perms perm r.1).map fun c => .d c.frz)).bd fun q => .ok (q.1, r.2)
  | .bi b es, env => (evs (ME.pus es) es env).bd fun r => (Res.of (bltf b r.1)).bd fun c => .ok (c, r.2)
  | .sq a, env => (ev p a env).bd fun r => match r.1.walk with
    | some xs => .ok (.l (xs.map .d), r.2)
    | none => .bad
  | .rg es, env => (evs p es env).bd fun r => (Res.of (rgf r.1)).bd fun c => .ok (c, r.2)
  | .en a, env => (ev p a env).bd fun r => match r.1.lels with
    | some xs => .ok (.l ((enumD xs).map .d), r.2)
    | none => .bad
  | .zp es, env => (evs p es env).bd fun r => match zpf r.1 with
    | some xs => .ok (.l (xs.map .d), r.2)
    | none => .bad
  | .lc own elt t src cs, env => (ev (elt.pu && (src.pu && ME.pus cs)) src env).bd fun r => match r.1.lels with
    | some xs => (forE (fun x e => match asgC t (.d x) e with
        | some e1 => (evC cs e1).bd fun b => if b.1 = true then (ev false elt b.2).bd fun q => .ok ([q.1], clr own q.2) else .ok ([], clr own b.2)
        | none => .bad) xs (clr own r.2)).cut.bd fun q => if q.1.length ≤ lmax then .ok (.l q.1, back r.2 own q.2) else .bad
    | none => .bad
  | .lc2 own own1 elt t src t2 src2 cs, env => (ev (elt.pu && (src.pu && (src2.pu && ME.pus cs))) src env).bd fun r => match r.1.lels with
    | some xs => (forE (fun x e => match asgC t (.d x) e with
        | some e1 => (ev false src2 e1).bd fun z => match z.1.lels with
          | some ys => (forE (fun y e => match asgC t2 (.d y) e with
            | some e2 => (evC cs e2).bd fun b => if b.1 = true then (ev false elt b.2).bd fun q => .ok ([q.1], clr own1 q.2) else .ok ([], clr own1 b.2)
            | none => .bad) ys (clr own1 z.2)).bd fun w => .ok (w.1, clr own w.2)
          | none => .bad
        | none => .bad) xs (clr own r.2)).cut.bd fun q => if q.1.length ≤ lmax then .ok (.l q.1, back r.2 own q.2) else .bad
    | none => .bad
def evs (p : Bool) : List ME → Env → Res (List CT × Env)
  | [], env => .ok ([], env)
  | e :: es, env => (ev p e env).bd fun r => (evs p es r.2).bd fun q => .ok (r.1 :: q.1, q.2)
def evAnd : List ME → Env → Res (CT × Env)
  | [], _ => .bad
  | [e], env => (ev e.pu e env).bd fun r => match r.1 with
    | .d (.bl b) => .ok (.d (.bl b), r.2)
    | _ => .bad
  | e :: es, env => (ev e.pu e env).bd fun r => match r.1 with
    | .d (.bl true) => evAnd es r.2
    | .d (.bl false) => .ok (.d (.bl false), r.2)
    | _ => .bad
def evOr : List ME → Env → Res (CT × Env)
  | [], _ => .bad
  | [e], env => (ev e.pu e env).bd fun r => match r.1 with
    | .d (.bl b) => .ok (.d (.bl b), r.2)
    | _ => .bad
  | e :: es, env => (ev e.pu e env).bd fun r => match r.1 with
    | .d (.bl false) => evOr es r.2
    | .d (.bl true) => .ok (.d (.bl true), r.2)
    | _ => .bad
def evCh (q : Bool) (x : CT) : List O2 → List ME → Env → Res (CT × Env)
  | [o], [e], env => (ev q e env).bd fun r => (Res.of (opf o x r.1)).bd fun c => .ok (c, r.2)
  | o :: os, e :: es, env => (ev q e env).bd fun r => match opf o x r.1 with
    | some (.d (.bl true)) => evCh q r.1 os es r.2
    | some (.d (.bl false)) => .ok (.d (.bl false), r.2)
    | _ => .bad
  | _, _, _ => .bad
/-- a comprehension's test: none or one -/
def evC : List ME → Env → Res (Bool × Env)
  | [], env => .ok (true, env)
  | [e], env => (ev e.pu e env).bd fun r => match r.1 with
    | .d (.bl b) => .ok (b, r.2)
    | _ => .bad
  | _, _ => .bad
end
end

/-! ### statements -/
inductive MS where
  | bad | asg (i : Nat) (e : ME) | unp (ts : List Tgt) (e : ME) | par (is : List Nat) (es : List ME)
  | app (i : Nat) (e : ME) | seti (i : Nat) (k e : ME)
  | expr (e : ME) | ret (e : ME) | pass
  | ite (c : ME) (a b : List MS)
  | for_ (t : Tgt) (src : ME) (b : List MS)
  | while_ (c : ME) (b : List MS)
  | raise_ (c : Str) (e : ME)
  | tryE (all : List Str) (e : ME) (cn : Str) (i x : Nat)
inductive SRes where
  | nx (e : Env) | rt (c : CT) (e : Env) | exc (c : Str) (v : D) | bad
def Res.go {α : Type} : Res α → (α → SRes) → SRes
  | .ok a, f => f a
  | .exc c v, _ => .exc c v
  | .bad, _ => .bad
def SRes.go : SRes → (Env → SRes) → SRes
  | .nx e, f => f e
  | r, _ => r
def sets : List Nat → List CT → Env → Option Env
  | [], [], env => some env
  | i :: is, c :: cs, env => if i < env.length then sets is cs (env.set i (some c)) else none
  | _, _, _ => none
def setI (c q : CT) (o : Option CT) : Option CT := match q, o with
  | .d (.int n), some (.l xs) => (ixN xs.length n).map fun j => .l (xs.set j c)
  | _, _ => none
def forS (f : D → Env → SRes) : List D → Env → SRes
  | [], env => .nx env
  | x :: xs, env => (f x env).go fun e => forS f xs e
def whS (c : Env → Res (Bool × Env)) (f : Env → SRes) : Nat → Env → SRes
  | 0, _ => .bad
  | n + 1, env => (c env).go fun b => if b.1 = true then (f b.2).go fun e => whS c f n e else .nx b.2
section
variable (R : Rn) (G : List D) (W : Nat)
/-- a test -/
def evT (e : ME) (env : Env) : Res (Bool × Env) := (ev R G e.pu e env).bd fun r => match r.1 with
  | .d (.bl b) => .ok (b, r.2)
  | _ => .bad
mutual
def evS : MS → Env → SRes
  | .bad, _ => .bad
  | .asg i e, env => (ev R G false e env).go fun r => if i < r.2.length then .nx (r.2.set i (some r.1)) else .bad
  | .unp ts e, env => (ev R G false e env).go fun r => match asgC (.tp ts) r.1 r.2 with
    | some e => .nx e
    | none => .bad
  | .par is es, env => (evs R G false es env).go fun r => match sets is r.1 r.2 with
    | some e => .nx e
    | none => .bad
  | .app i e, env => match env.get i with
    | some (.l _) => (ev R G false e env).go fun r => match r.2.get i with
      | some (.l xs) => if xs.length < lmax then .nx (r.2.set i (some (.l (xs ++ [r.1])))) else .bad
      | _ => .bad
    | _ => .bad
  | .seti i k e, env => (ev R G false e env).go fun r => (Res.of (r.2.get i)).go fun _ => (ev R G false k r.2).go fun q => (Res.of (setI r.1 q.1 (q.2.get i))).go fun c => .nx (q.2.set i (some c))
  | .expr e, env => (ev R G false e env).go fun r => .nx r.2
  | .ret e, env => (ev R G false e env).go fun r => .rt r.1 r.2
  | .pass, env => .nx env
  | .ite c a b, env => (evT R G c env).go fun r => if r.1 = true then evSs a r.2 else evSs b r.2
  | .for_ t src b, env => (ev R G false src env).go fun r => match r.1.lels with
    | some xs => forS (fun x e => match asgC t (.d x) e with
      | some e1 => evSs b e1
      | none => .bad) xs r.2
    | none => .bad
  | .raise_ c e, env => (ev R G false e env).go fun r => .exc c r.1.frz
  | .tryE all e cn i x, env => match ev R G false e (dEnv env) with
    | .ok _ => .nx env
    | .exc c v => if c ∈ all ∧ (c = cn ∨ cn = "GameError") ∧ i < env.length ∧ x < env.length then .nx ((env.set i none).set x (some (.d (.exn c v)))) else .bad
    | .bad => .bad
  | .while_ c b, env => whS (fun e => evT R G c e) (fun e => evSs b e) W env
def evSs : List MS → Env → SRes
  | [], env => .nx env
  | s :: r, env => (evS s env).go fun e => evSs r e
end
end
/-- a def: how many parameters, names, whether its first argument is changed, its body -/
structure Fn where
  np : Nat
  nn : Nat
  io : Bool
  body : List MS
/-- what a def hands back, and its first argument as it is left -/
def fin1 (io : Bool) : SRes → Res (CT × Option CT)
  | .nx e => if io = true then (Res.of (e.get 0)).bd fun c => .ok (.d .non, some c) else .ok (.d .non, none)
  | .rt c e => if io = true then (Res.of (e.get 0)).bd fun d => .ok (c, some d) else .ok (c, none)
  | .exc c v => .exc c v
  | .bad => .bad
/-- the program's defs, calls at most k deep -/
def run (G : List D) (W : Nat) (fs : List Fn) : Nat → Rn
  | 0, _, _ => .bad
  | k + 1, i, args => match fs[i]? with
    | some f => if args.length = f.np then fin1 f.io (evSs (run G W fs k) G W f.body (args.map some ++ List.replicate (f.nn - f.np) none)) else .bad
    | none => .bad
end PV

set_option maxRecDepth 100000
set_option maxHeartbeats 2000000
/-! The program's errors: a class over GameError(ValueError), whose __init__ says super().__init__(value) and keeps the value. -/
namespace PySem
namespace GErr
open PySem.W PySem.Calls PyProof.Rows PySem.HandSPX
def iA (p1 p2 : Pos) (d : Expr) : Arguments := { posonlyargs := [], args := [{ arg := "self", annotation := none, pos := p1 }, { arg := "value", annotation := none, pos := p2 }], vararg := none, kwonlyargs := [], kw_defaults := [], kwarg := none, defaults := [d] }
def iB (a0 a1 a2 a3 a4 a5 b0 b1 b2 b3 : Pos) : List Stmt := [.Expr (.Call (.Attribute (.Call (.Name "super" a0) [] [] a1) "__init__" a2) [.Name "value" a3] [] a4) a5, .Assign [.Attribute (.Name "self" b0) "value" b1] (.Name "value" b2) b3]
def iS : Scope := { kind := .function, names := [(PySem.Str.ofString "self", .local), (PySem.Str.ofString "value", .local), (PySem.Str.ofString "__class__", .free), (PySem.Str.ofString "super", .globalImplicit)], isGenerator := false, isCoroutine := false, more := [] }
/-- what the written part says of an error class at C, of GameError at G, of __init__ at fI -/
structure ErrTxt (prog : Program) (K : Frag) (mg : Str → Option Value) (C G fI : Addr) : Prop where
  cls : ∃ nm q N bs bm sn sub ab col dd k0 k1 k2 k3 k5, K.lookup C = some (excClassObj nm q C N bs bm true sn sub ab col dd k0 k1 k2 k3 k5 "ValueError.__new__") ∧ refsVE bm = true
  sa : findIn K (.ref C) "__setattr__" = some (some (.builtin "object.__setattr__"))
  ga : findIn K (.ref C) "__getattribute__" = some (some (.builtin "BaseException.__getattribute__"))
  gg : findIn K (.ref C) "__getattr__" = some none
  noN : findIn K (.ref C) "value" = some none
  iC : findIn K (.ref C) "__init__" = some (some (.ref fI))
  tC : typeIn K (.ref fI) = some (.type "function")
  kC : keepIn K (.ref C) = true
  exC : subIn K (.ref C) (.type "BaseException") = some true
  tyC : typeIn K (.ref C) = some (.type "type")
  hdC : hasDictIn K C = true
  veC : subIn K (.ref C) (.type "ValueError") = some true
  mrG : mroIn K C (.ref G) = some true
  sup : ks_superIn K C G "__init__" = some (some (.builtin "ValueError.__init__"))
  opq : nsIn K cStatics "thirdparty.any" = some none
  nosup : mg "super" = none
  top : (prog.main.scope.names.lookup ("super" : Str)).isSome = false
  cd : ∃ cd, clsIn K G = some cd
  fn : ∃ (oc : Value) (od : Option Addr) (TT : Addr) (oT : Obj) (nT : Nat) (doc pm : Value) (an : Option Addr) (cda : Addr) (ct : Value) (osl : Array (Option Value)) (p1 p2 a0 a1 a2 a3 a4 a5 b0 b1 b2 b3 : Pos) (dx : Expr) (cc : Addr) (cl : Value) (cld : Option Addr) (csl : Array (Option Value)) (ccl : Value) (cdd : Option Addr) (vs : Array Value) (ccs : Array (Option Value)) (file : Str) (tf : Tok),
    K.lookup fI = some ⟨oc, od, .func (ksFn "__init__" "GameError.__init__" (iA p1 p2 dx) (iB a0 a1 a2 a3 a4 a5 b0 b1 b2 b3) iS (.ref TT) .none doc pm an (.ref cda) ct cc), osl⟩ ∧ K.lookup TT = some oT ∧ oT.data = .seq #[.none] nT ∧ codeIn K (.ref cda) "GameError.__init__" = true ∧
      K.lookup cc = some ⟨cl, cld, .cell (some (.ref G)), csl⟩ ∧ K.lookup cda = some ⟨ccl, cdd, .fields vs, ccs⟩ ∧ vs[2]? = some (.str file tf) ∧ ((prog.main.file : Str) == file) = true ∧ (a2.endLine == a4.line) = true
theorem one_sz (v : Value) : [v].length ≤ sizeLine := by
  rw [sizeLine_eq]; exact (by decide : 1 ≤ 16777216)
/-- a method-wrapper of ValueError.__init__ at u, called -/
theorem call_mw {prog : Program} {w : World} {A : Around} {E : Value → Shared → Prop} {h : Heap} {g : Array GenState} {d : Drawn} {t : Nat} {os : OsState} {nm q : Str} {C N : Addr} {bs bm : List Value} {hdct : Bool} {sn : List Str} {sub : List Value} {ab : Bool} {col : Option Bool}
    {dd : Option Addr} {k0 k1 k2 k3 k5 : Option Value} {u e t0 : Addr} {rest : List Value} {Q : Value → Shared → Prop}
    (hC : h.get? C = some (excClassObj nm q C N bs bm hdct sn sub ab col dd k0 k1 k2 k3 k5 "ValueError.__new__")) (he : h.get? e = some (excO C t0)) (hu : h.get? u = some (kxs_mw "ValueError.__init__" e)) (hr : rest.length ≤ sizeLine)
    (hq : ∀ h' t1, (∀ b o, b ≠ e → h.get? b = some o → h'.get? b = some o) → h'.get? e = some (excO C t1) → Q .none ⟨h', g, d, t, os⟩) :
    wpAny (model prog w) A (call (.ref u) rest) Q E ⟨h, g, d, t, os⟩ := by
  have FB := PySem.F.excBase_ValueError
  refine wpAny_call (codeAny_of_tree ?_)
  show wpAny _ A.in1 (callAny (.ref u) ⟨rest, []⟩) _ _ _
  simp only [callAny]
  refine wpAny_bind (wpAny_load hu ?_)
  simp only [kxs_mw, show (Value.type "method-wrapper" == Value.type "method" || Value.type "method-wrapper" == Value.type "builtin_function_or_method" || Value.type "method-wrapper" == Value.type "method-wrapper") = true by decide, if_true]
  refine W.KFB.if_so (by decide) ?_
  refine wpAny_bind (check_bound_init FB.toExcCallFacts hC he rfl ?_)
  refine wpAny_bind (wpAny_pure (wpAny_pure ?_))
  refine ⟨Code.quiet_builtin _ (by decide +kernel), codeAny_builtin FB.initEntry ?_⟩
  rw [Around.under_plainId FB.init.plain _]
  wp_walk
  refine hq _ h.objs.size (fun b o hb ho => ?_) ?_
  · rw [Heap.get?_update_other _ _ (Ne.symm hb)]
    exact Heap.get?_push_of_some _ ho
  · rw [Heap.get?_update_self _ (Heap.get?_push_of_some _ he) rfl]
    rfl
theorem call_text {env : Env} {a0 a1 a2 a3 a4 : Pos} (hline : (a2.endLine == a4.line) = true) : eval (.Call (.Attribute (.Call (.Name "super" a0) [] [] a1) "__init__" a2) [.Name "value" a3] [] a4) env = (do
      let ov ← attributeBase (.Call (.Name "super" a0) [] [] a1) "__init__" env (eval (.Call (.Name "super" a0) [] [] a1) env)
      standAt a2.atName
      let (f, first) ← holding [ov] (getMethod ov "__init__" (do return (← importBound (.Call (.Name "super" a0) [] [] a1) env).getD true))
      callWith a4 f first (backTo a4 (starEach [.Name "value" a3] env)) []) := by
  rw [arm_eval_Call]
  have hp : methodCallPos true (.Call (.Name "super" a0) [] [] a1) env a2 a4 = pure a4 := by unfold methodCallPos; simp [hline]
  have hf : methodCallForm 1 (backTo a4 (starEach [.Name "value" a3] env)) (backToKw a4 (keywordEach [] env)) = true := rfl
  congr 1
  funext ov
  congr 1
  funext _
  unfold methodCall
  rw [show ([Expr.Name "value" a3].length + ([] : List Keyword).length) = 1 from rfl, hf]
  unfold calleeOf
  rw [if_pos rfl, hp]
  rfl
/-- what __init__ leaves of a fresh exception at x -/
structure InitEnd (h h' : Heap) (x C dx t1 : Addr) (v : Value) : Prop where
  keep : ∀ b o, b ≠ x → h.get? b = some o → h'.get? b = some o
  obj : h'.get? x = some { cls := .ref C, dict := some dx, data := .fields #[.ref t1, .none, .none, .none, .bool false, .none] }
  dbig : h.objs.size ≤ dx
  dne : dx ≠ x
  ns : h'.Ns1 dx (fun y => if y = "value" then some v else none)
section
variable {prog : Program} {w : World} {A : Around} {E : Value → Shared → Prop} {R : Result → Shared → Prop} {s : Shared} {K : Frag} {mg : Str → Option Value} {C G fI : Addr}
theorem err_init (T : ErrTxt prog K mg C G fI) {base : Heap} (MB : L2.Mod K mg base) (kb : ∀ b o, base.get? b = some o → s.heap.get? b = some o) {x t0 : Addr} {v : Value} (hx : s.heap.get? x = some (excO C t0)) (hnx : K.lookup x = none) (hroom : A.depth < recursionLimit)
    (hq : ∀ h' tk dx t1, InitEnd s.heap h' x C dx t1 v → R (.ok (.ret .none)) { s with heap := h', toks := tk }) :
    codeAny (model prog w) A (.call (.ref fI) ⟨[.ref x, v], []⟩) R s := by
  obtain ⟨oc, od, TT, oT, nT, doc, pm, an, cda, ct, osl, p1, p2, a0, a1, a2, a3, a4, a5, b0, b1, b2, b3, dx, cc, cl, cld, csl, ccl, cdd, vs, ccs, file, tf, ho, hTT, hoT, hcd, hcell, hcode, hvs, hfile, hline⟩ := T.fn
  obtain ⟨nm, q, N, bs, bm, sn, sub, ab, col, dd, k0, k1, k2, k3, k5, hC, hbm⟩ := T.cls
  obtain ⟨cdG, hG⟩ := T.cd
  have hcl : clsIn K C = some { name := nm, bases := bs, mro := .ref C :: bm, ns := N, qualname := q, hasDict := true, slotNames := sn, subclasses := sub, abstract := ab, collection := col, hasDel := false } := by unfold clsIn; rw [hC] <;> rfl
  have X : K.In s.heap := MB.kin.keeps kb
  have hlim : s.heap.NoLimit := MB.nolimit.keeps kb
  have hcells : ∀ y ∈ iS.names, y.2 ≠ .cell := by decide
  have hlocs : ∀ y ∈ [(("self" : Str), Value.ref x), (("value" : Str), v)], iS.names.lookup y.1 = some .local := by
    intro y hy
    simp only [List.mem_cons, List.not_mem_nil, or_false] at hy
    rcases hy with rfl | rfl <;> rfl
  refine ks_codeAny_call_defAt (body := iB a0 a1 a2 a3 a4 a5 b0 b1 b2 b3) (binds := [("self", .ref x), ("value", v)]) hroom (X _ _ ho) rfl hlim (codeRec_of X hcd) rfl (BindsTo.of_defaults rfl (X _ _ hTT) hoT rfl rfl) hcells hlocs (fun h₁ hn k₁ => ?_) rfl rfl rfl
  have X₁ : K.In h₁ := X.keeps k₁
  have hx₁ := k₁ _ _ hx
  have hxL : s.heap.objs.size ≠ x := Nat.ne_of_gt (Heap.lt_size hx)
  obtain ⟨mb, hmb, hmb2⟩ := MB.blt
  have kb₁ : ∀ b o, base.get? b = some o → h₁.get? b = some o := fun b o e => k₁ b o (kb b o e)
  have hself : (fun y => ([(("self" : Str), Value.ref x), (("value" : Str), v)].reverse.lookup y)) "self" = some (.ref x) := by first | rfl | with_unfolding_all rfl | kernel_rfl
  have hval : (fun y => ([(("self" : Str), Value.ref x), (("value" : Str), v)].reverse.lookup y)) "value" = some v := by first | rfl | with_unfolding_all rfl | kernel_rfl
  refine ks_wpAt_execs_cons (ks_wpAt_Expr_any ?_)
  refine ks_wpAt_MethodCall ?_ (call_text hline)
  refine ks_wpAt_super_base (cc := cda) (fd := ksFn "__init__" "GameError.__init__" (iA p1 p2 dx) (iB a0 a1 a2 a3 a4 a5 b0 b1 b2 b3) iS (.ref TT) .none doc pm an (.ref cda) ct cc) rfl rfl (by decide) rfl (X₁ _ _ ho) rfl rfl rfl (X₁ _ _ hcode) rfl hvs hfile T.top ?_
  refine ks_loadName_global rfl rfl (loadGlobal_builtin (MB.glob.keeps kb₁) T.nosup (hmb.keeps kb₁) ((hmb2 _ (by decide)).trans (by first | rfl | kernel_rfl)) ⟨rfl, ?_⟩)
  refine wpAny_loadName_free rfl rfl rfl ⟨_, X₁ _ _ hcell, rfl⟩ ?_
  refine wpAny_loadName_local rfl rfl hn hself ?_
  obtain ⟨oG, hoG, hdG⟩ : ∃ oG, h₁.get? G = some oG ∧ oG.data = .cls cdG := by
    unfold clsIn at hG
    split at hG
    · rename_i c d cd' sl ho'
      cases hG
      exact ⟨_, X₁ _ _ ho', rfl⟩
    · cases hG
  refine ks_wpAny_isType_cls hoG hdG ⟨rfl, ?_⟩
  have IA : InstAt h₁ x (excO C t0) C none := ⟨hx₁, rfl, rfl, trivial⟩
  refine ks_wpAny_call_super hoG hdG hx₁ rfl (fun c e => by cases e) (looks_mroIn X₁ T.mrG) (fun h₂ eso k₂ => ?_)
  have X₂ : K.In h₂ := X₁.keeps k₂
  have hx₂ := k₂ _ _ hx₁
  have hsup : alongIn K "__init__" (((Value.ref C :: bm).dropWhile (· != .ref G)).drop 1) = some (some (.builtin "ValueError.__init__")) := by
    have z := T.sup
    unfold ks_superIn at z
    rw [hcl] at z
    exact z
  have IA2 : InstAt h₂ x (excO C t0) C none := ⟨hx₂, rfl, rfl, trivial⟩
  refine kxs_getMethod kxs_ValueError eso (looks_opaque X₂ T.opq) (l₀ := .ref C :: bm) ?_ rfl X₂ hsup (IA2.type.andThen (looks_subIn X₂ T.veC)) (ks_ne X₁ IA hcl) (by decide) ?_
  · exact fun A Q E s k q => wpAny_bind ((looks_clsIn X₂ hcl) A _ E s k (wpAny_pure q))
  have k₃ : ∀ b o, h₂.get? b = some o → (h₂.push (kxs_mw "ValueError.__init__" x)).get? b = some o := fun b o e => Heap.get?_push_of_some _ e
  have hu : (h₂.push (kxs_mw "ValueError.__init__" x)).get? h₂.objs.size = some (kxs_mw "ValueError.__init__" x) := Heap.get?_push_at rfl rfl
  have hn₃ := (hn.keeps k₂).keeps k₃
  refine kxs_callWith (i := "ValueError.__init__") (x := x) rfl ?_
  show wpAny _ _ (evalArgs _ true [(false, eval (.Name "value" a3) _)] []) _ _ _
  refine evalArgs_plain (Calls.spliced_cons ?_)
  refine wpAny_Name (wpAny_loadName_local rfl rfl hn₃ hval (Calls.spliced_nil ⟨hu, ?_⟩)) (by decide)
  have X₃ : K.In (h₂.push (kxs_mw "ValueError.__init__" x)) := X₂.keeps k₃
  refine call_mw (X₃ _ _ hC) (k₃ _ _ hx₂) hu (one_sz v) fun h₄ t1 k₄ hx₄ => ?_
  have hnx₄ : ∀ b o, K.lookup b = some o → h₄.get? b = some o := fun b o e => k₄ b o (fun z => by rw [z, hnx] at e; cases e) (X₃ b o e)
  have X₄ : K.In h₄ := hnx₄
  have keep₄ : ∀ b o, b ≠ x → s.heap.get? b = some o → h₄.get? b = some o := fun b o hb e => k₄ b o hb (k₃ b o (k₂ b o (k₁ b o e)))
  have hn₄ : h₄.Ns s.heap.objs.size (fun y => ([(("self" : Str), Value.ref x), (("value" : Str), v)].reverse.lookup y)) := by
    obtain ⟨oL, es, ep, hL, r⟩ := hn₃
    exact ⟨oL, es, ep, k₄ _ _ hxL hL, r⟩
  refine ks_wpAt_execs_cons (wpAt_of_wpAny ?_)
  refine plainObj_wpAny_Assign_Attribute ?_
  refine wpAny_Name (wpAny_loadName_local rfl rfl hn₄ hval ?_) (by decide)
  refine wpAny_Name (wpAny_loadName_local rfl rfl hn₄ hself ?_) (by decide)
  refine set_plain X₄ (ox := excO C t1) (od := none) ⟨hx₄, rfl, rfl, trivial⟩ T.sa ?_
  refine exc_osa X₄ hx₄ hcl (show refsVE (.ref C :: bm) = true from hbm) rfl T.noN (fun h₅ tk₅ dx k₅ dn dne hx₅ hn₅ => ?_)
  refine wpAt_of_wpAny ?_
  show wpAny _ _ (execs _ _) _ _ _
  have z : s.heap.objs.size ≤ dx := by
    obtain ⟨oL, es, ep, hL, r⟩ := hn₄
    have := Heap.lt_size hL
    exact Nat.le_of_lt (Nat.lt_of_lt_of_le this dn)
  exact wpAny_execs_nil (hq h₅ tk₅ dx t1 ⟨fun b o hb e => k₅ b o hb (keep₄ b o hb e), hx₅, z, dne, hn₅⟩)
/-- a made error -/
structure OwnMade (h h' : Heap) (e C d : Addr) (v : Value) : Prop where
  keep : ∀ b o, h.get? b = some o → h'.get? b = some o
  new : h.objs.size ≤ e
  obj : ∃ oe vs, h'.get? e = some oe ∧ oe.cls = .ref C ∧ oe.dict = some d ∧ oe.data = .fields vs ∧ vs[1]? = some .none
  dbig : h.objs.size ≤ d
  dne : d ≠ e
  ns : h'.Ns1 d (fun y => if y = "value" then some v else none)
theorem err_made (T : ErrTxt prog K mg C G fI) {base : Heap} (MB : L2.Mod K mg base) (kb : ∀ b o, base.get? b = some o → s.heap.get? b = some o) {v : Value} (hroom : A.depth + 1 < recursionLimit)
    (hq : ∀ h' tk e d, OwnMade s.heap h' e C d v → R (.ok (.ret (.ref e))) { s with heap := h', toks := tk }) :
    codeAny (model prog w) A (.call (.ref C) ⟨[v], []⟩) R s := by
  obtain ⟨nm, q, N, bs, bm, sn, sub, ab, col, dd, k0, k1, k2, k3, k5, hC, hbm⟩ := T.cls
  have X : K.In s.heap := MB.kin.keeps kb
  obtain ⟨hp, g, dr, tk, os⟩ := s
  have k : ∀ b o, hp.get? b = some o → ((hp.push (kdv_tup [v])).push (excO C hp.objs.size)).get? b = some o := fun b o e => Heap.get?_push_of_some _ (Heap.get?_push_of_some _ e)
  have hget : ((hp.push (kdv_tup [v])).push (excO C hp.objs.size)).get? (hp.objs.size + 1) = some (excO C hp.objs.size) := by heap_get
  have hnx : K.lookup (hp.objs.size + 1) = none := by
    cases e : K.lookup (hp.objs.size + 1) with
    | none => rfl
    | some o =>
      have z : hp.get? (hp.objs.size + 1) = some o := X _ _ e
      exact absurd (Nat.lt_of_succ_lt (Heap.lt_size z)) (Nat.lt_irrefl _)
  refine call_own F.excBase_ValueError (fun X => refsVE_contains X bm hbm) (X _ _ hC) (looks_findIn X T.iC) (fun self => bind_fn X self T.tC) (one_sz v) ?_
  refine err_init (s := ⟨(hp.push (kdv_tup [v])).push (excO C hp.objs.size), g, dr, tk, os⟩) T MB (fun b o e => k b o (kb b o e)) hget hnx ?_ fun h' tk' dx t1 ⟨k', hx, dn, dne, hns⟩ => ?_
  · show A.depth + 1 < recursionLimit
    exact hroom
  · have old : ∀ b o, hp.get? b = some o → h'.get? b = some o := fun b o e => k' b o (Nat.ne_of_lt (Nat.lt_succ_of_lt (Heap.lt_size e))) (k b o e)
    have z : hp.objs.size + 1 + 1 ≤ dx := by
      first
        | (simpa only [Heap.size_push] using dn)
        | exact dn
        | (have q := dn; rw [Heap.size_push, Heap.size_push] at q; exact q)
    exact ⟨rfl, hq h' tk' (hp.objs.size + 1) dx ⟨old, Nat.le_succ _, ⟨_, _, hx, rfl, rfl, rfl, rfl⟩, Nat.le_trans (Nat.le_trans (Nat.le_succ _) (Nat.le_succ _)) z, dne, hns⟩⟩
end
end GErr
end PySem
namespace L2
open PySem PySem.Spec PyProof.Rows
theorem relO_err {v : V} {v' : Value} (r : RelV v v') (f : Str) : RelO (List.lookup f [(("value" : Str), v)]) (if f = "value" then some v' else none) := by
  by_cases hw : f = "value"
  · subst hw
    rw [if_pos rfl]
    have q : List.lookup ("value" : Str) [(("value" : Str), v)] = some v := by simp [List.lookup]
    rw [q]
    exact r
  · rw [if_neg hw]
    have qw : (f == ("value" : Str)) = false := by simpa using hw
    have q2 : List.lookup f [(("value" : Str), v)] = none := by simp [List.lookup, qw]
    rw [q2]
    trivial
section
variable {X : Cx} {C G fI : Addr}
/-- X(e) -/
def tMkErr (C : Addr) (ta : TA) : St → Hp → XK → Prop := fun σ H Q => ta σ H fun vs H1 => ∃ v, vs = [v] ∧ ∀ d, H1 d = none → Q (.ref C) (some d) (upd H1 d (.xd [(("value" : Str), v)]))
theorem pmk_err {x : Str} {a : Expr} {ta : TA} {p pos : Pos} {k : Nat} (T : PySem.GErr.ErrTxt X.prog X.K X.mg C G fI) (gC : X.mg x = some (.ref C)) (hr : Room k X.A) (ha : PA X [a] ta) (hg : Gl X x) (hdb : (x == ("__debug__" : Str)) = false)
    (he : starEach (a :: []) X.env = (false, eval a X.env) :: starEach [] X.env := by rfl) (hpl : (backTo pos (starEach [] X.env)).any (·.1) = false := by rfl) :
    PMk X (.Call (.Name x p) [a] [] pos) (tMkErr C ta) := by
  intro pins s σ H Q I h
  refine wpAny_Call_Name_kw (ld_glob I hg gC ?_ hdb)
  refine PySem.W.callWith_K (h₀ := X.base) I.ok.mod.kin T.kC (thn (ha.run pos pins s σ H _ I h) fun us s1 hh => ?_) he hpl
  obtain ⟨vs, H1, I1, r1, v, ev, q1⟩ := hh
  subst ev
  refine ⟨I1.kIn, ?_⟩
  cases r1 with
  | cons rv rn =>
    rename_i v' us'
    cases rn
    show wpAny _ _ (call (.ref C) [v']) _ _ _
    have mb := I1.ok.mod
    have bk := I1.bk
    obtain ⟨hp, g, dr, tk, os⟩ := s1
    refine wpAny_call (PySem.GErr.err_made T mb bk (by have := hr.dp; omega) fun h' tk' e d M => ?_)
    show MkP X pins σ Q (.ref e) ⟨h', g, dr, tk', os⟩
    obtain ⟨oe, fv, hoe, hc, hd, hdat, h1⟩ := M.obj
    have hns := M.ns
    obtain ⟨G', g1, g2⟩ := restrict h' fun b => decide (b ≠ e)
    have gk : ∀ b, b ≠ e → G'.get? b = h'.get? b := fun b hb => g1 b (decide_eq_true hb)
    have ge : G'.get? e = none := g2 e (by simp)
    have old : ∀ b o, hp.get? b = some o → G'.get? b = some o := fun b o q => (gk b (Nat.ne_of_lt (Nat.lt_of_lt_of_le (Heap.lt_size q) M.new))).trans (M.keep b o q)
    have ob : ObjOk X.prog X.w (upd H1 d (.xd [(("value" : Str), v)])) G' d (.xd [(("value" : Str), v)]) :=
      ⟨_, hns.at (fun o q => (gk d M.dne).trans q), fun f => relO_err rv f⟩
    have J : Inv X pins σ (upd H1 d (.xd [(("value" : Str), v)])) ⟨G', g, dr, tk', os⟩ := I1.laid (t' := tk') old M.dbig ob
    refine ⟨e, oe, fv, ⟨G', g, dr, tk', os⟩, _, .ref C, some d, rfl, J, fun b o q => ?_, ge, hoe, ⟨hc, hd⟩, hdat, h1, ?_, rfl, I1.bare, raises_own T.exC T.tyC, q1 d (I1.hok.fresh M.dbig)⟩
    · by_cases hb : b = e
      · have q' : G'.get? b = some o := q
        rw [hb, ge] at q'; cases q'
      · exact (gk b hb).symm.trans q
    · rw [upd_ne (Ne.symm M.dne)]
      exact I1.hok.fresh M.new
end
end L2

set_option maxRecDepth 100000
/-! try: a caught error is kept as a value. -/
namespace L2
open PySem PySem.Spec PyProof.Rows
/-- an error object that was caught: its class, its dict -/
def XO (C dd a : Addr) : HO := .ext fun h => ∃ (oe : Obj) (vs : Array Value), h.get? a = some oe ∧ Zc (.ref C) (some dd) oe ∧ oe.data = .fields vs
theorem xo_ok {P : Program} {w : World} {H : Hp} {h : Heap} {a C dd : Addr} {oe : Obj} {vs : Array Value} (e : h.get? a = some oe) (z : Zc (.ref C) (some dd) oe) (d : oe.data = .fields vs) : ObjOk P w H h a (XO C dd a) :=
  ⟨⟨oe, vs, e, z, d⟩, ⟨oe, e⟩, fun _ _ ⟨o, v, q, r⟩ k => ⟨o, v, k o q, r⟩⟩
section
variable {X : Cx} {pins : List (Addr × Obj)} {σ : St} {H : Hp} {s : Shared}
/-- an object that nothing tracks, new since the entry, is tracked from here on -/
theorem Inv.adopt {a : Addr} {oe : Obj} {vs : Array Value} {o : HO} (I : Inv X pins σ H s) (ha : s.heap.get? a = some oe) (hd : oe.data = .fields vs) (na : H a = none) (nL : a ≠ X.env.locals) (n0 : X.s_0.heap.get? a = none) (np : ∀ p ∈ X.pn ++ pins, p.1 ≠ a)
    (new : ObjOk X.prog X.w (upd H a o) s.heap a o) : Inv X pins σ (upd H a o) s where
  ok := I.ok
  os := I.os
  bare := I.bare
  base := ⟨I.base.keep, I.base.slot, fun b u e n x => by rw [upd_ne (fun z => by rw [z, n0] at e; cases e)]; exact I.base.free b u e n x, I.base.there,
    fun b xs e => by have q := I.base.tups b xs e; rw [upd_ne (ne_of_none q na)]; exact q,
    fun b u y e => by have q := I.base.frzs b u y e; rw [upd_ne (ne_of_none q na)]; exact q,
    fun b ps e => by obtain ⟨m, q⟩ := I.base.tbls b ps e; exact ⟨m, by rw [upd_ne (ne_of_none q na)]; exact q⟩⟩
  loc := I.loc
  cell := I.cell
  free := by rw [upd_ne (Ne.symm nL)]; exact I.free
  freeC := fun x c e => by
    obtain ⟨v, u, z1, z2⟩ := I.cell x c e
    rw [upd_ne (fun z => by rw [z, ha] at z1; cases z1; rw [hd] at z2; cases z2)]
    exact I.freeC x c e
  pin := fun p hp => by
    obtain ⟨p1, p2, p3⟩ := I.pin p hp
    exact ⟨p1, by rw [upd_ne (np p hp)]; exact p2, p3⟩
  hok := I.hok.laidN (fun _ _ e => e) na new
  len := I.len
end
/-- what a clause that keeps the error wishes: slot i is its name's -/
def wKeep (K : PySem.W.Frag) (c : Value) (i : Nat) (ts : Addr → Value → Option Addr → TS) (Wout : WX) (D : Ends) : WX := fun cls d σ H =>
  ∃ b, PySem.W.exmOne K cls c = some b ∧ (b = true → ∃ C dd, cls = .ref C ∧ d = some dd ∧ ∀ a, H a = none → ts a cls d { nx := fun σ' H' => D.nx (σ'.set i none) (upd H' a (XO C dd a)), rt := fun _ _ => False } (σ.set i (some (.ref a))) H) ∧ (b = false → Wout cls d σ H)
section
variable {X : Cx} {y n : Str} {c : Value} {i : Nat} {body suite : List Stmt} {b₀ : Stmt} {np pos pos' : Pos} {tb : WX → TS} {ts : Addr → Value → Option Addr → TS} {Wout : WX}
theorem ps_try_keep (st : X.stack = X.env :: X.outer) (fr : X.env.frame = some X.env.locals) (ex : X.ex = []) (nd : X.N.Nodup) (hi : X.N[i]? = some n) (hk : X.env.kindOf n = some .local) (nm : Names X y c) (tk : Takes X Wout)
    (hb : ∀ (W : WX) (pn : List (Addr × Obj)) (xe : Value → Shared → Prop), Takes (X.tr pn xe) W → PassesOwn (model X.prog X.w) X.A X.env xe → PSs (X.tr pn xe) body (tb W))
    (hs : ∀ (a : Addr) (oe : Obj) (cls : Value) (d : Option Addr) (pn : List (Addr × Obj)), Zc cls d oe → (∃ vs, oe.data = .fields vs) → PSs (X.suite a ((a, oe) :: pn)) (b₀ :: suite) (ts a cls d)) :
    PS X (.Try body [.ExceptHandler (some (.Name y np)) (some n) (b₀ :: suite) pos'] [] [] pos) (fun D σ H => tb (wKeep X.K c i ts Wout D) D σ H) := by
  refine ⟨fun pins s σ H D I h => ?_⟩
  have ok := I.ok
  have frm : X.A.frames = some (X.env :: X.outer) := ok.frames.trans (by rw [st])
  have vis : Loc X.env.scope n := Or.inl hk
  refine wpAny_Try_except (wpAny_mono ((hb (wKeep X.K c i ts Wout D) (X.pn ++ pins) (fun e t₁ => wpAny (model X.prog X.w) X.A (noteFrame e X.env) (fun _ t₂ => wpAny (model X.prog X.w) X.A (setFlight e none) (fun _ t₃ =>
    wpAny (model X.prog X.w) X.A (handleBy e X.env [.ExceptHandler (some (.Name y np)) (some n) (b₀ :: suite) pos']) (SP X pins D) X.xe t₃) X.xe t₂) X.xe t₁) ?cat PassesOwn.looking).run [] s σ H D (I.toTry _) h) ?fin fun e t₁ he => he)
  case fin =>
    intro f t₁ q
    cases f with
    | next =>
      obtain ⟨σ', H', J, z⟩ := q
      exact wpAny_execs_nil ⟨σ', H', J.ofTry ok, z⟩
    | brk =>
      obtain ⟨σ', H', J, z⟩ := q
      exact ⟨σ', H', J.ofTry ok, z⟩
    | cont =>
      obtain ⟨σ', H', J, z⟩ := q
      exact ⟨σ', H', J.ofTry ok, z⟩
    | ret u =>
      obtain ⟨v, σ', H', J, r, z⟩ := q
      exact ⟨v, σ', H', J.ofTry ok, r, z⟩
  case cat =>
    intro u t xx
    obtain ⟨a, B, sI, pins', σ', H', cls, d, rfl, J', nb, up, sky, na, os, ag, b, hx, yes, no⟩ := xx
    have J : Inv X pins σ' H' sI := J'.ofTry ok
    have skyE : Sky B (X.env :: X.outer) a (Zc cls d) X.env.locals t.heap := st ▸ sky
    have gone : B.get? a = none := by
      rcases sky with z | z | z
      · exact z.2.1
      · exact z.2.1
      · exact z.2.1
    show wpAny (model X.prog X.w) X.A (noteFrame (.ref a) X.env) _ _ _
    refine Sky.land Zc.steady frm fr skyE fun h3 fl3 up3 => ?_
    have J3 : Inv X pins σ' H' { t with heap := h3 } := J.landed nb fl3.1 (up.trans up3) os ag
    obtain ⟨oe3, vs3, he3, hz3, hd3⟩ := fl3.there
    have nfr : a ∉ frs (X.env :: X.outer) := fun hm => by
      obtain ⟨_, o', e', nf⟩ := fl3.2.2.1.mem hm
      rw [he3] at e'
      cases e'
      exact nf _ hd3
    have nL : a ≠ X.env.locals := fun z => nfr (List.mem_filterMap.mpr ⟨X.env, List.mem_cons_self, by rw [fr, z]⟩)
    have nF : a ∉ X.fs := fun hm => by
      obtain ⟨e, he, q⟩ := List.mem_filterMap.mp hm
      exact nfr (List.mem_filterMap.mpr ⟨e, List.mem_cons_of_mem _ he, q⟩)
    have n0 : X.s_0.heap.get? a = none := by
      cases e : X.s_0.heap.get? a with
      | none => rfl
      | some o =>
        obtain ⟨o', e'⟩ := J.base.there a o e (by rw [ex]; exact fun z => nomatch z)
        have := nb a o' e' (by rw [st]; exact nfr)
        rw [gone] at this
        cases this
    have npin : ∀ p ∈ X.pn ++ pins, p.1 ≠ a := fun p hp z => by
      obtain ⟨e, _, e2, e3, _⟩ := J.pin p hp
      have nf : p.1 ∉ frs X.stack := by rw [z, st]; exact nfr
      have := nb p.1 p.2 e nf
      rw [z, gone] at this
      cases this
    have S3 := J3.suite he3 hd3 na nL nF
    refine wpAny_handleBy_cons (codeAny_handlers_test ?_) (by intro q; cases q)
    have LT : PySem.W.Looks (model X.prog X.w) h3 (typeOf (.ref a)) cls := fun A Q E s k q => wpAny_typeOf_ref (k _ _ he3) (by rw [hz3.1]; exact q)
    have LM := PySem.W.exm_one (M := model X.prog X.w) J3.kIn LT hx
    have test : ∀ {Q : Value → Shared → Prop} {E : Value → Shared → Prop}, Q c { t with heap := h3 } → wpAny (model X.prog X.w) (X.A.mark (some (.ref a))) (eval (.Name y np) X.env) Q E { t with heap := h3 } := fun {Q E} q => by
      obtain ⟨hg, hdbg, hm | ⟨hm, hv, hnn⟩⟩ := nm
      · exact ld_glob (X := X.suite a ((a, oe3) :: (X.pn ++ pins))) S3 hg hm q hdbg
      · exact ld_blt (X := X.suite a ((a, oe3) :: (X.pn ++ pins))) S3 hg hm hv q hnn hdbg
    refine test (LM.here ?_)
    cases b with
    | false =>
      show wpAny _ X.A (handleBy (.ref a) X.env []) _ _ _
      refine wpAny_handleBy_nil ?_
      obtain ⟨k1, k2, k3, oe, vs, T, oT, ts', he, hz, hd, h1, hr⟩ := id fl3
      unfold PySem.passOn
      refine wpAny_bind (wpAny_field he hd h1 ?_)
      rw [if_neg (show ¬ ((Value.ref T == Value.none) = true) from by simp)]
      have goes : wpAny (model X.prog X.w) X.A (setFlight (.ref a) X.env.frame) (fun _ s4 => wpAny (model X.prog X.w) X.A (throw (.ref a) : Sem Flow) (SP X pins D) X.xe s4) X.xe { t with heap := h3 } := by
        rw [fr]
        refine HandSPX.setFlight_upZ fl3 fun h4 hh4 up4 => wpAny_throw (tk _ _ ?_)
        exact ⟨a, B, sI, pins', σ', H', cls, d, rfl, J'.ofTry ok |> fun _ => ⟨ok, J'.os, J'.bare, J'.base, J'.loc, J'.cell, J'.free, J'.freeC, fun p hp => by
          rcases List.mem_append.mp hp with hp | hp
          · exact J'.pin p (List.mem_append_left _ (List.mem_append_left _ hp))
          · exact J'.pin p (List.mem_append_right _ hp), J'.hok, J'.len⟩, nb, (up.trans up3).trans up4, .inr (.inr (by rw [st]; exact hh4)), na, os, ag, no rfl⟩
      first
        | exact wpAny_bind (wpAny_pure (wpAny_bind goes))
        | exact wpAny_bind goes
    | true =>
      obtain ⟨C, dd, rfl, rfl, go⟩ := yes rfl
      refine codeAny_handlers_suite_as ?_
      refine HandSPX.lands_againZ fl3 fun h4 fl4 up4 => ?_
      have J4 : Inv X pins σ' H' { t with heap := h4 } := J.landed nb fl4.1 ((up.trans up3).trans up4) os ag
      obtain ⟨oe4, vs4, he4, hz4, hd4⟩ := fl4.there
      have S4 := J4.suite he4 hd4 na nL nF
      refine store_ok (X := X.suite a ((a, oe4) :: (X.pn ++ pins))) (v := .ref a) S4 nd hi vis rfl (fun s5 S5 => ?_) (.inr hk)
      refine wpAny_mono ((hs a oe4 (.ref C) (some dd) (X.pn ++ pins) hz4 ⟨_, hd4⟩).run [] s5 _ H' _ S5 (go a na)) (fun f s6 hsp => ?_) (fun _ _ z => False.elim z)
      cases f with
      | next =>
        obtain ⟨σ6, H6, S6, q6⟩ := hsp
        obtain ⟨ha6, na6, _, _, _⟩ := S6.pin (a, oe4) (List.mem_append_left _ List.mem_cons_self)
        have J6 : Inv X pins σ6 (upd H6 a (XO C dd a)) s6 := (S6.unsuite ok).adopt ha6 hd4 na6 nL n0 npin (xo_ok ha6 hz4 hd4)
        exact gone_ok J6 nd hi hk fun s7 J7 => ⟨_, _, J7, q6⟩
      | brk =>
        obtain ⟨σ6, H6, S6, q6⟩ := hsp
        exact q6.elim
      | cont =>
        obtain ⟨σ6, H6, S6, q6⟩ := hsp
        exact q6.elim
      | ret u =>
        obtain ⟨v6, σ6, H6, S6, r6, q6⟩ := hsp
        exact q6.elim
end
section
variable {X : Cx}
/-- e.value, e an error that was caught -/
def tXv (T : Addr → Prop) (te : TE) : TE := fun σ H Q => te σ H fun x H1 => ∃ (a C dd : Addr) (v : V), x = .ref a ∧ T C ∧ H1 a = some (XO C dd a) ∧ H1 dd = some (.xd [(("value" : Str), v)]) ∧ Q v H1
theorem pe_xv {T : Addr → Prop} {G fI : Addr} {e : Expr} {te : TE} {pos : Pos} (ht : ∀ C, T C → PySem.GErr.ErrTxt X.prog X.K X.mg C G fI) (he : PE X e te) (hb : attributeBase e "value" X.env (eval e X.env) = eval e X.env) :
    PE X (.Attribute e "value" pos) (tXv T te) := by
  refine ⟨fun pins s σ H Q I h => ?_⟩
  refine attr_of hb (thn (he.run pins s σ H _ I h) fun u s1 hh => ?_)
  obtain ⟨x, H1, I1, rx, a, C, dd, v, ex, tc, ea, ed, q⟩ := hh
  have T := ht C tc
  subst ex
  obtain rfl : u = Value.ref a := rx
  obtain ⟨⟨oe, vs, ha, hz, hd⟩, _, _⟩ := I1.hok a _ ea
  obtain ⟨mA, hns, hr⟩ := I1.hok dd _ ed
  obtain ⟨od, ho, hl⟩ := lookIn_ns hns
  have l : List.lookup ("value" : Str) [(("value" : Str), v)] = some v := by simp [List.lookup]
  obtain ⟨u, hu, ru⟩ := RelO.some_of (v := v) (o := mA "value") (by rw [← l]; exact hr "value")
  have J : PySem.W.InstAt s1.heap a oe C (some od) := ⟨ha, hz.1, by unfold PySem.W.notCls; rw [hd] <;> rfl, by rw [hz.2]; exact ho⟩
  exact HandSPX.exc_get I1.kIn J T.ga T.gg T.exC (PySem.W.findObj_own T.hdC T.noN rfl (by rw [hl, hu])) (handed_of ru) ⟨v, H1, I1.tok _, ru, q⟩
end
end L2

/-! What the evaluator's data mean over the layer's heap. -/
namespace PV
open PySem PySem.Spec PyProof.Rows L2
abbrev Sl := L2.St

section
variable (K : PySem.W.Frag)
mutual
inductive RD (F : Hp) : D → V → Prop
  | non : RD F .non .non
  | bl (b : Bool) : RD F (.bl b) (.bl b)
  | int (i : Int) : RD F (.int i) (.int i)
  | str (s : Str) : RD F (.str s) (.str s)
  | tup {a : Addr} {vs : List V} {ds : List D} : SqT K F a vs → RDs F ds vs → RD F (.tup ds) (.ref a)
  | lst {a : Addr} {vs : List V} {ds : List D} : F a = some (.lst vs) → RDs F ds vs → RD F (.lst ds) (.ref a)
  | scr {a : Addr} {ns : List Int} : SqL K F a (ns.map V.int) → RD F (.scr ns) (.ref a)
  | rng {a : Addr} {lo hi : Int} : F a = some (.rng lo hi) → RD F (.rng lo hi) (.ref a)
  | dic {a : Addr} : F a = some (.dK []) → RD F .dic (.ref a)
  | exn {a d : Addr} {c : Str} {x : D} {v : V} : F a = some (L2.XO (He.ga K c) d a) → F d = some (.xd [(("value" : Str), v)]) → RD F x v → RD F (.exn c x) (.ref a)
inductive RDs (F : Hp) : List D → List V → Prop
  | nil : RDs F [] []
  | cons {x : D} {v : V} {xs : List D} {vs : List V} : RD F x v → RDs F xs vs → RDs F (x :: xs) (v :: vs)
end
mutual
/-- read: owned lists and tuples as they stand in H, what is frozen in F -/
inductive RP (H F : Hp) : CT → V → Prop
  | d {x : D} {v : V} : RD K F x v → RP H F (.d x) v
  | l {a : Addr} {vs : List V} {cs : List CT} : H a = some (.lst vs) → RPs H F cs vs → RP H F (.l cs) (.ref a)
  | t {a : Addr} {vs : List V} {cs : List CT} : H a = some (.tup vs) → RPs H F cs vs → RP H F (.t cs) (.ref a)
inductive RPs (H F : Hp) : List CT → List V → Prop
  | nil : RPs H F [] []
  | cons {x : CT} {v : V} {xs : List CT} {vs : List V} : RP H F x v → RPs H F xs vs → RPs H F (x :: xs) (v :: vs)
end
mutual
/-- held: u the addresses of the owned lists and tuples -/
inductive RC (H F : Hp) : CT → V → List Addr → Prop
  | d {x : D} {v : V} : RD K F x v → RC H F (.d x) v []
  | l {a : Addr} {vs : List V} {cs : List CT} {u : List Addr} : H a = some (.lst vs) → RCs H F cs vs u → RC H F (.l cs) (.ref a) (a :: u)
  | t {a : Addr} {vs : List V} {cs : List CT} {u : List Addr} : H a = some (.tup vs) → RCs H F cs vs u → RC H F (.t cs) (.ref a) (a :: u)
inductive RCs (H F : Hp) : List CT → List V → List Addr → Prop
  | nil : RCs H F [] [] []
  | cons {x : CT} {v : V} {xs : List CT} {vs : List V} {u w : List Addr} : RC H F x v u → RCs H F xs vs w → RCs H F (x :: xs) (v :: vs) (u ++ w)
end
/-- the names' values -/
inductive SR (H F : Hp) : Env → Sl → List Addr → Prop
  | nil : SR H F [] [] []
  | ns {o : Option V} {es : Env} {σ : Sl} {u : List Addr} : SR H F es σ u → SR H F (none :: es) (o :: σ) u
  | sm {c : CT} {v : V} {es : Env} {σ : Sl} {u w : List Addr} : RC K H F c v u → SR H F es σ w → SR H F (some c :: es) (some v :: σ) (u ++ w)
end
/-- B is kept, F frozen, U owned -/
structure WR (B F H : Hp) (U : List Addr) : Prop where
  f : Same F H
  b : Same B H
  nd : U.Nodup
  own : ∀ a ∈ U, F a = none ∧ B a = none ∧ H a ≠ none
/-- F has grown where B is nothing -/
structure Gr (B F F' : Hp) : Prop where
  s : Same F F'
  g : ∀ a o, F' a = some o → F a = some o ∨ B a = none

section
variable {K : PySem.W.Frag} {B F F' H H' : Hp}
theorem Same.sqt {a : Addr} {vs : List V} (s : Same F F') (h : SqT K F a vs) : SqT K F' a vs := by
  rcases h with (h | ⟨o, h⟩) | h
  · exact .inl (.inl (s _ _ h))
  · exact .inl (.inr ⟨o, s _ _ h⟩)
  · exact .inr h
mutual
theorem RD.mono (s : Same F F') : ∀ {x : D} {v : V}, RD K F x v → RD K F' x v
  | _, _, .non => .non
  | _, _, .bl b => .bl b
  | _, _, .int b => .int b
  | _, _, .str b => .str b
  | _, _, .tup h r => .tup (Same.sqt s h) (RDs.mono s r)
  | _, _, .lst h r => .lst (s _ _ h) (RDs.mono s r)
  | _, _, .scr h => .scr (s.seq h)
  | _, _, .rng h => .rng (s _ _ h)
  | _, _, .dic h => .dic (s _ _ h)
  | _, _, .exn h1 h2 r => .exn (s _ _ h1) (s _ _ h2) (RD.mono s r)
theorem RDs.mono (s : Same F F') : ∀ {x : List D} {v : List V}, RDs K F x v → RDs K F' x v
  | _, _, .nil => .nil
  | _, _, .cons h r => .cons (RD.mono s h) (RDs.mono s r)
end
mutual
theorem RP.mono (s : Same F F') (z : Same H H') : ∀ {x : CT} {v : V}, RP K H F x v → RP K H' F' x v
  | _, _, .d h => .d (h.mono s)
  | _, _, .l h r => .l (z _ _ h) (RPs.mono s z r)
  | _, _, .t h r => .t (z _ _ h) (RPs.mono s z r)
theorem RPs.mono (s : Same F F') (z : Same H H') : ∀ {x : List CT} {v : List V}, RPs K H F x v → RPs K H' F' x v
  | _, _, .nil => .nil
  | _, _, .cons h r => .cons (RP.mono s z h) (RPs.mono s z r)
end
mutual
theorem RC.rp : ∀ {x : CT} {v : V} {u : List Addr}, RC K H F x v u → RP K H F x v
  | _, _, _, .d h => .d h
  | _, _, _, .l h r => .l h (RCs.rp r)
  | _, _, _, .t h r => .t h (RCs.rp r)
theorem RCs.rp : ∀ {x : List CT} {v : List V} {u : List Addr}, RCs K H F x v u → RPs K H F x v
  | _, _, _, .nil => .nil
  | _, _, _, .cons h r => .cons (RC.rp h) (RCs.rp r)
end
mutual
/-- held still, where its own addresses are as they were -/
theorem RC.mono (s : Same F F') : ∀ {x : CT} {v : V} {u : List Addr}, RC K H F x v u → (∀ a ∈ u, H' a = H a) → RC K H' F' x v u
  | _, _, _, .d h, _ => .d (h.mono s)
  | _, _, _, .l h r, k => .l ((k _ (List.mem_cons_self)).trans h) (RCs.mono s r fun a m => k a (List.mem_cons_of_mem _ m))
  | _, _, _, .t h r, k => .t ((k _ (List.mem_cons_self)).trans h) (RCs.mono s r fun a m => k a (List.mem_cons_of_mem _ m))
theorem RCs.mono (s : Same F F') : ∀ {x : List CT} {v : List V} {u : List Addr}, RCs K H F x v u → (∀ a ∈ u, H' a = H a) → RCs K H' F' x v u
  | _, _, _, .nil, _ => .nil
  | _, _, _, .cons h r, k => .cons (RC.mono s h fun a m => k a (List.mem_append_left _ m)) (RCs.mono s r fun a m => k a (List.mem_append_right _ m))
end
theorem SR.mono (s : Same F F') : ∀ {e : Env} {σ : Sl} {u : List Addr}, SR K H F e σ u → (∀ a ∈ u, H' a = H a) → SR K H' F' e σ u
  | _, _, _, .nil, _ => .nil
  | _, _, _, .ns r, k => .ns (SR.mono s r k)
  | _, _, _, .sm h r, k => .sm (RC.mono s h fun a m => k a (List.mem_append_left _ m)) (SR.mono s r fun a m => k a (List.mem_append_right _ m))
mutual
/-- what is read, as data of the heap -/
theorem RP.frz (s : Same F H) : ∀ {x : CT} {v : V}, RP K H F x v → RD K H x.frz v
  | _, _, .d h => by rw [CT.frz]; exact h.mono s
  | _, _, .l h r => by rw [CT.frz]; exact .lst h (RPs.frz s r)
  | _, _, .t h r => by rw [CT.frz]; exact .tup (SqT.of h) (RPs.frz s r)
theorem RPs.frz (s : Same F H) : ∀ {x : List CT} {v : List V}, RPs K H F x v → RDs K H (CT.frzs x) v
  | _, _, .nil => by rw [CT.frzs]; exact .nil
  | _, _, .cons h r => by rw [CT.frzs]; exact .cons (RP.frz s h) (RPs.frz s r)
end
mutual
/-- frozen: F takes up the addresses -/
theorem RC.frz (s : Same F F') : ∀ {x : CT} {v : V} {u : List Addr}, RC K H F x v u → (∀ a ∈ u, F' a = H a) → RD K F' x.frz v
  | _, _, _, .d h, _ => by rw [CT.frz]; exact h.mono s
  | _, _, _, .l h r, k => by
    rw [CT.frz]
    exact .lst ((k _ (List.mem_cons_self)).trans h) (RCs.frz s r fun a m => k a (List.mem_cons_of_mem _ m))
  | _, _, _, .t h r, k => by
    rw [CT.frz]
    exact .tup (SqT.of ((k _ (List.mem_cons_self)).trans h)) (RCs.frz s r fun a m => k a (List.mem_cons_of_mem _ m))
theorem RCs.frz (s : Same F F') : ∀ {x : List CT} {v : List V} {u : List Addr}, RCs K H F x v u → (∀ a ∈ u, F' a = H a) → RDs K F' (CT.frzs x) v
  | _, _, _, .nil, _ => by rw [CT.frzs]; exact .nil
  | _, _, _, .cons h r, k => by
    rw [CT.frzs]
    exact .cons (RC.frz s h fun a m => k a (List.mem_append_left _ m)) (RCs.frz s r fun a m => k a (List.mem_append_right _ m))
end
theorem CT.frzs_map (cs : List CT) : CT.frzs cs = cs.map CT.frz := by
  induction cs with
  | nil => rw [CT.frzs]; rfl
  | cons c r ih => rw [CT.frzs, ih]; rfl

/-! ### worlds -/
theorem Gr.refl : Gr B F F := ⟨Same.refl _, fun _ _ h => .inl h⟩
theorem Gr.trans {F1 F2 : Hp} (a : Gr B F F1) (b : Gr B F1 F2) : Gr B F F2 := ⟨a.s.trans b.s, fun x o h => (b.g x o h).elim (fun h => a.g x o h) .inr⟩
theorem Gr.sub {B' : Hp} (a : Gr B' F F') (s : Same B B') : Gr B F F' := ⟨a.s, fun x o h => (a.g x o h).elim .inl fun n => .inr (by
  cases q : B x with
  | none => rfl
  | some u => rw [s x u q] at n; cases n)⟩
theorem Gr.none (g : Gr B F F') {a : Addr} (h : F a = none) (hb : B a ≠ none) : F' a = none := by
  cases q : F' a with
  | none => rfl
  | some o =>
    rcases g.g a o q with z | z
    · rw [h] at z; cases z
    · exact absurd z hb
theorem WR.sub {U W : List Addr} (w : WR B F H U) (s : W.Sublist U) : WR B F H W := ⟨w.f, w.b, w.nd.sublist s, fun a m => w.own a (s.subset m)⟩
theorem WR.perm {U W : List Addr} (w : WR B F H U) (s : U.Perm W) : WR B F H W := ⟨w.f, w.b, s.nodup_iff.mp w.nd, fun a m => w.own a (s.mem_iff.mpr m)⟩
theorem WR.left {U W : List Addr} (w : WR B F H (U ++ W)) : WR B F H U := w.sub (List.sublist_append_left _ _)
theorem WR.right {U W : List Addr} (w : WR B F H (U ++ W)) : WR B F H W := w.sub (List.sublist_append_right _ _)
theorem WR.comm {U W : List Addr} (w : WR B F H (U ++ W)) : WR B F H (W ++ U) := w.perm List.perm_append_comm
/-- all but U is to be kept -/
def lesser (H : Hp) (U : List Addr) : Hp := fun a => if a ∈ U then none else H a
theorem lesser_same {U : List Addr} : Same (lesser H U) H := fun a o h => by
  unfold lesser at h
  split at h
  · cases h
  · exact h
theorem lesser_in {U : List Addr} {a : Addr} (h : a ∈ U) : lesser H U a = none := by unfold lesser; rw [if_pos h]
theorem lesser_out {U : List Addr} {a : Addr} (h : a ∉ U) : lesser H U a = H a := by unfold lesser; rw [if_neg h]
theorem WR.lesser {U W : List Addr} (w : WR B F H (W ++ U)) : WR (lesser H U) F H U :=
  ⟨w.f, lesser_same, w.right.nd, fun a m => ⟨(w.right.own a m).1, lesser_in m, (w.right.own a m).2.2⟩⟩
theorem WR.base {U W : List Addr} (w : WR B F H (W ++ U)) : Same B (PV.lesser H U) := fun a o h => by
  have n : a ∉ U := fun m => by rw [(w.right.own a m).2.1] at h; cases h
  rw [lesser_out n]
  exact w.b a o h
/-- behind a further step, which kept what W holds -/
theorem WR.keep {U W U' : List Addr} {F2 H2 : Hp} (w : WR B F H (W ++ U)) (g : Gr (PV.lesser H U) F F2) (w2 : WR (PV.lesser H U) F2 H2 U') :
    WR B F2 H2 (W ++ U') ∧ Gr B F F2 ∧ ∀ a ∈ W, H2 a = H a := by
  have nd := List.nodup_append.mp w.nd
  have out : ∀ a ∈ W, a ∉ U := fun a m z => nd.2.2 a m a z rfl
  have hw : ∀ a ∈ W, PV.lesser H U a ≠ none := fun a m => by rw [lesser_out (out a m)]; exact (w.left.own a m).2.2
  have eq : ∀ a ∈ W, H2 a = H a := fun a m => by
    cases q : H a with
    | none => exact absurd q (w.left.own a m).2.2
    | some o => exact w2.b a o (by rw [lesser_out (out a m)]; exact q)
  refine ⟨⟨w2.f, w.base.trans w2.b, ?_, fun a m => ?_⟩, g.sub w.base, eq⟩
  · refine List.nodup_append.mpr ⟨nd.1, w2.nd, fun a m b z e => ?_⟩
    subst e
    exact hw a m (w2.own a z).2.1
  · rcases List.mem_append.mp m with m | m
    · exact ⟨g.none (w.left.own a m).1 (hw a m), (w.left.own a m).2.1, by rw [eq a m]; exact (w.left.own a m).2.2⟩
    · obtain ⟨h1, h2, h3⟩ := w2.own a m
      refine ⟨h1, ?_, h3⟩
      cases q : B a with
      | none => rfl
      | some o => rw [w.base a o q] at h2; cases h2
/-- W is frozen -/
def grown (F H : Hp) (W : List Addr) : Hp := fun a => if a ∈ W then H a else F a
theorem grown_in {W : List Addr} {a : Addr} (h : a ∈ W) : grown F H W a = H a := by unfold grown; rw [if_pos h]
theorem grown_out {W : List Addr} {a : Addr} (h : a ∉ W) : grown F H W a = F a := by unfold grown; rw [if_neg h]
theorem WR.grown {U W : List Addr} (w : WR B F H (W ++ U)) : WR B (grown F H W) H U ∧ Gr B F (PV.grown F H W) := by
  have nd := List.nodup_append.mp w.nd
  refine ⟨⟨fun a o h => ?_, w.b, w.right.nd, fun a m => ⟨?_, (w.right.own a m).2⟩⟩, ⟨fun a o h => ?_, fun a o h => ?_⟩⟩
  · unfold PV.grown at h
    split at h
    · exact h
    · exact w.f a o h
  · rw [grown_out fun z => nd.2.2 a z a m rfl]
    exact (w.right.own a m).1
  · rw [grown_out fun z => by rw [(w.left.own a z).1] at h; cases h]
    exact h
  · by_cases z : a ∈ W
    · exact .inr (w.left.own a z).2.1
    · rw [grown_out z] at h
      exact .inl h
theorem RC.freeze {U u : List Addr} {c : CT} {v : V} (w : WR B F H (u ++ U)) (r : RC K H F c v u) : RD K (grown F H u) c.frz v :=
  r.frz w.grown.2.s fun a m => grown_in m
theorem RCs.freeze {U u : List Addr} {c : List CT} {v : List V} (w : WR B F H (u ++ U)) (r : RCs K H F c v u) : RDs K (grown F H u) (CT.frzs c) v :=
  r.frz w.grown.2.s fun a m => grown_in m
/-- a new object -/
theorem WR.new {U : List Addr} {p : Addr} {o : HO} (w : WR B F H U) (n : H p = none) : WR B F (upd H p o) (p :: U) := by
  have out : p ∉ U := fun m => (w.own p m).2.2 n
  have fn : F p = none := by
    cases q : F p with
    | none => rfl
    | some u => rw [w.f p u q] at n; cases n
  have bn : B p = none := by
    cases q : B p with
    | none => rfl
    | some u => rw [w.b p u q] at n; cases n
  refine ⟨fun a u h => ?_, fun a u h => ?_, List.nodup_cons.mpr ⟨out, w.nd⟩, fun a m => ?_⟩
  · rw [upd_ne (fun e => by rw [e, fn] at h; cases h)]; exact w.f a u h
  · rw [upd_ne (fun e => by rw [e, bn] at h; cases h)]; exact w.b a u h
  · rcases List.mem_cons.mp m with rfl | m
    · exact ⟨fn, bn, by rw [upd_same]; simp⟩
    · have z := w.own a m
      exact ⟨z.1, z.2.1, by rw [upd_ne (fun e => out (by rw [← e]; exact m))]; exact z.2.2⟩
theorem new_same {p : Addr} {o : HO} (n : H p = none) : Same H (upd H p o) := fun a u h => by
  rw [upd_ne (fun e => by rw [e, n] at h; cases h)]; exact h
theorem new_eq {U : List Addr} {p : Addr} {o : HO} (w : WR B F H U) (n : H p = none) : ∀ a ∈ U, upd H p o a = H a := fun a m =>
  upd_ne fun e => (w.own a m).2.2 (e ▸ n)
/-- an owned object is written -/
theorem WR.write {U : List Addr} {p : Addr} {o : HO} (w : WR B F H U) (m : p ∈ U) : WR B F (upd H p o) U := by
  obtain ⟨h1, h2, h3⟩ := w.own p m
  refine ⟨fun a u h => ?_, fun a u h => ?_, w.nd, fun a z => ?_⟩
  · rw [upd_ne (fun e => by rw [e, h1] at h; cases h)]; exact w.f a u h
  · rw [upd_ne (fun e => by rw [e, h2] at h; cases h)]; exact w.b a u h
  · have q := w.own a z
    refine ⟨q.1, q.2.1, ?_⟩
    by_cases e : a = p
    · subst e; rw [upd_same]; simp
    · rw [upd_ne e]; exact q.2.2
end

/-! ### the names -/
section
variable {K : PySem.W.Frag} {B F H : Hp}
theorem SR.len : ∀ {e : Env} {σ : Sl} {u : List Addr}, SR K H F e σ u → e.length = σ.length
  | _, _, _, .nil => rfl
  | _, _, _, .ns r => by rw [List.length_cons, List.length_cons, r.len]
  | _, _, _, .sm h r => by rw [List.length_cons, List.length_cons, r.len]
/-- a name's value: taken out, another laid in -/
theorem SR.get : ∀ {e : Env} {σ : Sl} {U : List Addr} {i : Nat} {c : CT}, SR K H F e σ U → e.get i = some c →
    ∃ v u W, σ[i]? = some (some v) ∧ RC K H F c v u ∧ U.Perm (u ++ W) ∧ SR K H F (e.set i none) σ W ∧
      (∀ (H' F' : Hp) (c' : CT) (u' W' : List Addr), RC K H' F' c' v u' → SR K H' F' (e.set i none) σ W' → ∃ U', SR K H' F' (e.set i (some c')) σ U' ∧ U'.Perm (u' ++ W'))
  | _, _, _, i, c, .nil, h => by simp [Env.get] at h
  | _, _, _, 0, c, .ns r, h => by simp [Env.get] at h
  | _, _, _, i + 1, c, .ns (o := o) r, h => by
    obtain ⟨v, u, W, h1, h2, h3, h4, h5⟩ := SR.get (i := i) r (by simpa [Env.get] using h)
    refine ⟨v, u, W, by simpa using h1, h2, h3, ?_, fun H' F' c' u' W' k s => ?_⟩
    · rw [List.set_cons_succ]; exact .ns h4
    · rw [List.set_cons_succ] at s
      cases s with
      | ns s =>
        obtain ⟨U', q1, q2⟩ := h5 H' F' c' u' W' k s
        exact ⟨U', by rw [List.set_cons_succ]; exact .ns q1, q2⟩
  | _, _, _, 0, c, .sm (v := v) (u := u) (w := w) a r, h => by
    have e := Option.some.inj (show some _ = some c from h)
    subst e
    refine ⟨v, u, w, by simp, a, List.Perm.refl _, ?_, fun H' F' c' u' W' k s => ?_⟩
    · rw [List.set_cons_zero]; exact .ns r
    · rw [List.set_cons_zero] at s
      cases s with
      | ns s => exact ⟨u' ++ W', by rw [List.set_cons_zero]; exact .sm k s, List.Perm.refl _⟩
  | _, _, _, i + 1, c, .sm (c := c0) (v := v0) (u := u0) (w := w0) a r, h => by
    obtain ⟨v, u, W, h1, h2, h3, h4, h5⟩ := SR.get (i := i) r (by simpa [Env.get] using h)
    refine ⟨v, u, u0 ++ W, by simpa using h1, h2, ?_, ?_, fun H' F' c' u' W' k s => ?_⟩
    · exact (List.Perm.append_left u0 h3).trans (by rw [← List.append_assoc, ← List.append_assoc]; exact List.Perm.append_right W List.perm_append_comm)
    · rw [List.set_cons_succ]; exact .sm a h4
    · rw [List.set_cons_succ] at s
      cases s with
      | sm a' s =>
        rename_i ux wx
        obtain ⟨U', q1, q2⟩ := h5 H' F' c' u' wx k s
        refine ⟨ux ++ U', by rw [List.set_cons_succ]; exact .sm a' q1, ?_⟩
        exact (List.Perm.append_left ux q2).trans (by rw [← List.append_assoc, ← List.append_assoc]; exact List.Perm.append_right wx List.perm_append_comm)
/-- a name is forgotten -/
theorem SR.drop : ∀ {e : Env} {σ : Sl} {U : List Addr} (i : Nat) (o : Option V), SR K H F e σ U → ∃ W, SR K H F (e.set i none) (σ.set i o) W ∧ W.Sublist U ∧
      (∀ (H' F' : Hp) (c' : CT) (v' : V) (u' W' : List Addr), i < e.length → RC K H' F' c' v' u' → SR K H' F' (e.set i none) (σ.set i o) W' → ∃ U', SR K H' F' (e.set i (some c')) (σ.set i (some v')) U' ∧ U'.Perm (u' ++ W'))
  | _, _, _, i, o, .nil => ⟨[], .nil, List.Sublist.refl _, fun _ _ _ _ _ _ h => by simp at h⟩
  | _, _, _, 0, o, .ns r => ⟨_, .ns r, List.Sublist.refl _, fun H' F' c' v' u' W' _ k s => by
      cases s with
      | ns s => exact ⟨u' ++ W', .sm k s, List.Perm.refl _⟩⟩
  | _, _, _, 0, o, .sm a r => ⟨_, .ns r, List.sublist_append_right _ _, fun H' F' c' v' u' W' _ k s => by
      cases s with
      | ns s => exact ⟨u' ++ W', .sm k s, List.Perm.refl _⟩⟩
  | _, _, _, i + 1, o, .ns r => by
    obtain ⟨W, h1, h2, h3⟩ := SR.drop i o r
    refine ⟨W, .ns h1, h2, fun H' F' c' v' u' W' hl k s => ?_⟩
    cases s with
    | ns s =>
      obtain ⟨U', q1, q2⟩ := h3 H' F' c' v' u' W' (by simpa using hl) k s
      exact ⟨U', .ns q1, q2⟩
  | _, _, _, i + 1, o, .sm (u := u0) a r => by
    obtain ⟨W, h1, h2, h3⟩ := SR.drop i o r
    refine ⟨u0 ++ W, .sm a h1, List.Sublist.append_left h2 _, fun H' F' c' v' u' W' hl k s => ?_⟩
    cases s with
    | sm a' s =>
      rename_i ux wx
      obtain ⟨U', q1, q2⟩ := h3 H' F' c' v' u' wx (by simpa using hl) k s
      refine ⟨ux ++ U', .sm a' q1, ?_⟩
      exact (List.Perm.append_left ux q2).trans (by rw [← List.append_assoc, ← List.append_assoc]; exact List.Perm.append_right wx List.perm_append_comm)
end
end PV

/-! The evaluator's steps over the layer: what goes on behind an expression. -/
namespace PV
open PySem PySem.Spec PyProof.Rows L2

theorem _root_.L2.PE.imp {X : Cx} {e : Expr} {t t' : TE} (h : PE X e t) (i : ∀ σ H Q, t' σ H Q → t σ H Q) : PE X e t' := ⟨fun pins s σ H Q I q => h.run pins s σ H Q I (i σ H Q q)⟩
theorem _root_.L2.PT.imp {X : Cx} {e : Expr} {t t' : TT} (h : PT X e t) (i : ∀ σ H Q, t' σ H Q → t σ H Q) : PT X e t' := ⟨fun pins s σ H Q I q => h.run pins s σ H Q I (i σ H Q q)⟩
theorem _root_.L2.PS.imp {X : Cx} {e : Stmt} {t t' : TS} (h : PS X e t) (i : ∀ D σ H, t' D σ H → t D σ H) : PS X e t' := ⟨fun pins s σ H D I q => h.run pins s σ H D I (i D σ H q)⟩

/-- nothing is let out -/
abbrev E0W : WX := fun _ _ _ _ => False
/-- what is fixed: the written part, the module's names, what is wanted of an exception -/
structure Fx where
  K : PySem.W.Frag
  mg : Str → Option Value
  E : WX
  p0 : Option V := none
/-- an exception leaves, of the class c, with the value x -/
def XP (T : Fx) (σ : Sl) (B F : Hp) (c : Str) (x : D) : Prop := ∀ (H' F' : Hp) (C d : Addr) (v : V), T.mg c = some (.ref C) → H' d = some (.xd [(("value" : Str), v)]) → B d = none → RD T.K F' x v → Gr B F F' → Same F' H' → Same B H' → T.E (.ref C) (some d) σ H'
def RV (K : PySem.W.Frag) (p : Bool) (H F : Hp) (c : CT) (v : V) (u : List Addr) : Prop := if p = true then u = [] ∧ RP K H F c v else RC K H F c v u
/-- what is wanted behind -/
def Cont (T : Fx) (p pur : Bool) (B F H : Hp) (σ : Sl) (r : Res (CT × Env)) (Q : VK) : Prop := match r with
  | .ok r => ∀ v H' F' U' u, Gr B F F' → WR B F' H' (u ++ U') → SR T.K H' F' r.2 σ U' → RV T.K p H' F' r.1 v u → (pur = true → Same H H') → Q v H'
  | .exc c x => XP T σ B F c x
  | .bad => False
/-- the reading of an expression that is evaluated so -/
def tE (T : Fx) (p pur : Bool) (f : Env → Res (CT × Env)) : TE := fun σ H Q => ∃ env B F U, SR T.K H F env σ U ∧ WR B F H U ∧ Cont T p pur B F H σ (f env) Q

section
variable {T : Fx} {p pur q : Bool} {B F H B1 F1 H1 : Hp} {σ : Sl} {Q : VK} {c : CT} {v : V} {u U : List Addr}
theorem RV.pp (r : RV T.K true H F c v u) : u = [] ∧ RP T.K H F c v := by unfold RV at r; rw [if_pos rfl] at r; exact r
theorem RV.cc (r : RV T.K false H F c v u) : RC T.K H F c v u := by unfold RV at r; rw [if_neg (by decide)] at r; exact r
theorem RV.rp (r : RV T.K q H F c v u) : RP T.K H F c v := by
  cases q with
  | true => exact r.pp.2
  | false => exact r.cc.rp
theorem RV.mkP (r : RP T.K H F c v) : RV T.K true H F c v [] := by unfold RV; rw [if_pos rfl]; exact ⟨rfl, r⟩
theorem RV.mkC (r : RC T.K H F c v u) : RV T.K false H F c v u := by unfold RV; rw [if_neg (by decide)]; exact r
/-- as wished -/
theorem RV.mk {p : Bool} (w : WR B F H (u ++ U)) (r : RC T.K H F c v u) : ∃ u', RV T.K p H F c v u' ∧ WR B F H (u' ++ U) := by
  cases p with
  | true => exact ⟨[], RV.mkP r.rp, w.right⟩
  | false => exact ⟨u, RV.mkC r, w⟩
theorem XP.mono {c : Str} {x : D} (h : XP T σ B F c x) (s : Same B B1) (g : Gr B F F1) : XP T σ B1 F1 c x := fun H' F' C d v h1 h2 h0 h3 h4 h5 h6 =>
  h H' F' C d v h1 h2 (s.free h0) h3 (g.trans (h4.sub s)) h5 (s.trans h6)
theorem WR.lower {U : List Addr} (w : WR B1 F H U) (s : Same B B1) : WR B F H U := ⟨w.f, s.trans w.b, w.nd, fun a m => ⟨(w.own a m).1, s.free (w.own a m).2.1, (w.own a m).2.2⟩⟩
theorem Cont.mono {r : Res (CT × Env)} (h : Cont T p pur B F H σ r Q) (s : Same B B1) (g : Gr B F F1) (k : pur = true → Same H H1) : Cont T p pur B1 F1 H1 σ r Q := by
  cases r with
  | ok r => exact fun v H' F' U' u h1 h2 h3 h4 h5 => h v H' F' U' u (g.trans (h1.sub s)) (h2.lower s) h3 h4 fun e => (k e).trans (h5 e)
  | exc c x => exact XP.mono h s g
  | bad => exact h
/-- what was evaluated can still be read later -/
def Kept (T : Fx) (q : Bool) (c : CT) (v : V) (B F H : Hp) : Prop := ∀ H2 F2, Same F F2 → Same B H2 → (q = true → Same H H2) → RP T.K H2 F2 c v
theorem Kept.mono (h : Kept T q c v B F H) (f : Same F F1) (b : Same B B1) (k : q = true → Same H H1) : Kept T q c v B1 F1 H1 := fun H2 F2 f2 b2 k2 =>
  h H2 F2 (f.trans f2) (b.trans b2) fun e => (k e).trans (k2 e)
/-- one step, then the rest -/
theorem seq {f : Env → Res (CT × Env)} {g : CT × Env → Res (CT × Env)} {pu1 : Bool} {env : Env} (s : SR T.K H F env σ U) (w : WR B F H U) (h : Cont T p pur B F H σ ((f env).bd g) Q) (hq : pur = true → pu1 = true) :
    tE T q pu1 f σ H (fun v1 H1 => ∃ c1 env1 B1 F1 U1, SR T.K H1 F1 env1 σ U1 ∧ WR B1 F1 H1 U1 ∧ Cont T p pur B1 F1 H1 σ (g (c1, env1)) Q ∧ Kept T q c1 v1 B1 F1 H1 ∧ Same F F1 ∧ Same B B1 ∧ Same B1 H1 ∧ (pu1 = true → Same H H1) ∧ f env = .ok (c1, env1)) := by
  refine ⟨env, B, F, U, s, w, ?_⟩
  cases e : f env with
  | ok r =>
    rw [e] at h
    intro v1 H1 F1 U1 u1 g1 w1 s1 r1 k1
    have b1 : Same B (lesser H1 U1) := w1.base
    refine ⟨r.1, r.2, lesser H1 U1, F1, U1, s1, w1.lesser, Cont.mono (H1 := H1) h b1 g1 (fun e => k1 (hq e)), fun H2 F2 f2 b2 k2 => ?_, g1.s, b1, lesser_same, k1, rfl⟩
    cases q with
    | true => exact r1.pp.2.mono f2 (k2 rfl)
    | false =>
      refine (RC.mono (H' := H2) f2 r1.cc fun a m => ?_).rp
      have nd := List.nodup_append.mp w1.nd
      have out : a ∉ U1 := fun z => nd.2.2 a m a z rfl
      cases z : H1 a with
      | none => exact absurd z (w1.left.own a m).2.2
      | some o => exact b2 a o (by rw [lesser_out out]; exact z)
  | exc c x => rw [e] at h; exact h
  | bad => rw [e] at h; exact h
/-- a new value: what there is stays -/
structure NewR (K : PySem.W.Frag) (H F H' F' : Hp) (c : CT) (v : V) (u : List Addr) : Prop where
  same : Same H H'
  gr : Gr H F F'
  f : Same F' H'
  rc : RC K H' F' c v u
  nd : u.Nodup
  fresh : ∀ a ∈ u, H a = none ∧ F' a = none ∧ H' a ≠ none
theorem WR.newR {F' H' : Hp} {K : PySem.W.Frag} (w : WR B F H U) (n : NewR K H F H' F' c v u) : WR B F' H' (u ++ U) ∧ Gr B F F' ∧ ∀ a ∈ U, H' a = H a := by
  have eq : ∀ a ∈ U, H' a = H a := fun a m => by
    cases z : H a with
    | none => exact absurd z (w.own a m).2.2
    | some o => exact n.same a o z
  refine ⟨⟨n.f, w.b.trans n.same, List.nodup_append.mpr ⟨n.nd, w.nd, fun a m b z e => ?_⟩, fun a m => ?_⟩, n.gr.sub w.b, eq⟩
  · subst e
    exact (w.own a z).2.2 (n.fresh a m).1
  · rcases List.mem_append.mp m with m | m
    · refine ⟨(n.fresh a m).2.1, ?_, (n.fresh a m).2.2⟩
      cases z : B a with
      | none => rfl
      | some o => have := (n.fresh a m).1; rw [w.b a o z] at this; cases this
    · refine ⟨n.gr.none (w.own a m).1 (w.own a m).2.2, (w.own a m).2.1, by rw [eq a m]; exact (w.own a m).2.2⟩
theorem fin {env : Env} {F' H' : Hp} (s : SR T.K H F env σ U) (w : WR B F H U) (h : Cont T p pur B F H σ (.ok (c, env)) Q) (n : NewR T.K H F H' F' c v u) : Q v H' := by
  obtain ⟨w', g', eq⟩ := w.newR n
  obtain ⟨u', r', w''⟩ := RV.mk (T := T) (p := p) w' n.rc
  exact h v H' F' U u' g' w'' (SR.mono n.gr.s s eq) r' fun _ => n.same
/-- a value that is there already, or none of the heap -/
theorem NewR.here {K : PySem.W.Frag} {x : D} (f : Same F H) (r : RD K F x v) : NewR K H F H F (.d x) v [] := ⟨Same.refl _, Gr.refl, f, .d r, List.nodup_nil, fun _ m => by cases m⟩
/-- a new list of frozen items -/
theorem RDs.cs {K : PySem.W.Frag} : ∀ {xs : List D} {vs : List V}, RDs K F xs vs → RCs K H F (xs.map .d) vs []
  | _, _, .nil => .nil
  | _, _, .cons h r => RCs.cons (u := []) (w := []) (.d h) (RDs.cs r)
theorem NewR.lst {K : PySem.W.Frag} {xs : List D} {vs : List V} {a : Addr} (f : Same F H) (n : H a = none) (r : RDs K F xs vs) : NewR K H F (upd H a (.lst vs)) F (.l (xs.map .d)) (.ref a) [a] := by
  have s : Same H (upd H a (.lst vs)) := new_same n
  refine ⟨s, Gr.refl, f.trans s, .l upd_same (RDs.cs r), by simp, fun b m => ?_⟩
  have e : b = a := by simpa using m
  subst e
  exact ⟨n, f.free n, by rw [upd_same]; simp⟩
/-- a new tuple of frozen items: frozen at once -/
theorem NewR.tup {K : PySem.W.Frag} {xs : List D} {vs : List V} {a : Addr} (f : Same F H) (n : H a = none) (r : RDs K F xs vs) : NewR K H F (upd H a (.tup vs)) (upd F a (.tup vs)) (.d (.tup xs)) (.ref a) [] := by
  have s : Same H (upd H a (.tup vs)) := new_same n
  have fn : F a = none := f.free n
  refine ⟨s, ⟨new_same fn, fun b o h => ?_⟩, fun b o h => ?_, .d (.tup (SqT.of upd_same) (r.mono (new_same fn))), List.nodup_nil, fun _ m => by cases m⟩
  · by_cases e : b = a
    · subst e; exact .inr n
    · rw [upd_ne e] at h; exact .inl h
  · by_cases e : b = a
    · subst e; rw [upd_same] at h; rw [upd_same]; exact h
    · rw [upd_ne e] at h; rw [upd_ne e]; exact f b o h
end
end PV

/-! Operators by the evaluator's data. -/
namespace PV
open PySem PySem.Spec PyProof.Rows L2

/-! ### reading what is there -/
section
variable {K : PySem.W.Frag} {F H : Hp} {c : CT} {x : V} {xs : List D}
theorem dAll_rp : ∀ {cs : List CT} {vs : List V} {xs : List D}, RPs K H F cs vs → dAll cs = some xs → RDs K F xs vs
  | [], _, xs, .nil, h => by
    have e : [] = xs := Option.some.inj h
    subst e
    exact .nil
  | .d x :: r, _, xs, .cons a b, h => by
    unfold dAll at h
    cases e : dAll r with
    | none => rw [e] at h; cases h
    | some ys =>
      rw [e] at h
      have e2 : x :: ys = xs := Option.some.inj h
      subst e2
      cases a with
      | d a => exact .cons a (dAll_rp b e)
  | .l _ :: r, _, xs, _, h => by cases h
  | .t _ :: r, _, xs, _, h => by cases h
theorem lels_rp (f : Same F H) (r : RP K H F c x) (h : c.lels = some xs) : ∃ a vs, x = .ref a ∧ H a = some (.lst vs) ∧ RDs K F xs vs := by
  cases r with
  | d r =>
    cases r with
    | lst h1 h2 =>
      have e := Option.some.inj (show some _ = some xs from h)
      subst e
      exact ⟨_, _, rfl, f _ _ h1, h2⟩
    | _ => cases h
  | l h1 h2 => exact ⟨_, _, rfl, h1, dAll_rp h2 h⟩
  | t => cases h
theorem tels_rp (f : Same F H) (r : RP K H F c x) (h : c.tels = some xs) : ∃ a vs, x = .ref a ∧ SqT K H a vs ∧ RDs K F xs vs := by
  cases r with
  | d r =>
    cases r with
    | tup h1 h2 =>
      have e := Option.some.inj (show some _ = some xs from h)
      subst e
      exact ⟨_, _, rfl, Same.sqt f h1, h2⟩
    | _ => cases h
  | l => cases h
  | t h1 h2 => exact ⟨_, _, rfl, SqT.of h1, dAll_rp h2 h⟩
theorem RP.int {i : Int} (r : RP K H F (.d (.int i)) x) : x = .int i := by cases r with | d r => cases r; rfl
theorem RP.str {i : Str} (r : RP K H F (.d (.str i)) x) : x = .str i := by cases r with | d r => cases r; rfl
theorem RP.bl {i : Bool} (r : RP K H F (.d (.bl i)) x) : x = .bl i := by cases r with | d r => cases r; rfl
theorem RP.non (r : RP K H F (.d .non) x) : x = .non := by cases r with | d r => cases r; rfl
theorem RDs.length : ∀ {xs : List D} {vs : List V}, RDs K F xs vs → xs.length = vs.length
  | _, _, .nil => rfl
  | _, _, .cons _ r => by rw [List.length_cons, List.length_cons, r.length]
theorem RDs.append : ∀ {xs ys : List D} {vs ws : List V}, RDs K F xs vs → RDs K F ys ws → RDs K F (xs ++ ys) (vs ++ ws)
  | _, _, _, _, .nil, s => s
  | _, _, _, _, .cons h r, s => .cons h (RDs.append r s)
theorem RDs.take : ∀ {xs : List D} {vs : List V} (n : Nat), RDs K F xs vs → RDs K F (xs.take n) (vs.take n)
  | _, _, 0, _ => .nil
  | _, _, _ + 1, .nil => .nil
  | _, _, n + 1, .cons h r => .cons h (RDs.take n r)
theorem RDs.drop : ∀ {xs : List D} {vs : List V} (n : Nat), RDs K F xs vs → RDs K F (xs.drop n) (vs.drop n)
  | _, _, 0, r => r
  | _, _, _ + 1, .nil => .nil
  | _, _, n + 1, .cons h r => RDs.drop n r
theorem RDs.cut {vs : List V} (r : RDs K F xs vs) (lo hi : Option Int) : RDs K F (cutL xs lo hi) (cutV vs lo hi) := by
  unfold cutL cutV
  rw [← r.length]
  exact (r.drop _).take _
theorem RDs.flat {vs : List V} (r : RDs K F xs vs) : ∀ n : Nat, RDs K F (List.replicate n xs).flatten (List.replicate n vs).flatten
  | 0 => .nil
  | n + 1 => by
    rw [List.replicate_succ, List.replicate_succ, List.flatten_cons, List.flatten_cons]
    exact r.append (r.flat n)
theorem RDs.get : ∀ {xs : List D} {vs : List V} {i : Nat} {d : D}, RDs K F xs vs → xs[i]? = some d → ∃ v, vs[i]? = some v ∧ RD K F d v
  | _, _, _, _, .nil, h => by simp at h
  | _, _, 0, _, .cons h r, e => by simp at e; subst e; exact ⟨_, rfl, h⟩
  | _, _, i + 1, _, .cons h r, e => by
    obtain ⟨v, h1, h2⟩ := RDs.get (i := i) r (by simpa using e)
    exact ⟨v, by simpa using h1, h2⟩
theorem RDs.ints : ∀ (ns : List Int), RDs K F (ns.map .int) (ns.map V.int)
  | [] => .nil
  | n :: r => .cons (.int n) (RDs.ints r)
theorem RDs.intsOf : ∀ {xs : List D} {vs : List V} {ns : List Int}, RDs K F xs vs → PV.intsOf xs = some ns → vs = ns.map V.int
  | [], _, ns, .nil, h => by have e : [] = ns := Option.some.inj h; subst e; rfl
  | .int i :: r, _, ns, .cons a b, h => by
    unfold PV.intsOf at h
    cases e : PV.intsOf r with
    | none => rw [e] at h; cases h
    | some ms =>
      rw [e] at h
      have e2 : i :: ms = ns := Option.some.inj h
      subst e2
      cases a
      rw [RDs.intsOf b e]; rfl
  | .non :: r, _, ns, _, h => by cases h
  | .bl _ :: r, _, ns, _, h => by cases h
  | .str _ :: r, _, ns, _, h => by cases h
  | .tup _ :: r, _, ns, _, h => by cases h
  | .lst _ :: r, _, ns, _, h => by cases h
  | .scr _ :: r, _, ns, _, h => by cases h
  | .dic :: r, _, ns, _, h => by cases h
  | .rng _ _ :: r, _, ns, _, h => by cases h
  | .exn _ _ :: r, _, ns, _, h => by cases h
  | .fn _ :: r, _, ns, _, h => by cases h
theorem RDs.blsOf : ∀ {xs : List D} {vs : List V} {ns : List Bool}, RDs K F xs vs → PV.blsOf xs = some ns → vs = ns.map V.bl
  | [], _, ns, .nil, h => by have e : [] = ns := Option.some.inj h; subst e; rfl
  | .bl i :: r, _, ns, .cons a b, h => by
    unfold PV.blsOf at h
    cases e : PV.blsOf r with
    | none => rw [e] at h; cases h
    | some ms =>
      rw [e] at h
      have e2 : i :: ms = ns := Option.some.inj h
      subst e2
      cases a
      rw [RDs.blsOf b e]; rfl
  | .non :: r, _, ns, _, h => by cases h
  | .int _ :: r, _, ns, _, h => by cases h
  | .str _ :: r, _, ns, _, h => by cases h
  | .tup _ :: r, _, ns, _, h => by cases h
  | .lst _ :: r, _, ns, _, h => by cases h
  | .scr _ :: r, _, ns, _, h => by cases h
  | .dic :: r, _, ns, _, h => by cases h
  | .rng _ _ :: r, _, ns, _, h => by cases h
  | .exn _ _ :: r, _, ns, _, h => by cases h
  | .fn _ :: r, _, ns, _, h => by cases h
theorem dpAll_ints {K : PySem.W.Frag} {H : Hp} : ∀ ns : List Int, DpAll K H (ns.map V.int) (ns.map .int)
  | [] => .nil
  | n :: r => .cons (.int n) (dpAll_ints r)
mutual
/-- plain data as the library's -/
theorem RD.dp : ∀ {x : D} {v : V}, RD K H x v → x.pl = true → Dp K H v x.py
  | _, _, .non, _ => by rw [D.py]; exact .non
  | _, _, .bl b, _ => by rw [D.py]; exact .bl b
  | _, _, .int b, _ => by rw [D.py]; exact .int b
  | _, _, .str b, _ => by rw [D.py]; exact .str b
  | _, _, .tup h r, p => by rw [D.py]; rw [D.pl] at p; exact .tup h (RDs.dp r p)
  | _, _, .lst h r, p => by rw [D.py]; rw [D.pl] at p; exact .lst (SqL.of h) (RDs.dp r p)
  | _, _, .scr (ns := ns) h, _ => by
    rw [D.py]
    exact .lst h (dpAll_ints ns)
  | _, _, .rng _, p => by rw [D.pl] at p; cases p; all_goals simp
  | _, _, .dic _, p => by rw [D.pl] at p; cases p; all_goals simp
theorem RDs.dp : ∀ {x : List D} {v : List V}, RDs K H x v → D.pls x = true → DpAll K H v (D.pys x)
  | _, _, .nil, _ => by rw [D.pys]; exact .nil
  | _, _, .cons h r, p => by
    rw [D.pys]
    rw [D.pls, Bool.and_eq_true] at p
    exact .cons (RD.dp h p.1) (RDs.dp r p.2)
end
end

/-! ### operators -/
def rO (K : PySem.W.Frag) (f : CT → CT → Option CT) : R2 := fun x y H Q => ∃ F c1 c2 c, Same F H ∧ RP K H F c1 x ∧ RP K H F c2 y ∧ f c1 c2 = some c ∧ ∀ v H' F' u, NewR K H F H' F' c v u → Q v H'
theorem guardP_some {p : Prop} [Decidable p] {c c' : CT} (h : guardP p c = some c') : p ∧ c = c' := by
  unfold guardP at h
  split at h
  · exact ⟨by assumption, Option.some.inj h⟩
  · cases h
section
variable {X : Cx}
theorem opInt_of {f : Value → Value → Sem Value} {g : Int → Int → Option CT}
    (h : ∀ i j c, g i j = some c → ∃ r : D, c = .d r ∧ (∃ w : V, (∀ F, RD X.K F r w) ∧ OpR X f (fun x y H Q => x = .int i ∧ y = .int j ∧ Q w H))) : OpR X f (rO X.K (opInt g)) := by
  intro pins s σ H x y v u Q I rx ry q
  obtain ⟨F, c1, c2, c, hf, r1, r2, ho, q⟩ := q
  cases c1 with
  | d d1 =>
    cases d1 with
    | int i =>
      cases c2 with
      | d d2 =>
        cases d2 with
        | int j =>
          obtain ⟨r, rfl, w, hw, o⟩ := h i j c ho
          exact o pins s σ H x y v u Q I rx ry ⟨r1.int, r2.int, q w H F [] (.here hf (hw F))⟩
        | _ => cases ho
      | _ => cases ho
    | _ => cases ho
  | _ => cases ho
theorem op_imp {f : Value → Value → Sem Value} {r r' : R2} (h : OpR X f r) (i : ∀ x y H Q, r' x y H Q → r x y H Q) : OpR X f r' := fun pins s σ H x y v u Q I rx ry q => h pins s σ H x y v u Q I rx ry (i _ _ _ _ q)
theorem ob_sub : OpR X (binaryOp .Sub) (rO X.K (opf .sub)) := opInt_of fun i j c h => by
  have e := Option.some.inj h
  subst e
  exact ⟨_, rfl, _, fun F => .int _, op_imp op_sub fun x y H Q ⟨a, b, q⟩ => ⟨i, j, a, b, q⟩⟩
theorem ob_fdiv : OpR X (binaryOp .FloorDiv) (rO X.K (opf .fdiv)) := opInt_of fun i j c h => by
  obtain ⟨g, rfl⟩ := guardP_some h
  exact ⟨_, rfl, _, fun F => .int _, op_imp op_fdivW fun x y H Q ⟨a, b, q⟩ => ⟨i, j, a, b, g, q⟩⟩
theorem ob_mod : OpR X (binaryOp .Mod) (rO X.K (opf .mod)) := opInt_of fun i j c h => by
  obtain ⟨g, rfl⟩ := guardP_some h
  exact ⟨_, rfl, _, fun F => .int _, op_imp op_mod fun x y H Q ⟨a, b, q⟩ => ⟨i, j, a, b, g, q⟩⟩
theorem ob_pow : OpR X (binaryOp .Pow) (rO X.K (opf .pow)) := opInt_of fun i j c h => by
  obtain ⟨⟨g1, g2, g3⟩, rfl⟩ := guardP_some h
  refine ⟨_, rfl, _, fun F => .int _, ?_⟩
  intro pins s σ H x y v u Q I rx ry ⟨a, b, q⟩
  subst a; subst b
  obtain ⟨t, rfl⟩ := rx
  obtain ⟨t', rfl⟩ := ry
  refine PyProof.Rows.pow_int g1 (by omega) ⟨.int _, H, I.tok _, ⟨_, rfl⟩, q⟩
theorem ob_add : OpR X (binaryOp .Add) (rO X.K (opf .add)) := by
  intro pins s σ H x y v u Q I rx ry q
  obtain ⟨F, c1, c2, c, hf, r1, r2, ho, q⟩ := q
  have ho : opAdd c1 c2 = some c := ho
  have rest : ∀ (h : (match c1.lels, c2.lels with
    | some xs, some ys => guardP (xs.length + ys.length ≤ lmax) (.l ((xs ++ ys).map .d))
    | _, _ => match c1.tels, c2.tels with
      | some xs, some ys => guardP (xs.length + ys.length ≤ lmax ∧ xs.isEmpty = false ∧ ys.isEmpty = false) (.d (.tup (xs ++ ys)))
      | _, _ => none) = some c), wpAny (model X.prog X.w) X.A (binaryOp .Add v u) (EP X pins σ Q) X.xe s := fun h => by
    have tt : ∀ (h : (match c1.tels, c2.tels with
      | some xs, some ys => guardP (xs.length + ys.length ≤ lmax ∧ xs.isEmpty = false ∧ ys.isEmpty = false) (.d (.tup (xs ++ ys)))
      | _, _ => none) = some c), wpAny (model X.prog X.w) X.A (binaryOp .Add v u) (EP X pins σ Q) X.xe s := fun h => by
      split at h
      · rename_i xs ys h1 h2
        obtain ⟨⟨g1, g2, g3⟩, rfl⟩ := guardP_some h
        obtain ⟨a, vs, rfl, ha, ra⟩ := tels_rp hf r1 h1
        obtain ⟨b, ws, rfl, hb, rb⟩ := tels_rp hf r2 h2
        refine op_catT pins s σ H _ _ v u Q I rx ry ⟨a, b, vs, ws, rfl, rfl, ha, hb, ?_, ?_, ?_, fun _ p hp => q _ _ _ _ (.tup hf hp (ra.append rb))⟩
        · rintro rfl
          have := ra.length
          cases xs <;> simp at this g2
        · rw [← ra.length, ← rb.length]
          have : (lmax : Nat) ≤ sizeLine := by decide
          omega
        · rintro rfl
          have := rb.length
          cases ys <;> simp at this g3
      · cases h
    split at h
    · rename_i xs ys h1 h2
      obtain ⟨g1, rfl⟩ := guardP_some h
      obtain ⟨a, vs, rfl, ha, ra⟩ := lels_rp hf r1 h1
      obtain ⟨b, ws, rfl, hb, rb⟩ := lels_rp hf r2 h2
      refine op_cat pins s σ H _ _ v u Q I rx ry ⟨a, b, vs, ws, rfl, rfl, ha, hb, ?_, fun p hp => q _ _ _ _ (.lst hf hp (ra.append rb))⟩
      rw [← ra.length, ← rb.length]
      have : (lmax : Nat) ≤ sizeLine := by decide
      omega
    · exact tt h
  unfold opAdd at ho
  split at ho
  · rename_i i j _
    have e := Option.some.inj ho
    subst e
    exact op_add pins s σ H x y v u Q I rx ry ⟨i, j, r1.int, r2.int, q _ _ _ _ (.here hf (.int _))⟩
  · rename_i i j _
    obtain ⟨g, rfl⟩ := guardP_some ho
    refine op_add_str pins s σ H x y v u Q I rx ry ⟨i, j, r1.str, r2.str, ?_, q _ _ _ _ (.here hf (.str _))⟩
    have : (lmax : Nat) ≤ sizeLine := by decide
    omega
  · exact rest ho
theorem ob_mul : OpR X (binaryOp .Mult) (rO X.K (opf .mul)) := by
  intro pins s σ H x y v u Q I rx ry q
  obtain ⟨F, c1, c2, c, hf, r1, r2, ho, q⟩ := q
  have ho : opMul c1 c2 = some c := ho
  unfold opMul at ho
  split at ho
  · rename_i i j _
    obtain ⟨g, rfl⟩ := guardP_some ho
    have n := q _ _ _ _ (.here hf (.int (i * j)))
    rcases g with g | g
    · exact op_mul pins s σ H x y v u Q I rx ry ⟨i, j, r1.int, r2.int, g, n⟩
    · exact op_mulW pins s σ H x y v u Q I rx ry ⟨i, j, r1.int, r2.int, g, n⟩
  · split at ho
    · rename_i xs h1
      obtain ⟨⟨g1, g2, g3⟩, rfl⟩ := guardP_some ho
      obtain ⟨a, vs, rfl, ha, ra⟩ := lels_rp hf r1 h1
      refine op_rep pins s σ H _ _ v u Q I rx ry ⟨a, _, vs, rfl, r2.int, ha, g1, g2, ?_, fun p hp => q _ _ _ _ (.lst hf hp (ra.flat _))⟩
      rw [← ra.length]
      have : (lmax : Nat) ≤ sizeLine := by decide
      omega
    · cases ho
  · cases ho
theorem oc_cmp {op : CmpOp} {g : Int → Int → Bool} (h : OpR X (compareOp op) (rI0 fun i j => .bl (g i j))) : OpR X (compareOp op) (rO X.K (opInt fun i j => some (bD (g i j)))) := opInt_of fun i j c e => by
  have e := Option.some.inj e
  subst e
  exact ⟨_, rfl, _, fun F => .bl _, op_imp h fun x y H Q ⟨a, b, q⟩ => ⟨i, j, a, b, q⟩⟩
theorem oc_eq (hu : X.A.units + 64 < cLine) : OpR X (compareOp .Eq) (rO X.K (opf .eq)) := by
  intro pins s σ H x y v u Q I rx ry q
  obtain ⟨F, c1, c2, c, hf, r1, r2, ho, q⟩ := q
  obtain ⟨⟨p1, p2, s1, s2⟩, rfl⟩ := guardP_some (show opEq false c1 c2 = some c from ho)
  refine op_eqD hu pins s σ H x y v u Q I rx ry ⟨_, _, (r1.frz hf).dp p1, (r2.frz hf).dp p2, s1, s2, ?_⟩
  have n := q _ _ _ _ (.here hf (.bl _))
  rw [Bool.bne_false] at n
  exact n
theorem oc_ne (hu : X.A.units + 64 < cLine) : OpR X (compareOp .NotEq) (rO X.K (opf .ne)) := by
  intro pins s σ H x y v u Q I rx ry q
  obtain ⟨F, c1, c2, c, hf, r1, r2, ho, q⟩ := q
  obtain ⟨⟨p1, p2, s1, s2⟩, rfl⟩ := guardP_some (show opEq true c1 c2 = some c from ho)
  refine op_neD hu pins s σ H x y v u Q I rx ry ⟨_, _, (r1.frz hf).dp p1, (r2.frz hf).dp p2, s1, s2, ?_⟩
  have n := q _ _ _ _ (.here hf (.bl _))
  rw [Bool.bne_true] at n
  exact n
theorem RD.tupinv {K : PySem.W.Frag} {F : Hp} {ys : List D} {y : V} (r : RD K F (.tup ys) y) : ∃ a vs, y = .ref a ∧ SqT K F a vs ∧ RDs K F ys vs := by
  cases r with | tup h1 h2 => exact ⟨_, _, rfl, h1, h2⟩
theorem atom_flat {K : PySem.W.Frag} {F : Hp} {d : D} {v : V} (r : RD K F d v) (h : (CT.d d).atom = true) : flatV v = true := by
  cases r <;> first | rfl | cases h
theorem atoms_flat {K : PySem.W.Frag} {F : Hp} : ∀ {ys : List D} {vs : List V}, RDs K F ys vs → (ys.all fun y => (CT.d y).atom) = true → vs.all flatV = true
  | _, _, .nil, _ => rfl
  | _, _, .cons h r, p => by
    rw [List.all_cons, Bool.and_eq_true] at p
    rw [List.all_cons, Bool.and_eq_true]
    exact ⟨atom_flat h p.1, atoms_flat r p.2⟩
theorem eqV_py {K : PySem.W.Frag} {F F' : Hp} {d e : D} {v w : V} (r : RD K F d v) (r' : RD K F' e w) (h : (CT.d d).atom = true) (h' : (CT.d e).atom = true) : eqV v w = PyData.eqv d.py e.py := by
  cases r <;> cases r' <;> first | exact Bool.noConfusion h | exact Bool.noConfusion h' | (simp only [D.py, eqV, PyData.eqv]; try rfl)
theorem inV_py {K : PySem.W.Frag} {F F' : Hp} {e : D} {w : V} (r' : RD K F' e w) (h' : (CT.d e).atom = true) : ∀ {ys : List D} {vs : List V}, RDs K F ys vs → (ys.all fun y => (CT.d y).atom) = true → vs.any (fun z => eqV z w) = (D.pys ys).any fun z => PyData.eqv z e.py
  | _, _, .nil, _ => by rw [D.pys]; rfl
  | _, _, .cons h r, p => by
    rw [List.all_cons, Bool.and_eq_true] at p
    rw [D.pys, List.any_cons, List.any_cons, eqV_py h r' p.1 h', inV_py r' h' r p.2]
end
end PV

/-! Further operators, subscripts, built-in functions by the evaluator's data. -/
namespace PV
open PySem PySem.Spec PyProof.Rows L2
section
variable {X : Cx}
theorem pys_any (ys : List D) (d : D) (K : PySem.W.Frag) : True := trivial
theorem oc_in_of {op : CmpOp} {n : Bool}
    (hD : OpR X (compareOp op) (fun x y H Q => ∃ d ds, Dp X.K H x d ∧ Dp X.K H y (.list ds) ∧ SeqAt.shaped d = true ∧ SeqAt.shaped (.list ds) = true ∧ Q (.bl ((ds.any fun z => PyData.eqv z d) != n)) H))
    (hT : OpR X (compareOp op) (fun x y H Q => ∃ p xs, y = .ref p ∧ (SqL X.K H p xs ∨ SqT X.K H p xs) ∧ flatV x = true ∧ xs.all flatV = true ∧ Q (.bl ((xs.any fun z => eqV z x) != n)) H))
    (hS : OpR X (compareOp op) (fun x y H Q => ∃ i j, x = .str i ∧ y = .str j ∧ Q (.bl ((!(Builtin.Str.occurrences j i 0 j.length 1).isEmpty) != n)) H)) : OpR X (compareOp op) (rO X.K (opIn n)) := by
  intro pins s σ H x y v u Q I rx ry q
  obtain ⟨F, c1, c2, c, hf, r1, r2, ho, q⟩ := q
  have rd := r2.frz hf
  unfold opIn at ho
  split at ho
  · rename_i ys e
    obtain ⟨⟨p1, p2, s1, s2⟩, rfl⟩ := guardP_some ho
    rw [e] at rd
    have dp := rd.dp p2
    rw [D.py] at dp s2
    exact hD pins s σ H x y v u Q I rx ry ⟨_, _, (r1.frz hf).dp p1, dp, s1, s2, q _ _ _ _ (.here hf (.bl _))⟩
  · rename_i ys e
    obtain ⟨⟨⟨p1, p2, s1, s2⟩, a1, a2⟩, rfl⟩ := guardP_some ho
    rw [e] at rd
    obtain ⟨a, vs, rfl, hq, rs⟩ := rd.tupinv
    have c1d : ∃ d, c1 = .d d := by
      cases c1 with
      | d d => exact ⟨d, rfl⟩
      | l _ => cases a1
      | t _ => cases a1
    obtain ⟨d, rfl⟩ := c1d
    cases r1 with
    | d r1 =>
      refine hT pins s σ H x _ v u Q I rx ry ⟨a, vs, rfl, .inr hq, atom_flat r1 a1, atoms_flat rs a2, ?_⟩
      rw [inV_py r1 a1 rs a2]
      have n := q _ _ _ _ (.here hf (.bl _))
      rw [CT.frz] at n
      exact n
  · rename_i z e
    rw [e] at rd
    split at ho
    · rename_i i
      have e2 := Option.some.inj ho
      subst e2
      have ey : y = .str z := by cases rd; rfl
      exact hS pins s σ H x y v u Q I rx ry ⟨i, z, r1.str, ey, q _ _ _ _ (.here hf (.bl _))⟩
    · cases ho
  · cases ho
theorem oc_in (hu : X.A.units + 65 < cLine) : OpR X (compareOp .In) (rO X.K (opf .inn)) := oc_in_of (n := false)
  (op_imp (op_inD hu) fun x y H Q ⟨d, ds, a, b, c, e, q⟩ => ⟨d, ds, a, b, c, e, by rw [Bool.bne_false] at q; exact q⟩)
  (op_imp op_in_seq fun x y H Q ⟨p, xs, a, b, c, e, q⟩ => ⟨p, xs, a, b, c, e, by rw [Bool.bne_false] at q; exact q⟩)
  (op_imp op_in_str fun x y H Q ⟨i, j, a, b, q⟩ => ⟨i, j, a, b, by rw [Bool.bne_false] at q; exact q⟩)
theorem oc_nin (hu : X.A.units + 65 < cLine) : OpR X (compareOp .NotIn) (rO X.K (opf .nin)) := oc_in_of (n := true)
  (op_imp (op_notInD hu) fun x y H Q ⟨d, ds, a, b, c, e, q⟩ => ⟨d, ds, a, b, c, e, by rw [Bool.bne_true] at q; exact q⟩)
  (op_imp op_notIn_seq fun x y H Q ⟨p, xs, a, b, c, e, q⟩ => ⟨p, xs, a, b, c, e, by rw [Bool.bne_true] at q; exact q⟩)
  (op_imp op_notIn_str fun x y H Q ⟨i, j, a, b, q⟩ => ⟨i, j, a, b, by rw [Bool.bne_true] at q; exact q⟩)
theorem isBl_of {K : PySem.W.Frag} {F : Hp} {d : D} {v : V} {u : Value} (r : RD K F d v) (rv : RelV v u) (b : Bool) : plainIs u (.bool b) = true ∧ (u == Value.bool b) = d.isBl b := by
  cases r with
  | non => cases rv; exact ⟨rfl, rfl⟩
  | bl c =>
    cases (show u = Value.bool c from rv)
    refine ⟨rfl, ?_⟩
    show (Value.bool c == Value.bool b) = (b == c)
    cases b <;> cases c <;> rfl
  | int i => obtain ⟨t, rfl⟩ := rv; exact ⟨rfl, rfl⟩
  | str i => obtain ⟨t, rfl⟩ := rv; exact ⟨rfl, rfl⟩
  | tup => cases rv; exact ⟨rfl, rfl⟩
  | lst => cases rv; exact ⟨rfl, rfl⟩
  | scr => cases rv; exact ⟨rfl, rfl⟩
  | rng => cases rv; exact ⟨rfl, rfl⟩
  | dic => cases rv; exact ⟨rfl, rfl⟩
  | exn => cases rv; exact ⟨rfl, rfl⟩
theorem isNon_of {K : PySem.W.Frag} {F : Hp} {d : D} {v : V} (r : RD K F d v) : decide (v = .non) = d.isNon := by
  cases r <;> rfl
theorem oc_is_of (n : Bool) : OpR X (compareOp (if n then .IsNot else .Is)) (rO X.K (opIs n)) := by
  intro pins s σ H x y v u Q I rx ry q
  obtain ⟨F, c1, c2, c, hf, r1, r2, ho, q⟩ := q
  have rd := r1.frz hf
  unfold opIs at ho
  split at ho
  · have e := Option.some.inj ho
    subst e
    have nn := q _ _ _ _ (.here hf (.bl _))
    rw [← isNon_of rd] at nn
    cases n with
    | false => exact op_isN pins s σ H x y v u Q I rx ry ⟨r2.non, by rw [Bool.bne_false] at nn; exact nn⟩
    | true => exact op_notN pins s σ H x y v u Q I rx ry ⟨r2.non, by rw [Bool.bne_true] at nn; exact nn⟩
  · rename_i b
    have e := Option.some.inj ho
    subst e
    have nn := q _ _ _ _ (.here hf (.bl _))
    have ey := r2.bl
    subst ey
    cases (show u = Value.bool b from ry)
    obtain ⟨h1, h2⟩ := isBl_of rd rx b
    cases n with
    | false => exact wpAny_is_plain h1 ⟨.bl _, H, I, by rw [h2]; rfl, by rw [Bool.bne_false] at nn; exact nn⟩
    | true => exact wpAny_isNot_plain h1 ⟨.bl _, H, I, by rw [h2]; rfl, by rw [Bool.bne_true] at nn; exact nn⟩
  · cases ho
def O2.bin : O2 → Option Operator
  | .add => some .Add | .sub => some .Sub | .mul => some .Mult | .fdiv => some .FloorDiv | .mod => some .Mod | .pow => some .Pow | _ => none
def O2.cmp : O2 → Option CmpOp
  | .eq => some .Eq | .ne => some .NotEq | .lt => some .Lt | .le => some .LtE | .gt => some .Gt | .ge => some .GtE | .inn => some .In | .nin => some .NotIn | .is => some .Is | .isn => some .IsNot | _ => none
theorem opB {o : O2} {op : Operator} (h : o.bin = some op) : OpR X (binaryOp op) (rO X.K (opf o)) := by
  cases o <;> first | (have e := Option.some.inj h; subst e) | cases h
  · exact ob_add
  · exact ob_sub
  · exact ob_mul
  · exact ob_fdiv
  · exact ob_mod
  · exact ob_pow
theorem opC {o : O2} {op : CmpOp} (hu : X.A.units + 65 < cLine) (h : o.cmp = some op) : OpR X (compareOp op) (rO X.K (opf o)) := by
  cases o <;> first | (have e := Option.some.inj h; subst e) | cases h
  · exact oc_eq (by omega)
  · exact oc_ne (by omega)
  · exact oc_cmp op_lt
  · exact oc_cmp op_le
  · exact oc_cmp op_gt
  · exact oc_cmp op_ge
  · exact oc_in hu
  · exact oc_nin hu
  · exact oc_is_of false
  · exact oc_is_of true

/-! ### places -/
theorem atI_map {α β : Type} (f : α → β) (xs : List α) (k : Int) : atI (xs.map f) k = (atI xs k).map f := by
  unfold atI
  rw [List.length_map]
  cases ixN xs.length k with
  | none => rfl
  | some j => simp
theorem atI_rds {K : PySem.W.Frag} {F : Hp} {xs : List D} {vs : List V} {k : Int} {d : D} (r : RDs K F xs vs) (h : atI xs k = some d) : ∃ v, atI vs k = some v ∧ RD K F d v := by
  unfold atI at h ⊢
  rw [← r.length]
  cases e : ixN xs.length k with
  | none => rw [e] at h; cases h
  | some j =>
    rw [e] at h
    exact r.get h
theorem RPs.get {K : PySem.W.Frag} {F H : Hp} : ∀ {xs : List CT} {vs : List V} {i : Nat} {d : CT}, RPs K H F xs vs → xs[i]? = some d → ∃ v, vs[i]? = some v ∧ RP K H F d v
  | _, _, _, _, .nil, h => by simp at h
  | _, _, 0, _, .cons h r, e => by simp at e; subst e; exact ⟨_, rfl, h⟩
  | _, _, i + 1, _, .cons h r, e => by
    obtain ⟨v, h1, h2⟩ := RPs.get (i := i) r (by simpa using e)
    exact ⟨v, by simpa using h1, h2⟩
theorem RPs.length {K : PySem.W.Frag} {F H : Hp} : ∀ {xs : List CT} {vs : List V}, RPs K H F xs vs → xs.length = vs.length
  | _, _, .nil => rfl
  | _, _, .cons _ r => by rw [List.length_cons, List.length_cons, r.length]
theorem atI_rps {K : PySem.W.Frag} {F H : Hp} {xs : List CT} {vs : List V} {k : Int} {d : CT} (r : RPs K H F xs vs) (h : atI xs k = some d) : ∃ v, atI vs k = some v ∧ RP K H F d v := by
  unfold atI at h ⊢
  rw [← r.length]
  cases e : ixN xs.length k with
  | none => rw [e] at h; cases h
  | some j =>
    rw [e] at h
    exact r.get h
/-- a[k] -/
def rAt (K : PySem.W.Frag) : R2 := fun x y H Q => ∃ F c k r, Same F H ∧ RP K H F c x ∧ y = .int k ∧ c.at k = some r ∧ ∀ v, RP K H F r v → Q v H
theorem ix_at : IxR X (rAt X.K) := by
  intro value slice pins s σ H x y v u Q I rx ry q hs
  obtain ⟨F, c, k, r, hf, rc, rfl, ha, q⟩ := q
  unfold CT.at at ha
  split at ha
  · rename_i xs
    cases e : atI xs k with
    | none => rw [e] at ha; cases ha
    | some d =>
      rw [e] at ha
      have e2 := Option.some.inj ha
      subst e2
      obtain ⟨a, vs, rfl, hl, rs⟩ := lels_rp hf rc rfl
      obtain ⟨w, hw, rw'⟩ := atI_rds rs e
      exact ix_list value slice pins s σ H _ _ v u Q I rx ry ⟨a, vs, k, w, rfl, rfl, SqL.of hl, hw, q w (.d rw')⟩ hs
  · rename_i xs
    cases e : atI xs k with
    | none => rw [e] at ha; cases ha
    | some d =>
      rw [e] at ha
      have e2 := Option.some.inj ha
      subst e2
      obtain ⟨a, vs, rfl, hl, rs⟩ := tels_rp hf rc rfl
      obtain ⟨w, hw, rw'⟩ := atI_rds rs e
      exact ix_tup value slice pins s σ H _ _ v u Q I rx ry ⟨a, vs, k, w, rfl, rfl, hl, hw, q w (.d rw')⟩ hs
  · rename_i ns
    cases e : atI ns k with
    | none => rw [e] at ha; cases ha
    | some d =>
      rw [e] at ha
      have e2 := Option.some.inj ha
      subst e2
      cases rc with
      | d rc =>
        cases rc with
        | scr hq => exact ix_list value slice pins s σ H _ _ v u Q I rx ry ⟨_, _, k, .int d, rfl, rfl, hf.seq hq, by rw [atI_map, e]; rfl, q _ (.d (.int _))⟩ hs
  · rename_i z
    split at ha
    · rename_i hz
      cases e : atI z.cps.toList k with
      | none => rw [e] at ha; cases ha
      | some d =>
        rw [e] at ha
        have e2 := Option.some.inj ha
        subst e2
        refine ix_str value slice pins s σ H _ _ v u Q I rx ry ⟨z, k, d, rc.str, rfl, ?_, e, q _ (.d (.str _))⟩ hs
        have : (1000000 : Nat) ≤ sizeLine := by decide
        omega
    · cases ha
  · rename_i xs
    cases rc with
    | l hl rs =>
      obtain ⟨w, hw, rw'⟩ := atI_rps rs ha
      exact ix_list value slice pins s σ H _ _ v u Q I rx ry ⟨_, _, k, w, rfl, rfl, SqL.of hl, hw, q w rw'⟩ hs
  · rename_i xs
    cases rc with
    | t hl rs =>
      obtain ⟨w, hw, rw'⟩ := atI_rps rs ha
      exact ix_tup value slice pins s σ H _ _ v u Q I rx ry ⟨_, _, k, w, rfl, rfl, SqT.of hl, hw, q w rw'⟩ hs
  · cases ha
/-- a[lo:hi] -/
def rCut (K : PySem.W.Frag) : V → Option Int → Option Int → Hp → VK → Prop := fun x lo hi H Q => ∃ F c r, Same F H ∧ RP K H F c x ∧ slcf c lo hi = some r ∧ ∀ v H' F' u, NewR K H F H' F' r v u → Q v H'
theorem slr_imp {r r' : V → Option Int → Option Int → Hp → VK → Prop} (h : SlR X r) (x : V) (lo hi : Option Int) (H : Hp) (Q : VK) (i : r' x lo hi H Q → r x lo hi H Q) : True := trivial
theorem sl_cut : SlR X (rCut X.K) := by
  intro pins s σ H x v vl vu lo hi sl Q I rx hs pl pu q
  obtain ⟨F, c, r, hf, rc, hc, q⟩ := q
  unfold slcf at hc
  split at hc
  · rename_i ns
    have e := Option.some.inj hc
    subst e
    cases rc with
    | d rc =>
      cases rc with
      | scr hq =>
        refine sl_list pins s σ H _ v vl vu _ _ sl Q I rx hs pl pu ⟨_, _, rfl, hf.seq hq, fun p hp => ?_⟩
        have n := NewR.lst (K := X.K) hf hp (RDs.cut (RDs.ints ns) lo hi)
        rw [show (cutL (ns.map D.int) lo hi).map CT.d = (cutL ns lo hi).map fun n => CT.d (.int n) by unfold cutL; simp [List.map_take, List.map_drop]; rfl] at n
        exact q _ _ _ _ n
  · rename_i z
    obtain ⟨g, rfl⟩ := guardP_some hc
    refine sl_str pins s σ H _ v vl vu _ _ sl Q I rx hs pl pu ⟨z, rc.str, ?_, ?_⟩
    · have : (lmax : Nat) ≤ sizeLine := by decide
      omega
    · have e : cutS z lo hi = ⟨(cutL z.cps.toList lo hi).toArray⟩ := by unfold cutS cutL; simp [Str.length]
      rw [e]
      exact q _ _ _ _ (.here hf (.str _))
  · split at hc
    · rename_i xs hl
      have e := Option.some.inj hc
      subst e
      obtain ⟨a, vs, rfl, ha, rs⟩ := lels_rp hf rc hl
      exact sl_list pins s σ H _ v vl vu _ _ sl Q I rx hs pl pu ⟨a, vs, rfl, SqL.of ha, fun p hp => q _ _ _ _ (.lst hf hp (rs.cut lo hi))⟩
    · split at hc
      · rename_i xs hl
        obtain ⟨g, rfl⟩ := guardP_some hc
        obtain ⟨a, vs, rfl, ha, rs⟩ := tels_rp hf rc hl
        exact sl_tup pins s σ H _ v vl vu _ _ sl Q I rx hs pl pu ⟨a, vs, rfl, ha, by rw [← rs.length]; exact g, fun p hp => q _ _ _ _ (.tup hf hp (rs.cut lo hi))⟩
      · cases hc

/-! ### isinstance -/
def TyN.nm : TyN → String | .int => "int" | .bool => "bool" | .str => "str" | .list => "list" | .tuple => "tuple"
def D.ty : D → String
  | .non => "NoneType" | .bl _ => "bool" | .int _ => "int" | .str _ => "str" | .tup _ => "tuple" | .lst _ => "list" | .scr _ => "list" | _ => ""
theorem kit_is {K : PySem.W.Frag} {t : TyN} {d : D} {b : Bool} (h : tyIs t d = some b) : PySem.W.kitOne K (.type d.ty) (.type t.nm) = some b := by
  refine kit_ty ?_
  cases d <;> first | (have e := Option.some.inj h; subst e) | cases h
  all_goals (simp only [D.ty]; cases t <;> decide +kernel)
theorem tyx_of {K : PySem.W.Frag} {F H : Hp} {t : TyN} {d : D} {v : V} {b : Bool} (f : Same F H) (r : RD K F d v) (h : tyIs t d = some b) : TyX K H v (.type d.ty) := by
  cases r with
  | non => exact .base .non
  | bl b => exact .base (.bl b)
  | int b => exact .base (.int b)
  | str b => exact .base (.str b)
  | tup h1 _ =>
    rcases h1 with (h1 | ⟨o, h1⟩) | ⟨o, its, n, h1, h2, _⟩
    · exact .base (.tup (f _ _ h1))
    · exact .fTuple (f _ _ h1)
    · exact .kTuple h1 h2
  | lst h1 _ => exact .base (.lst (f _ _ h1))
  | scr h1 =>
    rcases h1 with (h1 | ⟨o, h1⟩) | ⟨o, its, n, h1, h2, _⟩
    · exact .base (.lst (f _ _ h1))
    · exact .base (.frz (f _ _ h1))
    · exact .kList h1 h2
  | rng _ => cases h
  | dic _ => cases h
  | exn _ _ _ => cases h
theorem kits_is {K : PySem.W.Frag} {d : D} : ∀ {ts : List TyN} {b : Bool}, isif ts d = some b → ts ≠ [] → PySem.W.kitAny K (.type d.ty) (ts.map fun t => .type t.nm) = some b
  | [], _, _, n => absurd rfl n
  | [t], b, h, _ => by
    have h1 : tyIs t d = some b := h
    refine kitAny_cons (b := b) (kit_is h1) (fun e => ?_) (fun e => e)
    subst e
    rfl
  | t :: t2 :: r, b, h, _ => by
    have h' : (match tyIs t d, isif (t2 :: r) d with
      | some a, some b => some (a || b)
      | _, _ => none) = some b := h
    split at h'
    · rename_i a b2 e1 e2
      have e := Option.some.inj h'
      subst e
      have ih := kits_is (K := K) e2 (by simp)
      refine kitAny_cons (b := a) (kit_is e1) (fun e => ?_) (fun e => ?_)
      · subst e; exact ih
      · subst e; rfl
    · cases h'
end
end PV

/-! Built-in functions by the evaluator's data. -/
namespace PV
open PySem PySem.Spec PyProof.Rows L2
def rB (K : PySem.W.Frag) (b : BI) : List V → Hp → VK → Prop := fun vs H Q => ∃ F cs c, Same F H ∧ RPs K H F cs vs ∧ bltf b cs = some c ∧ ∀ v H' F' u, NewR K H F H' F' c v u → Q v H'
section
variable {X : Cx}
theorem cb_len : CallR X (.builtin "len") (rB X.K .len) := by
  intro pins s σ H vs us Q I r q
  obtain ⟨F, cs, c, hf, rc, hb, q⟩ := q
  unfold bltf at hb
  split at hb <;> first | cases hb | skip
  all_goals (rename_i h1; cases h1)
  rename_i a
  cases rc with
  | cons ra rn =>
    cases rn
    rename_i v
    have rd := ra.frz hf
    have fin : ∀ n : Nat, LenV X.K v H n → c = .d (.int n) → wpAny (model X.prog X.w) X.A (call (.builtin "len") us) (EP X pins σ Q) X.xe s := fun n hn e => by
      subst e
      exact call_len pins s σ H [v] us Q I r ⟨v, n, rfl, hn, q _ _ _ _ (.here hf (.int _))⟩
    split at hb
    · rename_i xs e
      rw [e] at rd
      cases rd with
      | lst h1 h2 => exact fin _ (.inl ⟨_, SqL.of h1, h2.length⟩) (Option.some.inj hb).symm
    · rename_i xs e
      rw [e] at rd
      cases rd with
      | tup h1 h2 => exact fin _ (.inr ⟨_, h1, h2.length⟩) (Option.some.inj hb).symm
    · rename_i xs e
      rw [e] at rd
      cases rd with
      | scr h1 => exact fin _ (.inl ⟨_, h1, by simp⟩) (Option.some.inj hb).symm
    · rename_i xs e
      rw [e] at rd
      obtain ⟨g, e2⟩ := guardP_some hb
      have : (lmax : Nat) ≤ sizeLine := by decide
      cases rd with
      | str => exact fin _ ⟨by omega, rfl⟩ e2.symm
    · cases hb
theorem cb_abs : CallR X (.builtin "abs") (rB X.K .abs) := by
  intro pins s σ H vs us Q I r q
  obtain ⟨F, cs, c, hf, rc, hb, q⟩ := q
  unfold bltf at hb
  split at hb <;> first | cases hb | skip
  all_goals (rename_i h1; cases h1)
  cases rc with
  | cons ra rn =>
    cases rn
    have e := ra.int
    subst e
    exact call_abs pins s σ H _ us Q I r ⟨_, rfl, q _ _ _ _ (.here hf (.int _))⟩
theorem cb_max (hc : X.calm = true) : CallR X (.builtin "max") (rB X.K .max) := by
  intro pins s σ H vs us Q I r q
  obtain ⟨F, cs, c, hf, rc, hb, q⟩ := q
  unfold bltf at hb
  split at hb <;> first | cases hb | skip
  all_goals (rename_i h1; cases h1)
  cases rc with
  | cons ra rn =>
    cases rn with
    | cons rb rn =>
      cases rn
      have e := ra.int
      have e2 := rb.int
      subst e
      subst e2
      exact call_max2 hc pins s σ H _ us Q I r ⟨_, _, rfl, q _ _ _ _ (.here hf (.int _))⟩
theorem cb_int : CallR X (.type "int") (rB X.K .int) := by
  intro pins s σ H vs us Q I r q
  obtain ⟨F, cs, c, hf, rc, hb, q⟩ := q
  unfold bltf at hb
  split at hb <;> first | cases hb | skip
  all_goals (rename_i h1; cases h1)
  · cases rc with
    | cons ra rn =>
      cases rn
      have e := ra.int
      subst e
      exact call_int1 pins s σ H _ us Q I r (.inl ⟨_, rfl, q _ _ _ _ (.here hf (.int _))⟩)
  · cases rc with
    | cons ra rn =>
      cases rn
      have e := ra.bl
      subst e
      exact call_int1 pins s σ H _ us Q I r (.inr ⟨_, rfl, q _ _ _ _ (.here hf (.int _))⟩)
theorem cb_all (hc : X.calm = true) : CallR X (.builtin "all") (rB X.K .all) := by
  intro pins s σ H vs us Q I r q
  obtain ⟨F, cs, c, hf, rc, hb, q⟩ := q
  unfold bltf at hb
  split at hb <;> first | cases hb | skip
  all_goals (rename_i h1; cases h1)
  cases rc with
  | cons ra rn =>
    cases rn
    split at hb
    · rename_i xs hl
      obtain ⟨a, ws, rfl, ha, rs⟩ := lels_rp hf ra hl
      cases e : blsOf xs with
      | none => rw [e] at hb; cases hb
      | some bs =>
        rw [e] at hb
        have e2 := Option.some.inj hb
        subst e2
        rw [rs.blsOf e] at ha
        exact cr_all hc pins s σ H _ us Q I r ⟨a, bs, rfl, SqL.of ha, q _ _ _ _ (.here hf (.bl _))⟩
    · cases hb
theorem cb_any (hc : X.calm = true) : CallR X (.builtin "any") (rB X.K .any) := by
  intro pins s σ H vs us Q I r q
  obtain ⟨F, cs, c, hf, rc, hb, q⟩ := q
  unfold bltf at hb
  split at hb <;> first | cases hb | skip
  all_goals (rename_i h1; cases h1)
  cases rc with
  | cons ra rn =>
    cases rn
    split at hb
    · rename_i xs hl
      obtain ⟨a, ws, rfl, ha, rs⟩ := lels_rp hf ra hl
      cases e : blsOf xs with
      | none => rw [e] at hb; cases hb
      | some bs =>
        rw [e] at hb
        have e2 := Option.some.inj hb
        subst e2
        rw [rs.blsOf e] at ha
        exact cr_any hc pins s σ H _ us Q I r ⟨a, bs, rfl, SqL.of ha, q _ _ _ _ (.here hf (.bl _))⟩
    · cases hb
theorem cb_sum (hc : X.calm = true) : CallR X (.builtin "sum") (rB X.K .sum) := by
  intro pins s σ H vs us Q I r q
  obtain ⟨F, cs, c, hf, rc, hb, q⟩ := q
  unfold bltf at hb
  split at hb <;> first | cases hb | skip
  all_goals (rename_i h1; cases h1)
  cases rc with
  | cons ra rn =>
    cases rn
    split at hb
    · rename_i xs hl
      obtain ⟨a, ws, rfl, ha, rs⟩ := lels_rp hf ra hl
      cases e : intsOf xs with
      | none => rw [e] at hb; cases hb
      | some bs =>
        rw [e] at hb
        have e2 := Option.some.inj hb
        subst e2
        rw [rs.intsOf e] at ha
        exact cr_sum hc pins s σ H _ us Q I r ⟨a, bs, rfl, SqL.of ha, q _ _ _ _ (.here hf (.int _))⟩
    · cases hb
theorem cb_list : CallR X (.type "list") (rB X.K .list) := by
  intro pins s σ H vs us Q I r q
  obtain ⟨F, cs, c, hf, rc, hb, q⟩ := q
  unfold bltf at hb
  split at hb <;> first | cases hb | skip
  all_goals (rename_i h1; cases h1)
  cases rc with
  | cons ra rn =>
    cases rn
    split at hb
    · rename_i xs hl
      have e2 := Option.some.inj hb
      subst e2
      obtain ⟨a, ws, rfl, ha, rs⟩ := lels_rp hf ra hl
      exact call_list_of pins s σ H _ us Q I r ⟨a, ws, rfl, .inl (SqL.of ha), fun p hp => q _ _ _ _ (.lst hf hp rs)⟩
    · split at hb
      · rename_i xs hl
        have e2 := Option.some.inj hb
        subst e2
        obtain ⟨a, ws, rfl, ha, rs⟩ := tels_rp hf ra hl
        exact call_list_of pins s σ H _ us Q I r ⟨a, ws, rfl, .inr ha, fun p hp => q _ _ _ _ (.lst hf hp rs)⟩
      · cases hb
/-- what stands newly and is frozen at once -/
theorem NewR.frz1 {K : PySem.W.Frag} {H F : Hp} {a : Addr} {o : HO} {x : D} (f : Same F H) (n : H a = none) (r : RD K (upd F a o) x (.ref a)) : NewR K H F (upd H a o) (upd F a o) (.d x) (.ref a) [] := by
  have s : Same H (upd H a o) := new_same n
  have fn : F a = none := f.free n
  refine ⟨s, ⟨new_same fn, fun b o h => ?_⟩, fun b o h => ?_, .d r, List.nodup_nil, fun _ m => by cases m⟩
  · by_cases e : b = a
    · subst e; exact .inr n
    · rw [upd_ne e] at h; exact .inl h
  · by_cases e : b = a
    · subst e; rw [upd_same] at h; rw [upd_same]; exact h
    · rw [upd_ne e] at h; rw [upd_ne e]; exact f b o h
theorem cb_range : CallR X (.type "range") (rB X.K .range) := by
  intro pins s σ H vs us Q I r q
  obtain ⟨F, cs, c, hf, rc, hb, q⟩ := q
  unfold bltf at hb
  split at hb <;> first | cases hb | skip
  all_goals (rename_i h1; cases h1)
  · cases rc with
    | cons ra rn =>
      cases rn
      have e := ra.int
      subst e
      obtain ⟨g, rfl⟩ := guardP_some hb
      obtain ⟨u, rfl, ru⟩ := vals1 r
      obtain ⟨t, rfl⟩ := ru
      refine call_range_1 ⟨.ref _, upd H s.heap.objs.size (.rng 0 _), I.laid (fun b o e => Heap.get?_push_of_some _ e) (Nat.le_refl _) ⟨_, _, _, Heap.get?_push_size _ rfl⟩, rfl, q _ _ _ _ (.frz1 hf (I.hok.fresh (Nat.le_refl _)) (.rng upd_same))⟩
  · cases rc with
    | cons ra rn =>
      cases rn with
      | cons rb rn =>
        cases rn
        have e := ra.int
        have e2 := rb.int
        subst e
        subst e2
        obtain ⟨g, rfl⟩ := guardP_some hb
        obtain ⟨u, w, rfl, ru, rw'⟩ := vals2 r
        obtain ⟨t, rfl⟩ := ru
        obtain ⟨t', rfl⟩ := rw'
        refine call_range_2 ⟨.ref _, upd H s.heap.objs.size (.rng _ _), I.laid (fun b o e => Heap.get?_push_of_some _ e) (Nat.le_refl _) ⟨_, _, _, Heap.get?_push_size _ rfl⟩, rfl, q _ _ _ _ (.frz1 hf (I.hok.fresh (Nat.le_refl _)) (.rng upd_same))⟩
theorem ints_noDict : ∀ ns : List Int, PyData.hasDictAll (ns.map .int) = false
  | [] => by simp only [List.map_nil, PyData.hasDictAll]
  | n :: r => by rw [List.map_cons]; simp only [PyData.hasDictAll, PyData.hasDict, Bool.false_or]; exact ints_noDict r
mutual
theorem pl_noDict : ∀ x : D, x.pl = true → x.py.hasDict = false
  | .non, _ => by simp only [D.py, PyData.hasDict]
  | .bl _, _ => by simp only [D.py, PyData.hasDict]
  | .int _, _ => by simp only [D.py, PyData.hasDict]
  | .str _, _ => by simp only [D.py, PyData.hasDict]
  | .tup xs, h => by rw [D.pl] at h; simp only [D.py, PyData.hasDict]; exact pls_noDict xs h
  | .lst xs, h => by rw [D.pl] at h; simp only [D.py, PyData.hasDict]; exact pls_noDict xs h
  | .scr ns, _ => by
    simp only [D.py, PyData.hasDict]
    exact ints_noDict ns
  | .dic, h => by simp [D.pl] at h
  | .rng _ _, h => by simp [D.pl] at h
  | .exn _ _, h => by simp [D.pl] at h
  | .fn _, h => by simp [D.pl] at h
theorem pls_noDict : ∀ x : List D, D.pls x = true → PyData.hasDictAll (D.pys x) = false
  | [], _ => by simp only [D.pys, PyData.hasDictAll]
  | x :: r, h => by
    rw [D.pls, Bool.and_eq_true] at h
    simp only [D.pys, PyData.hasDictAll, pl_noDict x h.1, pls_noDict r h.2, Bool.or_self]
end
/-- repr of plain data -/
theorem cb_repr (hg : X.A.guards = some []) (hu : X.A.units + 80 < cLine) : CallR X (.builtin "repr") (rB X.K .repr) := by
  intro pins s σ H vs us Q I r q
  obtain ⟨F, cs, c, hf, rc, hb, q⟩ := q
  unfold bltf at hb
  split at hb <;> first | cases hb | skip
  all_goals (rename_i h1; cases h1)
  cases rc with
  | cons ra rn =>
    cases rn
    obtain ⟨⟨g1, g2, g3, g4⟩, rfl⟩ := guardP_some hb
    rename_i a v
    have rd := ra.frz hf
    obtain ⟨u, rfl, ru⟩ := vals1 r
    have n := q _ _ _ _ (.here hf (.str _))
    obtain ⟨as, rr⟩ := Dp.reads I _ v u (rd.dp g1) ru
    have sz : a.frz.py.shown.length ≤ sizeLine := by
      have : (lmax : Nat) ≤ sizeLine := by decide
      omega
    have dp : a.frz.py.depth ≤ 64 := by
      have h := g2
      unfold SeqAt.shaped at h
      rw [Bool.and_eq_true] at h
      exact of_decide_eq_true h.2
    have fin : ∀ h' uu tk, (∀ b o, s.heap.get? b = some o → h'.get? b = some o) → EP X pins σ Q (.str a.frz.py.shown uu) { s with heap := h', toks := tk } := fun h' uu tk k => ⟨.str _, H, I.kept k, ⟨_, rfl⟩, n⟩
    have hd := pl_noDict _ g1
    generalize hz : a.frz = z0 at *
    clear hz
    cases rd with
    | non => cases (show u = Value.none from ru); exact PySem.P.repr_of_none (fin s.heap _ _ fun _ _ e => e)
    | bl b => cases (show u = Value.bool b from ru); have z := fin s.heap s.toks (s.toks + 1) fun _ _ e => e; refine PySem.P.repr_of_bool ?_; simp only [D.py, PyData.shown] at z; exact z
    | int b =>
      obtain ⟨t, rfl⟩ := ru
      have z := fin s.heap s.toks (s.toks + 1) fun _ _ e => e
      simp only [D.py, PyData.shown] at z
      simp only [D.py, PyData.showable] at g3
      exact PySem.P.repr_of_int (of_decide_eq_true g3) z
    | str b =>
      obtain ⟨t, rfl⟩ := ru
      have z := fin s.heap s.toks (s.toks + 1) fun _ _ e => e
      simp only [D.py, PyData.shown] at z sz
      exact PySem.P.repr_of_str z sz
    | tup =>
      cases ru
      refine repr_of_reads' rr g3 (fun h => absurd (hd.symm.trans h) Bool.false_ne_true) hg (by omega) (fun _ _ e => e) fin sz
    | lst =>
      cases ru
      refine repr_of_reads' rr g3 (fun h => absurd (hd.symm.trans h) Bool.false_ne_true) hg (by omega) (fun _ _ e => e) fin sz
    | scr =>
      cases ru
      refine repr_of_reads' rr g3 (fun h => absurd (hd.symm.trans h) Bool.false_ne_true) hg (by omega) (fun _ _ e => e) fin sz
    | rng => simp [D.pl] at g1
    | dic => simp [D.pl] at g1
    | exn => simp [D.pl] at g1
end
end PV

/-! Expressions: the evaluator is kept, construct by construct. -/
namespace PV
open PySem PySem.Spec PyProof.Rows L2

section
variable {T : Fx} {p pur q : Bool} {B F H B1 F1 H1 : Hp} {σ : Sl} {Q : VK} {c : CT} {v : V} {u U : List Addr}
def RVs (K : PySem.W.Frag) (p : Bool) (H F : Hp) (c : List CT) (v : List V) (u : List Addr) : Prop := if p = true then u = [] ∧ RPs K H F c v else RCs K H F c v u
theorem RVs.pp {K : PySem.W.Frag} {c : List CT} {v : List V} (r : RVs K true H F c v u) : u = [] ∧ RPs K H F c v := by unfold RVs at r; rw [if_pos rfl] at r; exact r
theorem RVs.cc {K : PySem.W.Frag} {c : List CT} {v : List V} (r : RVs K false H F c v u) : RCs K H F c v u := by unfold RVs at r; rw [if_neg (by decide)] at r; exact r
theorem RVs.rp {K : PySem.W.Frag} {c : List CT} {v : List V} (r : RVs K q H F c v u) : RPs K H F c v := by
  cases q with
  | true => exact r.pp.2
  | false => exact r.cc.rp
def ContS (T : Fx) (p pur : Bool) (B F H : Hp) (σ : Sl) (r : Res (List CT × Env)) (Q : List V → Hp → Prop) : Prop := match r with
  | .ok r => ∀ v H' F' U' u, Gr B F F' → WR B F' H' (u ++ U') → SR T.K H' F' r.2 σ U' → RVs T.K p H' F' r.1 v u → (pur = true → Same H H') → Q v H'
  | .exc c x => XP T σ B F c x
  | .bad => False
def tEs (T : Fx) (p pur : Bool) (f : Env → Res (List CT × Env)) : TA := fun σ H Q => ∃ env B F U, SR T.K H F env σ U ∧ WR B F H U ∧ ContS T p pur B F H σ (f env) Q
theorem ContS.mono {r : Res (List CT × Env)} {Q : List V → Hp → Prop} (h : ContS T p pur B F H σ r Q) (s : Same B B1) (g : Gr B F F1) (k : pur = true → Same H H1) : ContS T p pur B1 F1 H1 σ r Q := by
  cases r with
  | ok r => exact fun v H' F' U' u h1 h2 h3 h4 h5 => h v H' F' U' u (g.trans (h1.sub s)) (h2.lower s) h3 h4 fun e => (k e).trans (h5 e)
  | exc c x => exact XP.mono h s g
  | bad => exact h
/-- many steps, then the rest -/
theorem seqS {f : Env → Res (List CT × Env)} {g : List CT × Env → Res (CT × Env)} {pu1 : Bool} {env : Env} (s : SR T.K H F env σ U) (w : WR B F H U) (h : Cont T p pur B F H σ ((f env).bd g) Q) (hq : pur = true → pu1 = true) :
    tEs T q pu1 f σ H (fun v1 H1 => ∃ c1 env1 B1 F1 U1, SR T.K H1 F1 env1 σ U1 ∧ WR B1 F1 H1 U1 ∧ Cont T p pur B1 F1 H1 σ (g (c1, env1)) Q ∧ RPs T.K H1 F1 c1 v1 ∧ f env = .ok (c1, env1) ∧ (q = false → ∃ u1, RCs T.K H1 F1 c1 v1 u1 ∧ WR B F1 H1 (u1 ++ U1) ∧ Cont T p pur B F1 H1 σ (g (c1, env1)) Q) ∧ (pu1 = true → Same H H1)) := by
  refine ⟨env, B, F, U, s, w, ?_⟩
  cases e : f env with
  | ok r =>
    rw [e] at h
    intro v1 H1 F1 U1 u1 g1 w1 s1 r1 k1
    refine ⟨r.1, r.2, lesser H1 U1, F1, U1, s1, w1.lesser, Cont.mono (H1 := H1) h w1.base g1 (fun e => k1 (hq e)), r1.rp, rfl, fun e => ?_, k1⟩
    subst e
    exact ⟨u1, r1.cc, w1, Cont.mono (H1 := H1) h (Same.refl _) g1 fun e => k1 (hq e)⟩
  | exc c x => rw [e] at h; exact h
  | bad => rw [e] at h; exact h
theorem tEs_nil {Q : List V → Hp → Prop} {f : Env → Res (List CT × Env)} (hf : ∀ e, f e = .ok ([], e)) (h : tEs T p pur f σ H Q) : Q [] H := by
  obtain ⟨env, B, F, U, s, w, h⟩ := h
  rw [hf] at h
  refine h [] H F U [] Gr.refl w s ?_ fun _ => Same.refl _
  unfold RVs
  split
  · exact ⟨rfl, .nil⟩
  · exact .nil
/-- one more argument -/
theorem tEs_cons {Q : List V → Hp → Prop} {f1 : Env → Res (CT × Env)} {f2 : Env → Res (List CT × Env)} {pu1 pu2 : Bool} (hp : p = true → pu1 = true ∧ pu2 = true)
    (h : tEs T p (pu1 && pu2) (fun e => (f1 e).bd fun r => (f2 r.2).bd fun q => .ok (r.1 :: q.1, q.2)) σ H Q) : tE T p pu1 f1 σ H fun x H1 => tEs T p pu2 f2 σ H1 fun xs H2 => Q (x :: xs) H2 := by
  obtain ⟨env, B, F, U, s, w, h⟩ := h
  refine ⟨env, B, F, U, s, w, ?_⟩
  have h : ContS T p (pu1 && pu2) B F H σ ((f1 env).bd fun r => (f2 r.2).bd fun q => .ok (r.1 :: q.1, q.2)) Q := h
  cases e : f1 env with
  | ok r =>
    rw [e] at h
    intro v1 H1 F1 U1 u1 g1 w1 s1 r1 k1
    refine ⟨r.2, lesser H1 U1, F1, U1, s1, w1.lesser, ?_⟩
    have h : ContS T p (pu1 && pu2) B F H σ ((f2 r.2).bd fun q => .ok (r.1 :: q.1, q.2)) Q := h
    cases e2 : f2 r.2 with
    | ok z =>
      rw [e2] at h
      intro v2 H2 F2 U2 u2 g2 w2 s2 r2 k2
      obtain ⟨w3, g3, eq⟩ := w1.keep g2 w2
      refine h (v1 :: v2) H2 F2 U2 (u1 ++ u2) (g1.trans g3) (by rw [List.append_assoc]; exact w3) s2 ?_ fun e => ?_
      · cases p with
        | true =>
          obtain ⟨e1, q1⟩ := r1.pp
          obtain ⟨e2, q2⟩ := r2.pp
          subst e1; subst e2
          unfold RVs
          rw [if_pos rfl]
          exact ⟨rfl, .cons (RP.mono g3.s (k2 (hp rfl).2) q1) q2⟩
        | false =>
          unfold RVs
          rw [if_neg (by decide)]
          exact .cons (RC.mono g2.s r1.cc eq) r2.cc
      · rw [Bool.and_eq_true] at e
        exact (k1 e.1).trans (k2 e.2)
    | exc c x =>
      rw [e2] at h
      exact XP.mono h w1.base g1
    | bad => rw [e2] at h; exact h
  | exc c x => rw [e] at h; exact h
  | bad => rw [e] at h; exact h
end
end PV

/-! Expressions: names, constants, operators, tests. -/
namespace PV
open PySem PySem.Spec PyProof.Rows L2

section
variable {T : Fx} {p pur q : Bool} {B F H B1 F1 H1 : Hp} {σ : Sl} {Q : VK} {c : CT} {v : V} {u U : List Addr}
/-- owned or read: what is owned can be read -/
theorem tE.toC {f : Env → Res (CT × Env)} (h : tE T true pur f σ H Q) : tE T false pur f σ H Q := by
  obtain ⟨env, B, F, U, s, w, h⟩ := h
  refine ⟨env, B, F, U, s, w, ?_⟩
  cases e : f env with
  | ok r =>
    rw [e] at h
    exact fun v H' F' U' u g w s r k => h v H' F' U' [] g w.right s (RV.mkP r.rp) k
  | exc c x => rw [e] at h; exact h
  | bad => rw [e] at h; exact h
theorem tE.any {f : Env → Res (CT × Env)} (h : tE T p pur f σ H Q) : tE T false pur f σ H Q := by
  cases p with
  | true => exact h.toC
  | false => exact h
/-- a constant -/
theorem tE.const {f : Env → Res (CT × Env)} {d : D} (hf : ∀ e, f e = .ok (.d d, e)) (hd : ∀ F, RD T.K F d v) (h : tE T p pur f σ H Q) : Q v H := by
  obtain ⟨env, B, F, U, s, w, h⟩ := h
  rw [hf] at h
  exact fin s w h (.here w.f (hd F))
theorem tE.var {i : Nat} {f : Env → Res (CT × Env)} (hf : ∀ env, f env = match env.get i with
    | some c => if p then .ok (c, env) else .ok (.d c.frz, env.set i (some (.d c.frz)))
    | none => .bad) (h : tE T p pur f σ H Q) : ∃ v, σ[i]? = some (some v) ∧ Q v H := by
  obtain ⟨env, B, F, U, s, w, h⟩ := h
  rw [hf] at h
  cases e : env.get i with
  | none => rw [e] at h; exact h.elim
  | some c =>
    rw [e] at h
    obtain ⟨v, u, W, h1, h2, h3, h4, h5⟩ := s.get e
    refine ⟨v, h1, ?_⟩
    cases p with
    | true => exact h v H F U [] Gr.refl w s (RV.mkP h2.rp) fun _ => Same.refl _
    | false =>
      have w' := w.perm h3
      obtain ⟨wg, gg⟩ := w'.grown
      have fr := RC.freeze w' h2
      have s' : SR T.K H (grown F H u) (env.set i none) σ W := SR.mono gg.s h4 fun _ _ => rfl
      obtain ⟨U', q1, q2⟩ := h5 H (grown F H u) (.d c.frz) [] W (.d fr) s'
      exact h v H (grown F H u) U' [] gg (wg.perm (by simpa using q2.symm)) q1 (RV.mkC (.d fr)) fun _ => Same.refl _
theorem tE.take {i : Nat} {f : Env → Res (CT × Env)} (hf : ∀ env, f env = match env.get i with
    | some c => if p then .ok (c, env) else .ok (c, env.set i none)
    | none => .bad) (h : tE T p pur f σ H Q) : ∃ v, σ[i]? = some (some v) ∧ Q v H := by
  obtain ⟨env, B, F, U, s, w, h⟩ := h
  rw [hf] at h
  cases e : env.get i with
  | none => rw [e] at h; exact h.elim
  | some c =>
    rw [e] at h
    obtain ⟨v, u, W, h1, h2, h3, h4, h5⟩ := s.get e
    refine ⟨v, h1, ?_⟩
    cases p with
    | true => exact h v H F U [] Gr.refl w s (RV.mkP h2.rp) fun _ => Same.refl _
    | false => exact h v H F W u Gr.refl (w.perm h3) h4 (RV.mkC h2) fun _ => Same.refl _
/-- two operands -/
theorem tE.two {g : CT → CT → Option CT} {f f1 f2 : Env → Res (CT × Env)} {pu1 pu2 : Bool} (hf : ∀ e, f e = (f1 e).bd fun r => (f2 r.2).bd fun z => (Res.of (g r.1 z.1)).bd fun c => .ok (c, z.2))
    (hq : q = true → pu2 = true) (h1 : pur = true → pu1 = true) (h2 : pur = true → pu2 = true) (h : tE T p pur f σ H Q) : tOp (rO T.K g) (tE T q pu1 f1) (tE T q pu2 f2) σ H Q := by
  obtain ⟨env, B, F, U, s, w, h⟩ := h
  rw [hf] at h
  obtain ⟨env', B', F', U', s', w', h'⟩ := seq (q := q) s w h h1
  refine ⟨env', B', F', U', s', w', ?_⟩
  revert h'
  cases e : f1 env' with
  | ok r =>
    intro h' v1 H1 Fa Ua ua ga wa sa ra ka
    obtain ⟨c1, env1, B1, F1, U1, s1, w1, k1, kept1, fs, bs, bh, kk, fe⟩ := h' v1 H1 Fa Ua ua ga wa sa ra ka
    obtain ⟨env2, B2, F2, U2, s2, w2, h2'⟩ := seq (q := q) s1 w1 k1 h2
    refine ⟨env2, B2, F2, U2, s2, w2, ?_⟩
    revert h2'
    cases e2 : f2 env2 with
    | ok r2 =>
      intro h2' v2 H2 Fb Ub ub gb wb sb rb kb
      obtain ⟨c2, env3, B3, F3, U3, s3, w3, k3, kept3, fs3, bs3, bh3, kk3, fe3⟩ := h2' v2 H2 Fb Ub ub gb wb sb rb kb
      cases ho : g c1 c2 with
      | none => rw [show g (c1, env1).1 (c2, env3).1 = none from ho] at k3; exact k3.elim
      | some c =>
        rw [show g (c1, env1).1 (c2, env3).1 = some c from ho] at k3
        exact ⟨F3, c1, c2, c, w3.f, kept1 H2 F3 fs3 (bs3.trans bh3) (fun e => kk3 (hq e)), kept3 H2 F3 (Same.refl _) bh3 (fun _ => Same.refl _), ho, fun v H' F' u n => fin s3 w3 k3 n⟩
    | exc c x => intro h; exact h
    | bad => intro h; exact h
  | exc c x => intro h; exact h
  | bad => intro h; exact h
/-- one operand, a value of none of the heap's -/
theorem tE.one {g : CT → Option D} {f f1 : Env → Res (CT × Env)} {pu1 : Bool} (hf : ∀ e, f e = (f1 e).bd fun r => match g r.1 with
      | some d => .ok (.d d, r.2)
      | none => .bad) (h1 : pur = true → pu1 = true) (h : tE T p pur f σ H Q) :
    tE T q pu1 f1 σ H fun x H1 => ∃ c F d, Same F H1 ∧ RP T.K H1 F c x ∧ g c = some d ∧ ∀ v, RD T.K F d v → Q v H1 := by
  obtain ⟨env, B, F, U, s, w, h⟩ := h
  rw [hf] at h
  obtain ⟨env', B', F', U', s', w', h'⟩ := seq (q := q) s w h h1
  refine ⟨env', B', F', U', s', w', ?_⟩
  revert h'
  cases e : f1 env' with
  | ok r =>
    intro h' v1 H1 Fa Ua ua ga wa sa ra ka
    obtain ⟨c1, env1, B1, F1, U1, s1, w1, k1, kept1, fs, bs, bh, kk, fe⟩ := h' v1 H1 Fa Ua ua ga wa sa ra ka
    have k1 : Cont T p pur B1 F1 H1 σ (match g c1 with
      | some d => .ok (.d d, env1)
      | none => .bad) Q := k1
    cases hg : g c1 with
    | none => rw [hg] at k1; exact k1.elim
    | some d =>
      rw [hg] at k1
      exact ⟨c1, F1, d, w1.f, kept1 H1 F1 (Same.refl _) bh (fun _ => Same.refl _), hg, fun v rv => fin s1 w1 k1 (.here w1.f rv)⟩
  | exc c x => intro h; exact h
  | bad => intro h; exact h
def asInt : CT → Option Int | .d (.int i) => some i | _ => none
def asBl : CT → Option Bool | .d (.bl i) => some i | _ => none
end
end PV

/-! What a body may lean on; targets. -/
namespace PV
open PySem PySem.Spec PyProof.Rows L2

/-- a def of the program: its name, parameters, whether its first argument is changed; the calls with keywords that are made of it -/
structure Ent where
  name : Str
  ps : List Str
  io : Bool := false
  kws : List (List Str × List Nat) := []
structure CK where
  fs : List Ent
  gs : List Str
  es : List Str := []
/-- what the written part says of an error class -/
structure ErrF (prog : Program) (K : PySem.W.Frag) (mg : Str → Option Value) (c : Str) : Prop where
  gc : mg c = some (.ref (He.ga K c))
  t : PySem.GErr.ErrTxt prog K mg (He.ga K c) (He.ga K "GameError") (He.ma K (He.ga K "GameError") "__init__")
  own : PySem.W.exmOne K (.ref (He.ga K c)) (.ref (He.ga K c)) = some true
  all : PySem.W.exmOne K (.ref (He.ga K c)) (.ref (He.ga K "GameError")) = some true
/-- a def's promise: what the evaluator says -/
def spR (K : PySem.W.Frag) (mg : Str → Option Value) (n : Nat) (io : Bool) (r : List CT → Res (CT × Option CT)) : Sp := fun vs H Q E => vs.length = n ∧ ∃ B F cs u, RCs K H F cs vs u ∧ WR B F H u ∧ (match r cs with
  | .ok q => ∀ v H' F' w u0, Gr B F F' → WR B F' H' (w ++ u0) → RC K H' F' q.1 v w → (io = true → ∃ c0 v0, q.2 = some c0 ∧ vs[0]? = some v0 ∧ RC K H' F' c0 v0 u0) → Q v H'
  | .exc c x => XP ⟨K, mg, fun c d _ H => E c d H, none⟩ [] B F c x
  | .bad => False)
structure FnG (P : Program) (w : World) (K : PySem.W.Frag) (mg : Str → Option Value) (base : Heap) (k : Nat) (f : Addr) (fd : FuncData) (ps : List Str) (sp : Sp) : Prop where
  len : ∀ vs H Q E, sp vs H Q E → vs.length = ps.length
  go : ∀ (A : Around) (outer : List PySem.Env) (s : Shared) (H : Hp) (args : Args) (us : List Value) (vs : List V) (Q : VK) (E : XK), Room k A → A.guards = some [] → Env0 P w K mg base A outer s H → BindsTo s fd args (ps.zip us) → Vals vs us → sp vs H Q E →
    codeAny (model P w) A (.call (.ref f) args) (CR (L2.CX P w) outer P w H s Q E) s
/-- how a call's keywords come to the parameters -/
def BindsK (K : PySem.W.Frag) (fd : FuncData) (ps : List Str) (ks : List Str) (perm : List Nat) : Prop :=
  ∀ (s : Shared) (ws : List Value), K.In s.heap → ws.length = ks.length → BindsTo s fd ⟨[], ks.zip ws⟩ (ps.zip (perms perm ws))
def FnAt (X : Cx) (k : Nat) (e : Ent) (r : List CT → Res (CT × Option CT)) : Prop := ∃ f fd, X.mg e.name = some (.ref f) ∧ PySem.W.keepIn X.K (.ref f) = true ∧ Binds X.K fd e.ps [] ∧ (∀ z ∈ e.kws, BindsK X.K fd e.ps z.1 z.2) ∧
  FnG X.prog X.w X.K X.mg X.base k f fd e.ps (spR X.K X.mg e.ps.length e.io r)
def bnames : List Str := ["len", "abs", "int", "all", "any", "sum", "max", "min", "repr", "list", "tuple", "range", "str", "bool", "isinstance", "enumerate", "zip", "sorted"]
structure Good (X : Cx) (E : WX) (k : Nat) (R : Rn) (G : List D) (C : CK) : Prop where
  calm : X.calm = true
  nd : X.N.Nodup
  room : Room k X.A
  gd : X.A.guards = some []
  tk : Takes X E
  bl : ∀ x ∈ bnames, X.mg x = none
  con : ∀ (i : Nat) (x : Str) (d : D), C.gs[i]? = some x → G[i]? = some d → ∃ u v, X.mg x = some u ∧ RelV v u ∧ ∀ F, RD X.K F d v
  err : ∀ c ∈ C.es, ErrF X.prog X.K X.mg c
  fn : ∀ (i : Nat) (e : Ent), C.fs[i]? = some e → FnAt X k e (R i)

/-! ### names by the scope -/
def visC (sc : Scope) (x : Str) : Bool := match sc.names.lookup x with
  | some .local => true
  | some .cell => true
  | some .free => true
  | _ => false
theorem visC_ok {sc : Scope} {x : Str} (h : visC sc x = true) : Vis sc x := by
  unfold visC at h
  unfold Vis
  split at h
  · rename_i e; exact .inl e
  · rename_i e; exact .inr (.inl e)
  · rename_i e; exact .inr (.inr e)
  · cases h
def locC (sc : Scope) (x : Str) : Bool := match sc.names.lookup x with
  | some .local => true
  | some .cell => true
  | _ => false
theorem locC_ok {sc : Scope} {x : Str} (h : locC sc x = true) : L2.Loc sc x := by
  unfold locC at h
  unfold L2.Loc
  split at h
  · rename_i e; exact .inl e
  · rename_i e; exact .inr e
  · cases h
def glC (sc : Scope) (x : Str) : Bool := match sc.names.lookup x with
  | some .globalImplicit => true
  | _ => false
theorem glC_ok {X : Cx} {x : Str} (h : glC X.env.scope x = true) : Gl X x := by
  unfold glC at h
  show X.env.scope.names.lookup x = _
  split at h
  · assumption
  · cases h
def plainName (x : Str) : Bool := !(x == ("__debug__" : Str)) && !(x == ("__classdict__" : Str))
theorem plainName_ok {x : Str} (h : plainName x = true) : (x == ("__debug__" : Str)) = false ∧ (x == ("__classdict__" : Str)) = false := by
  unfold plainName at h
  rw [Bool.and_eq_true] at h
  exact ⟨by simpa using h.1, by simpa using h.2⟩
def nameIs (sc : Scope) (N : List Str) (i : Nat) : Expr → Bool
  | .Name x _ => decide (N[i]? = some x) && (visC sc x && plainName x)
  | _ => false
theorem pe_nm {X : Cx} {i : Nat} {e : Expr} (h : nameIs X.env.scope X.N i e = true) : PE X e (tVar i) := by
  cases e <;> first | exact Bool.noConfusion h | skip
  rename_i x p
  have h : (decide (X.N[i]? = some x) && (visC X.env.scope x && plainName x)) = true := h
  rw [Bool.and_eq_true, Bool.and_eq_true] at h
  obtain ⟨h1, h2, h3⟩ := h
  obtain ⟨d1, d2⟩ := plainName_ok h3
  exact pe_var (of_decide_eq_true h1) (visC_ok h2) d1 d2

/-! ### targets -/
mutual
def chkG (io : Bool) (sc : Scope) (fnL : Str → Bool) (N : List Str) : Tgt → Expr → Bool
  | .nm i, .Name x _ => decide (N[i]? = some x) && (locC sc x && ((fnL x || decide (sc.names.lookup x = some .local)) && !(io && i == 0)))
  | .tp ts, .Tuple es _ _ => chkGs io sc fnL N ts es
  | _, _ => false
def chkGs (io : Bool) (sc : Scope) (fnL : Str → Bool) (N : List Str) : List Tgt → List Expr → Bool
  | [], [] => true
  | t :: ts, e :: es => chkG io sc fnL N t e && chkGs io sc fnL N ts es
  | _, _ => false
end
mutual
def Tgt.slots : Tgt → List Nat
  | .nm i => [i]
  | .tp ts => Tgt.slotss ts
def Tgt.slotss : List Tgt → List Nat
  | [] => []
  | t :: ts => t.slots ++ Tgt.slotss ts
end
def IOk (T : Fx) (σ : Sl) : Prop := ∀ v, T.p0 = some v → σ[0]? = some (some v)
/-- a value laid into a target: what stands behind -/
def tG (T : Fx) (t : Tgt) : TG := fun v σ H Q => ∃ env B F U c u env', SR T.K H F env σ U ∧ WR B F H (u ++ U) ∧ RC T.K H F c v u ∧ IOk T σ ∧ asgC t c env = some env' ∧ ∀ σ' U', SR T.K H F env' σ' U' → WR B F H U' → IOk T σ' → (σ'.length = σ.length ∧ ∀ j, j ∉ t.slots → σ'[j]? = σ[j]?) → Q σ' H
def tGs (T : Fx) (ts : List Tgt) : TGs := fun vs σ H Q => ∃ env B F U cs u env', SR T.K H F env σ U ∧ WR B F H (u ++ U) ∧ RCs T.K H F cs vs u ∧ IOk T σ ∧ asgCs ts cs env = some env' ∧ ∀ σ' U', SR T.K H F env' σ' U' → WR B F H U' → IOk T σ' → (σ'.length = σ.length ∧ ∀ j, j ∉ Tgt.slotss ts → σ'[j]? = σ[j]?) → Q σ' H
theorem _root_.L2.PG.imp {X : Cx} {e : Expr} {t t' : TG} (h : PG X e t) (i : ∀ v σ H Q, t' v σ H Q → t v σ H Q) : PG X e t' := ⟨fun pins s σ H v u Q I r q => h.run pins s σ H v u Q I r (i v σ H Q q)⟩
theorem _root_.L2.PGs.imp {X : Cx} {e : List Expr} {t t' : TGs} (h : PGs X e t) (i : ∀ v σ H Q, t' v σ H Q → t v σ H Q) : PGs X e t' := ⟨fun pins s σ H v u Q I r q => h.run pins s σ H v u Q I r (i v σ H Q q)⟩
theorem dTup_rcs {K : PySem.W.Frag} {H F : Hp} {xs : List D} {vs : List V} (r : RDs K F xs vs) : RCs K H F (xs.map .d) vs [] := r.cs
theorem asg_each {io : Bool} {sc : Scope} {fl : Str → Bool} {N : List Str} {env : PySem.Env} : ∀ {ts : List Tgt} {es : List Expr}, chkGs io sc fl N ts es = true → (assignEach es env).length = ts.length ∧ (assignEach es env).findIdx? (·.1) = none
  | [], [], _ => ⟨rfl, rfl⟩
  | [], _ :: _, h => by simp [chkGs] at h
  | _ :: _, [], h => by simp [chkGs] at h
  | t :: ts, e :: es, h => by
    rw [chkGs, Bool.and_eq_true] at h
    obtain ⟨h1, h2⟩ := asg_each (env := env) h.2
    have ns : assignEach (e :: es) env = (false, assign e env) :: assignEach es env := by
      cases e <;> first | rfl | (cases t <;> exact Bool.noConfusion h.1)
    rw [ns]
    refine ⟨by rw [List.length_cons, List.length_cons, h1], ?_⟩
    rw [List.findIdx?_cons, h2]
    rfl
theorem asg_cons {io : Bool} {sc : Scope} {fl : Str → Bool} {N : List Str} {env : PySem.Env} {t : Tgt} {e : Expr} (h : chkG io sc fl N t e = true) (es : List Expr) : (assignEach (e :: es) env).map (·.2) = assign e env :: (assignEach es env).map (·.2) := by
  cases e <;> first | rfl | (cases t <;> exact Bool.noConfusion h)
theorem set_io {T : Fx} {σ : Sl} {i : Nat} {v : V} {io : Bool} (hio : io = false → T.p0 = none) (hi : (!(io && i == 0)) = true) (h : IOk T σ) : IOk T (σ.set i (some v)) := fun v0 e => by
  cases io with
  | false => rw [hio rfl] at e; cases e
  | true =>
    have : i ≠ 0 := by rintro rfl; simp at hi
    rw [List.getElem?_set_ne this]
    exact h v0 e
mutual
theorem pg_tgt {X : Cx} {T : Fx} {io : Bool} (hc : X.calm = true) (hN : X.N.Nodup) (hK : T.K = X.K) (hio : io = false → T.p0 = none) : ∀ (t : Tgt) (e : Expr), chkG io X.env.scope X.fn X.N t e = true → PG X e (tG T t)
  | .nm i, .Name x p, h => by
    have h : (decide (X.N[i]? = some x) && (locC X.env.scope x && ((X.fn x || decide (X.env.scope.names.lookup x = some .local)) && !(io && i == 0)))) = true := by rw [chkG] at h; exact h
    rw [Bool.and_eq_true, Bool.and_eq_true, Bool.and_eq_true] at h
    obtain ⟨h1, h2, h3, h4⟩ := h
    refine (pg_name hN (of_decide_eq_true h1) (locC_ok h2) (by rw [Bool.or_eq_true] at h3; exact h3.imp id of_decide_eq_true)).imp fun v σ H Q q => ?_
    obtain ⟨env, B, F, U, c, u, env', s, w, r, o, ha, q⟩ := q
    rw [asgC] at ha
    split at ha
    · rename_i hl
      have e := Option.some.inj ha
      subst e
      obtain ⟨W, d1, d2, d3⟩ := s.drop i none
      obtain ⟨W', d1', d2', d3'⟩ := s.drop i (some v)
      obtain ⟨U', q1, q2⟩ := d3' H F c v u W' hl r d1'
      refine q _ _ q1 ((w.sub (List.Sublist.append_left d2' u)).perm q2.symm) (set_io hio h4 o) ⟨by simp, fun j hj => List.getElem?_set_ne fun e => hj ?_⟩
      rw [Tgt.slots, e]
      exact List.mem_singleton.mpr rfl
    · cases ha
  | .tp ts, .Tuple es k p, h => by
    rw [chkG] at h
    obtain ⟨n1, n2⟩ := asg_each (env := X.env) h
    refine (pg_tup (n := ts.length) hc (pgs_tgt hc hN hK hio ts es h) n1 n2).imp fun v σ H Q q => ?_
    obtain ⟨env, B, F, U, c, u, env', s, w, r, o, ha, q⟩ := q
    rw [asgC] at ha
    have ln : ∀ {ts : List Tgt} {cs : List CT} {e e' : Env}, asgCs ts cs e = some e' → cs.length = ts.length := by
      intro ts
      induction ts with
      | nil => intro cs e e' h; cases cs with
        | nil => rfl
        | cons _ _ => simp [asgCs] at h
      | cons t ts ih => intro cs e e' h; cases cs with
        | nil => simp [asgCs] at h
        | cons c cs =>
          rw [asgCs] at h
          cases e1 : asgC t c e with
          | none => rw [e1] at h; cases h
          | some z => rw [e1] at h; rw [List.length_cons, List.length_cons, ih h]
    have rl : ∀ {cs : List CT} {vs : List V} {u : List Addr}, RCs T.K H F cs vs u → vs.length = cs.length := fun r => r.rp.length.symm
    cases r with
    | d r =>
      cases r with
      | tup h1 h2 =>
        rename_i a vs ds
        have ha : asgCs ts (ds.map .d) env = some env' := ha
        refine ⟨a, vs, rfl, by rw [← hK]; exact Same.sqt w.f h1, ?_, env, B, F, U, ds.map .d, [], env', s, w, h2.cs, o, ha, fun σ' U' a1 a2 a3 a4 => q σ' U' a1 a2 a3 (by rw [Tgt.slots]; exact a4)⟩
        rw [rl (h2.cs (H := H)), ln ha]
      | _ => cases ha
    | l _ _ => cases ha
    | t h1 h2 =>
      rename_i a vs cs u2
      have ha : asgCs ts cs env = some env' := ha
      exact ⟨a, vs, rfl, SqT.of h1, by rw [rl h2, ln ha], env, B, F, U, cs, u2, env', s, w.sub (List.sublist_cons_self _ _), h2, o, ha, fun σ' U' a1 a2 a3 a4 => q σ' U' a1 a2 a3 (by rw [Tgt.slots]; exact a4)⟩
  | .nm _, .BoolOp .., h => by simp [chkG] at h
  | .nm _, .NamedExpr .., h => by simp [chkG] at h
  | .nm _, .BinOp .., h => by simp [chkG] at h
  | .nm _, .UnaryOp .., h => by simp [chkG] at h
  | .nm _, .Lambda .., h => by simp [chkG] at h
  | .nm _, .IfExp .., h => by simp [chkG] at h
  | .nm _, .Dict .., h => by simp [chkG] at h
  | .nm _, .Set .., h => by simp [chkG] at h
  | .nm _, .ListComp .., h => by simp [chkG] at h
  | .nm _, .SetComp .., h => by simp [chkG] at h
  | .nm _, .DictComp .., h => by simp [chkG] at h
  | .nm _, .GeneratorExp .., h => by simp [chkG] at h
  | .nm _, .Await .., h => by simp [chkG] at h
  | .nm _, .Yield .., h => by simp [chkG] at h
  | .nm _, .YieldFrom .., h => by simp [chkG] at h
  | .nm _, .Compare .., h => by simp [chkG] at h
  | .nm _, .Call .., h => by simp [chkG] at h
  | .nm _, .FormattedValue .., h => by simp [chkG] at h
  | .nm _, .JoinedStr .., h => by simp [chkG] at h
  | .nm _, .Constant .., h => by simp [chkG] at h
  | .nm _, .Attribute .., h => by simp [chkG] at h
  | .nm _, .Subscript .., h => by simp [chkG] at h
  | .nm _, .Starred .., h => by simp [chkG] at h
  | .nm _, .List .., h => by simp [chkG] at h
  | .nm _, .Tuple .., h => by simp [chkG] at h
  | .nm _, .Slice .., h => by simp [chkG] at h
  | .tp _, .BoolOp .., h => by simp [chkG] at h
  | .tp _, .NamedExpr .., h => by simp [chkG] at h
  | .tp _, .BinOp .., h => by simp [chkG] at h
  | .tp _, .UnaryOp .., h => by simp [chkG] at h
  | .tp _, .Lambda .., h => by simp [chkG] at h
  | .tp _, .IfExp .., h => by simp [chkG] at h
  | .tp _, .Dict .., h => by simp [chkG] at h
  | .tp _, .Set .., h => by simp [chkG] at h
  | .tp _, .ListComp .., h => by simp [chkG] at h
  | .tp _, .SetComp .., h => by simp [chkG] at h
  | .tp _, .DictComp .., h => by simp [chkG] at h
  | .tp _, .GeneratorExp .., h => by simp [chkG] at h
  | .tp _, .Await .., h => by simp [chkG] at h
  | .tp _, .Yield .., h => by simp [chkG] at h
  | .tp _, .YieldFrom .., h => by simp [chkG] at h
  | .tp _, .Compare .., h => by simp [chkG] at h
  | .tp _, .Call .., h => by simp [chkG] at h
  | .tp _, .FormattedValue .., h => by simp [chkG] at h
  | .tp _, .JoinedStr .., h => by simp [chkG] at h
  | .tp _, .Constant .., h => by simp [chkG] at h
  | .tp _, .Attribute .., h => by simp [chkG] at h
  | .tp _, .Subscript .., h => by simp [chkG] at h
  | .tp _, .Starred .., h => by simp [chkG] at h
  | .tp _, .List .., h => by simp [chkG] at h
  | .tp _, .Name .., h => by simp [chkG] at h
  | .tp _, .Slice .., h => by simp [chkG] at h
theorem pgs_tgt {X : Cx} {T : Fx} {io : Bool} (hc : X.calm = true) (hN : X.N.Nodup) (hK : T.K = X.K) (hio : io = false → T.p0 = none) : ∀ (t : List Tgt) (e : List Expr), chkGs io X.env.scope X.fn X.N t e = true → PGs X e (tGs T t)
  | [], [], _ => pgs_nil.imp fun vs σ H Q q => by
    obtain ⟨env, B, F, U, cs, u, env', s, w, r, o, ha, q⟩ := q
    cases cs with
    | nil =>
      cases r
      have e := Option.some.inj (show some env = some env' by rw [asgCs] at ha; exact ha)
      subst e
      exact ⟨rfl, q σ U s w.right o ⟨rfl, fun _ _ => rfl⟩⟩
    | cons c cs => simp [asgCs] at ha
  | t :: ts, e :: es, h => by
    rw [chkGs, Bool.and_eq_true] at h
    refine (pgs_cons (pg_tgt hc hN hK hio t e h.1) (pgs_tgt hc hN hK hio ts es h.2) (asg_cons h.1 es)).imp fun vs σ H Q q => ?_
    obtain ⟨env, B, F, U, cs, u, env', s, w, r, o, ha, q⟩ := q
    cases r with
    | nil => simp [asgCs] at ha
    | cons r1 r2 =>
      rename_i c v cs vs u1 u2
      rw [asgCs] at ha
      cases e1 : asgC t c env with
      | none => rw [e1] at ha; cases ha
      | some z =>
        rw [e1] at ha
        refine ⟨v, vs, rfl, env, lesser H (u1 ++ U), F, U, c, u1, z, s, ?_, r1, o, e1, fun σ' U' s' w' o' k' => ?_⟩
        · exact WR.lesser (B := B) (W := u2) (w.perm (by rw [← List.append_assoc]; exact List.Perm.append_right U List.perm_append_comm))
        · refine ⟨z, B, F, U', cs, u2, env', s', ?_, r2, o', ha, fun σ2 U2 a1 a2 a3 a4 => q σ2 U2 a1 a2 a3 ⟨a4.1.trans k'.1, fun j hj => ?_⟩⟩
          have w2 : WR B F H (u2 ++ (u1 ++ U)) := w.perm (by rw [← List.append_assoc]; exact List.Perm.append_right U List.perm_append_comm)
          exact (w2.keep Gr.refl w').1
          rw [Tgt.slotss, List.mem_append, not_or] at hj
          exact (a4.2 j hj.2).trans (k'.2 j hj.1)
  | [], _ :: _, h => by simp [chkGs] at h
  | _ :: _, [], h => by simp [chkGs] at h
end
end PV

/-! What loops walk. -/
namespace PV
open PySem PySem.Spec PyProof.Rows L2

/-- an iterator that yields these, while Y stands; the items are of F0 -/
structure Yld (K : PySem.W.Frag) (J : It) (Y F0 : Hp) (xs : List D) : Prop where
  go : ∀ (i : Nat) (H : Hp), Same Y H → i < xs.length → J.go i H
  stop : ∀ (H : Hp), Same Y H → J.stop xs.length H
  yld : ∀ (i : Nat) (H F : Hp) (x : V) (H' : Hp) (d : D), Same Y H → Same F0 F → Same F H → xs[i]? = some d → J.yld i H x H' → ∃ F', NewR K H F H' F' (.d d) x []
def tI (T : Fx) (q pur : Bool) (f : Env → Res (CT × Env)) : TI := fun σ H R => ∃ env B F U, SR T.K H F env σ U ∧ WR B F H U ∧ match f env with
  | .ok r => ∃ xs, r.1.lels = some xs ∧ ∀ J H' F' U', Gr B F F' → WR B F' H' U' → SR T.K H' F' r.2 σ U' → Yld T.K J (if q = true then H' else F') F' xs → (pur = true → Same H H') → R J H'
  | .exc c x => XP T σ B F c x
  | .bad => False
section
variable {X : Cx} {T : Fx} {p pur q : Bool} {B F H B1 F1 H1 : Hp} {σ : Sl} {Q : VK} {c : CT} {v : V} {u U : List Addr}
theorem dAll_map (xs : List D) : dAll (xs.map .d) = some xs := by
  induction xs with
  | nil => rfl
  | cons x r ih => rw [List.map_cons, dAll, ih]; rfl
theorem lels_map (xs : List D) : (CT.l (xs.map .d)).lels = some xs := dAll_map xs
theorem yld_list {K : PySem.W.Frag} {Y F0 : Hp} {a : Addr} {vs : List V} {xs : List D} (h : SqL K Y a vs) (r : RDs K F0 xs vs) : Yld K (Itl K a) Y F0 xs := by
  refine ⟨fun i H s hi => ?_, fun H s => ⟨vs, s.seq h, Nat.le_of_eq r.length.symm⟩, fun i H F x H' d s f0 f1 hd hy => ?_⟩
  · have hv : i < vs.length := by rw [← r.length]; exact hi
    exact ⟨vs, vs[i], s.seq h, by simp [hv]⟩
  · obtain ⟨e, hx⟩ := hy
    subst e
    obtain ⟨w, hw, rw'⟩ := r.get hd
    have := (hx vs (s.seq h)).symm.trans hw
    have e2 := Option.some.inj this
    subst e2
    exact ⟨F, .here f1 (rw'.mono f0)⟩
theorem yld_tup {K : PySem.W.Frag} {Y F0 : Hp} {a : Addr} {vs : List V} {xs : List D} (h : SqT K Y a vs) (r : RDs K F0 xs vs) : Yld K (Itt K a) Y F0 xs := by
  refine ⟨fun i H s hi => ?_, fun H s => ⟨vs, Same.sqt s h, Nat.le_of_eq r.length.symm⟩, fun i H F x H' d s f0 f1 hd hy => ?_⟩
  · have hv : i < vs.length := by rw [← r.length]; exact hi
    exact ⟨vs, vs[i], Same.sqt s h, by simp [hv]⟩
  · obtain ⟨e, hx⟩ := hy
    subst e
    obtain ⟨w, hw, rw'⟩ := r.get hd
    have := (hx vs (Same.sqt s h)).symm.trans hw
    have e2 := Option.some.inj this
    subst e2
    exact ⟨F, .here f1 (rw'.mono f0)⟩
theorem rngL_len (lo hi : Int) : (rngL lo hi).length = (hi - lo).toNat := by simp [rngL]
theorem rngL_get {lo hi : Int} {i : Nat} {d : D} (h : (rngL lo hi)[i]? = some d) : d = .int (lo + (i : Int)) := by
  unfold rngL at h
  rw [List.getElem?_map] at h
  by_cases hi' : i < (hi - lo).toNat
  · rw [List.getElem?_range hi'] at h
    exact (Option.some.inj h).symm
  · rw [List.getElem?_eq_none (by simpa using hi')] at h
    cases h
theorem yld_rng {K : PySem.W.Frag} {Y F0 : Hp} (lo hi : Int) : Yld K (Itr lo (hi - lo).toNat) Y F0 (rngL lo hi) := by
  refine ⟨fun i H s h => by rw [rngL_len] at h; exact h, fun H s => by rw [rngL_len]; exact Nat.le_refl _, fun i H F x H' d s f0 f1 hd hy => ?_⟩
  obtain ⟨e, hx⟩ := hy
  subst e
  subst hx
  rw [rngL_get hd]
  exact ⟨F, .here f1 (.int _)⟩
theorem enumD_get {xs : List D} {i : Nat} {d : D} (h : (enumD xs)[i]? = some d) : ∃ x, xs[i]? = some x ∧ d = .tup [.int (i : Nat), x] := by
  unfold enumD at h
  rw [List.getElem?_map, List.getElem?_zipIdx] at h
  cases e : xs[i]? with
  | none => rw [e] at h; cases h
  | some x =>
    rw [e] at h
    refine ⟨x, rfl, ?_⟩
    have := (Option.some.inj h).symm
    simpa using this
theorem enumD_len (xs : List D) : (enumD xs).length = xs.length := by simp [enumD]
theorem yld_enum {K : PySem.W.Frag} {Y F0 : Hp} {a : Addr} {vs : List V} {xs : List D} (h : SqL K Y a vs) (r : RDs K F0 xs vs) : Yld K (Ite K a) Y F0 (enumD xs) := by
  refine ⟨fun i H s hi => ?_, fun H s => ⟨vs, s.seq h, Nat.le_of_eq (by rw [enumD_len, r.length])⟩, fun i H F x H' d s f0 f1 hd hy => ?_⟩
  · have hv : i < vs.length := by rw [← r.length, ← enumD_len]; exact hi
    exact ⟨vs, vs[i], s.seq h, by simp [hv]⟩
  · obtain ⟨Ta, y, rfl, hn, rfl, hx⟩ := hy
    obtain ⟨z, hz, rfl⟩ := enumD_get hd
    obtain ⟨w, hw, rw'⟩ := r.get hz
    have := (hx vs (s.seq h)).symm.trans hw
    have e2 := Option.some.inj this
    subst e2
    exact ⟨_, .tup f1 hn (.cons (.int _) (.cons (rw'.mono f0) .nil))⟩
theorem _root_.L2.PI.imp {tg e : Expr} {t t' : TI} (h : PI X tg e t) (i : ∀ σ H Q, t' σ H Q → t σ H Q) : PI X tg e t' := ⟨fun pins s σ H Q I q => h.run pins s σ H Q I (i σ H Q q)⟩
/-- a range object that a name holds -/
theorem pi_rngv {tg e : Expr} {te : TE} (he : PE X e te) : PI X tg e (fun σ H R => te σ H fun x H1 => ∃ a lo hi, x = .ref a ∧ H1 a = some (.rng lo hi) ∧ smallR lo ∧ smallR hi ∧ R (Itr lo (hi - lo).toNat) H1) := by
  refine ⟨fun pins s σ H R I h => ?_⟩
  refine thn (he.run pins s σ H _ I h) fun v s1 ⟨x, H1, I1, r1, q1⟩ => ?_
  obtain ⟨a, lo, hi, rfl, ha, ⟨l1, l2⟩, ⟨l3, l4⟩, q⟩ := q1
  cases r1
  obtain ⟨t, tu, tv, ho⟩ := I1.hok a _ ha
  refine wpAny_pyIter_range (show IsRange s1.heap a lo hi 1 t tu tv from ho) (PySem.small_one l1 l2 l3 l4) ?_
  refine ⟨s1.heap.objs.size, [s1.heap.objs.size], _, _, H1, rfl, I1.kept (t' := s1.toks) fun b o e => Heap.get?_push_of_some _ e, turn_range _ lo (hi - lo).toNat, ?_, fun b hb => ?_, q⟩
  · have z1 : lo + ((0 : Nat) : Int) * 1 = lo := by simp
    have z2 : (((hi - lo).toNat : Nat) : Int) - ((0 : Nat) : Int) = Builtin.Range.rangeSize lo hi 1 := by
      rw [PySem.rangeSize_one]
      split <;> omega
    show IsRangeIter _ _ (lo + ((0 : Nat) : Int) * 1) ((((hi - lo).toNat : Nat) : Int) - ((0 : Nat) : Int)) 1
    rw [z1, z2]
    exact Heap.get?_push_size _ rfl
  · have z : b = s1.heap.objs.size := by simpa using hb
    subst z
    exact I1.fpOk (Nat.le_refl _) (I1.hok.fresh (Nat.le_refl _))
/-- an evaluated source, its value at hand -/
theorem tI.open {f f1 : Env → Res (CT × Env)} {g : CT → Option (List D)} {env : Env} (hf : ∀ e, f e = (f1 e).bd fun r => match g r.1 with
      | some xs => .ok (.l (xs.map .d), r.2)
      | none => .bad) (hq : q = true → pur = true) {R : It → Hp → Prop} (s : SR T.K H F env σ U) (w : WR B F H U)
    (h : match f env with
      | .ok r => ∃ xs, r.1.lels = some xs ∧ ∀ J H' F' U', Gr B F F' → WR B F' H' U' → SR T.K H' F' r.2 σ U' → Yld T.K J (if q = true then H' else F') F' xs → (pur = true → Same H H') → R J H'
      | .exc c x => XP T σ B F c x
      | .bad => False) :
    tE T q pur f1 σ H fun v1 H1 => ∃ c1 env1 xs F1, f1 env = .ok (c1, env1) ∧ g c1 = some xs ∧ Same F1 (if q = true then H1 else F1) ∧ Same (if q = true then H1 else F1) H1 ∧ Same F1 H1 ∧
      (∀ a vs, c1.lels = some xs → v1 = .ref a → H1 a = some (.lst vs) → (if q = true then H1 else F1) a = some (.lst vs)) ∧ RP T.K H1 F1 (if q = true then c1 else .d c1.frz) v1 ∧ (∀ J, Yld T.K J (if q = true then H1 else F1) F1 xs → R J H1) := by
  refine ⟨env, B, F, U, s, w, ?_⟩
  rw [hf] at h
  cases e : f1 env with
  | ok r =>
    rw [e] at h
    intro v1 H1 F1 U1 u1 g1 w1 s1 r1 k1
    have h : match (match g r.1 with
        | some xs => (.ok (.l (xs.map .d), r.2) : Res (CT × Env))
        | none => .bad) with
      | .ok r => ∃ xs, r.1.lels = some xs ∧ ∀ J H' F' U', Gr B F F' → WR B F' H' U' → SR T.K H' F' r.2 σ U' → Yld T.K J (if q = true then H' else F') F' xs → (pur = true → Same H H') → R J H'
      | .exc c x => XP T σ B F c x
      | .bad => False := h
    cases hg : g r.1 with
    | none => rw [hg] at h; exact h.elim
    | some xs =>
      rw [hg] at h
      obtain ⟨xs', hx, h⟩ := h
      have ex : xs = xs' := Option.some.inj ((lels_map xs).symm.trans hx)
      subst ex
      cases q with
      | true =>
        refine ⟨r.1, r.2, xs, F1, rfl, hg, w1.f, Same.refl _, w1.f, fun a vs _ _ ha => ha, r1.rp, fun J y => h J H1 F1 U1 g1 w1.right s1 y k1⟩
      | false =>
        obtain ⟨w2, g2⟩ := w1.grown
        have fr := RC.freeze w1 r1.cc
        refine ⟨r.1, r.2, xs, grown F1 H1 u1, rfl, hg, Same.refl _, w2.f, w2.f, fun a vs hl ha hv => ?_, .d fr, fun J y => h J H1 (grown F1 H1 u1) U1 (g1.trans g2) w2 (SR.mono g2.s s1 fun _ _ => rfl) y k1⟩
        subst ha
        generalize r.1 = c1 at *
        have rd := fr
        cases c1 with
        | d d =>
          cases d with
          | lst ys =>
            rw [CT.frz] at rd
            cases rd with
            | lst h1 h2 =>
              have := (w2.f _ _ h1).symm.trans hv
              show grown F1 H1 u1 a = _
              rw [h1, Option.some.inj this]
          | _ => cases hl
        | l cs =>
          rw [CT.frz] at rd
          cases rd with
          | lst h1 h2 =>
            have := (w2.f _ _ h1).symm.trans hv
            show grown F1 H1 u1 a = _
            rw [h1, Option.some.inj this]
        | t cs => cases hl
  | exc c x => rw [e] at h; exact h
  | bad => rw [e] at h; exact h
end
end PV

/-! The text against the evaluator's: a check by computation. -/
namespace PV
open PySem PySem.Spec PyProof.Rows L2

def notStar : Expr → Bool
  | .Starred _ _ => false
  | _ => true
def litC : D → Expr → Bool
  | .non, .Constant .none _ _ => true
  | .bl b, .Constant (.bool c) _ _ => b == c
  | .int i, .Constant (.int j) _ _ => decide (i = j)
  | .str s, .Constant (.str z) _ _ => decide (s = z)
  | _, _ => false
def glbC (sc : Scope) (gs : List Str) (k : Nat) : Expr → Bool
  | .Name x _ => decide (gs[k]? = some x) && (glC sc x && plainName x)
  | _ => false
def blt1 (sc : Scope) (n : Str) : Expr → Bool
  | .Name x _ => decide (x = n) && (glC sc x && decide (n ∈ bnames))
  | _ => false
def BI.nm : BI → String
  | .len => "len" | .abs => "abs" | .int => "int" | .all => "all" | .any => "any" | .sum => "sum" | .max => "max" | .min => "min" | .repr => "repr" | .list => "list" | .tuple => "tuple" | .range => "range" | .str => "str" | .blen => "bit_length"
def BI.isTy : BI → Bool
  | .int => true | .list => true | .range => true | _ => false
def BI.isFn : BI → Bool
  | .len => true | .abs => true | .all => true | .any => true | .sum => true | .max => true | .repr => true | _ => false
def tyC (sc : Scope) (t : TyN) : Expr → Bool
  | .Name x _ => decide (x = (t.nm : String)) && glC sc x
  | _ => false
def tysC (sc : Scope) : List TyN → List Expr → Bool
  | [], [] => true
  | t :: ts, e :: es => tyC sc t e && tysC sc ts es
  | _, _ => false
def tyArg (sc : Scope) (ts : List TyN) : Expr → Bool
  | .Tuple es _ _ => tysC sc ts es && decide (1 < ts.length ∧ ts.length < 10)
  | e => match ts with
    | [t] => tyC sc t e
    | _ => false
def isSlice : Expr → Bool
  | .Slice .. => true
  | _ => false
def isSet : Expr → Bool
  | .Set .. => true
  | _ => false
def fnC (C : CK) (sc : Scope) (f : Nat) (n : Nat) (io : Bool) : Expr → Bool
  | .Name x _ => (match C.fs[f]? with
    | some e => decide (e.name = x) && (decide (e.ps.length = n) && (e.io == io))
    | none => false) && (glC sc x && plainName x)
  | _ => false
def fnKC (C : CK) (sc : Scope) (f : Nat) (ks : List Str) (perm : List Nat) : Expr → Bool
  | .Name x _ => (match C.fs[f]? with
    | some e => decide (e.name = x) && (decide ((ks, perm) ∈ e.kws) && (decide (perm.length = e.ps.length) && (decide (perm.all (fun i => decide (i < ks.length)) = true) && (e.io == false))))
    | none => false) && (glC sc x && plainName x)
  | _ => false
def okB (o : Option Operator) (p : Operator) : Bool := decide (o = some p)
def okC (o : Option CmpOp) (p : CmpOp) : Bool := decide (o = some p)
def okCs : List O2 → List CmpOp → Bool
  | [], [] => true
  | o :: os, p :: ps => okC o.cmp p && okCs os ps
  | _, _ => false
def isBlock (own : List (Str × Nat)) (N : List Str) (sc scope : Scope) : Bool := blkC N sc scope own
def nonLit : ME → Bool
  | .lit .non => true
  | _ => false
mutual
/-- a test's form -/
def tstC : ME → Expr → Bool
  | .fr _, _ => false
  | .not a, .UnaryOp _ x _ => tstC a x
  | .and es, .BoolOp _ xs _ => tstCs es xs
  | .or es, .BoolOp _ xs _ => tstCs es xs
  | _, .IfExp _ _ _ _ => false
  | _, _ => true
def tstCs : List ME → List Expr → Bool
  | e :: es, x :: xs => tstC e x && tstCs es xs
  | _, _ => true
end
mutual
def chkE (C : CK) (N : List Str) : ME → Scope → Expr → Bool
  | .bad, _, _ => true
  | .lit d, _, e => litC d e
  | .glob k, sc, e => glbC sc C.gs k e
  | .var i, sc, e => nameIs sc N i e
  | .take i, sc, e => nameIs sc N i e
  | .fr a, sc, e => chkE C N a sc e
  | .tup es, sc, .Tuple xs _ _ => chkEs C N es sc xs && decide (xs.length ≤ 1000)
  | .lst es, sc, .List xs _ => chkEs C N es sc xs && decide (xs.length ≤ 1000)
  | .op o a b, sc, .BinOp l p r _ => okB o.bin p && (chkE C N a sc l && chkE C N b sc r)
  | .op o a b, sc, .Compare l [p] [r] _ => okC o.cmp p && (!(behindInMarks p r) && (chkE C N a sc l && chkE C N b sc r))
  | .neg a, sc, .UnaryOp .USub x _ => chkE C N a sc x
  | .not a, sc, .UnaryOp .Not x _ => chkE C N a sc x
  | .and es, sc, .BoolOp .And xs _ => chkEs C N es sc xs
  | .or es, sc, .BoolOp .Or xs _ => chkEs C N es sc xs
  | .chain a os es, sc, .Compare l ps rs _ => okCs os ps && (decide (2 ≤ ps.length) && (decide (ps.length = rs.length) && (!(lastMarks ps rs) && (chkE C N a sc l && chkEs C N es sc rs))))
  | .ife c a b, sc, .IfExp t x y _ => (tstC c t && chkE C N c sc t) && (chkE C N a sc x && chkE C N b sc y)
  | .attr all a, sc, .Attribute (.Name o op) n _ => decide (n = ("value" : Str)) && (decide (∀ c ∈ all, c ∈ C.es) && chkE C N a sc (.Name o op))
  | .idx a i, sc, .Subscript x y _ => !(isSlice y) && (chkE C N a sc x && chkE C N i sc y)
  | .slc a lo hi, sc, .Subscript x (.Slice l h none _) _ => chkE C N a sc x && ((match l with | some y => !(nonLit lo) && chkE C N lo sc y | none => nonLit lo) && (match h with | some y => !(nonLit hi) && chkE C N hi sc y | none => nonLit hi))
  | .isi a ts, sc, .Call f [x, t] [] _ => blt1 sc "isinstance" f && (notStar x && (chkE C N a sc x && tyArg sc ts t))
  | .call _ f es, sc, .Call g (x :: xs) [] _ => fnC C sc f es.length false g && chkEs C N es sc (x :: xs)
  | .callIO f i es, sc, .Call g (x :: xs) [] _ => fnC C sc f (es.length + 1) true g && (nameIs sc N i x && chkEs C N es sc xs)
  | .callK f perm ks es, sc, .Call g [] kws _ => fnKC C sc f ks perm g && (chkEs C N es sc (kws.map (·.value)) && decide (kws.map (·.arg) = ks.map some))
  | .bi b es, sc, .Call (.Name n p) (x :: xs) [] _ => (b.isTy || b.isFn) && (blt1 sc b.nm (.Name n p) && chkEs C N es sc (x :: xs))
  | .bi b es, sc, .Call (.Attribute (.Name o op) n ap) [] [] cp => decide (n = ("bit_length" : Str)) && (decide (b = .blen) && ((ap.endLine == cp.line) && chkEs C N es sc [.Name o op]))
  | .lc own elt t src cs, sc, .ListComp el [⟨tg, it, ifs, as⟩] scope _ => decide (as = 0) && (!(isSet it) && (isBlock own N sc scope && (chkS C N src sc tg it && (chkG false (relS scope sc) (fun x => scope.names.lookup x == some .cell) N t tg && (chkEs C N cs (relS scope sc) ifs && (tstCs cs ifs && (decide (ifs.length < 2) && (chkE C N elt (relS scope sc) el && (decide (own.map (·.2)).Nodup && decide (∀ i ∈ t.slots, i ∈ own.map (·.2)))))))))))
  | .lc2 own own1 elt t src t2 src2 cs, sc, .ListComp el [⟨tg, it, [], as⟩, ⟨tg1, it1, ifs, as1⟩] scope _ => decide (as = 0 ∧ as1 = 0) && (!(isSet it) && (!(isSet it1) && (isBlock own N sc scope && (chkS C N src sc tg it && (chkG false (relS scope sc) (fun x => scope.names.lookup x == some .cell) N t tg && (chkS C N src2 (relS scope sc) tg1 it1 && (chkG false (relS scope sc) (fun x => scope.names.lookup x == some .cell) N t2 tg1 && (chkEs C N cs (relS scope sc) ifs && (tstCs cs ifs && (decide (ifs.length < 2) && (chkE C N elt (relS scope sc) el && (decide (own.map (·.2)).Nodup && (decide (∀ i ∈ t.slots, i ∈ own.map (·.2)) && (decide (∀ i ∈ t2.slots, i ∈ own1.map (·.2)) && decide (∀ i ∈ own1.map (·.2), i ∈ own.map (·.2))))))))))))))))
  | _, _, _ => false
termination_by structural x => x
def chkEs (C : CK) (N : List Str) : List ME → Scope → List Expr → Bool
  | [], _, [] => true
  | e :: es, sc, x :: xs => notStar x && (chkE C N e sc x && chkEs C N es sc xs)
  | _, _, _ => false
termination_by structural x => x
def chkS (C : CK) (N : List Str) : ME → Scope → Expr → Expr → Bool
  | .sq a, sc, _, e => chkE C N a sc e
  | .rg es, sc, _, .Call f xs [] _ => blt1 sc "range" f && (chkEs C N es sc xs && decide (xs.length = 1 ∨ xs.length = 2))
  | .zp es, sc, .Tuple _ _ _, .Call f [x, y] [⟨some nm, .Constant (.bool true) _ _, _⟩] _ => decide (nm = ("strict" : Str)) && (blt1 sc "zip" f && chkEs C N es sc [x, y])
  | .en a, sc, .Tuple _ _ _, .Call f [x] [] _ => blt1 sc "enumerate" f && (notStar x && chkE C N a sc x)
  | _, _, _, _ => false
termination_by structural x => x
end
end PV

/-! Each construct keeps what the evaluator says. -/
namespace PV
open PySem PySem.Spec PyProof.Rows L2

section
variable {X : Cx} {E : WX} {k : Nat} {R : Rn} {G : List D} {C : CK} {p0 : Option V}
/-- the reading that the evaluator gives in a context -/
abbrev rd (X : Cx) (E : WX) (p0 : Option V) : Fx := ⟨X.K, X.mg, E, p0⟩
theorem Good.hu (g : Good X E k R G C) : X.A.units + 80 < cLine := by have := g.room.un; omega
theorem Good.pass (g : Good X E k R G C) (σ : Sl) : PassesAt (L2.CX X.prog X.w) X σ (WE E σ) := passAt g.tk σ

/-! ### arguments, calls -/
theorem star_cons {env : PySem.Env} {e : Expr} (h : notStar e = true) (es : List Expr) : starEach (e :: es) env = (false, eval e env) :: starEach es env := by
  cases e <;> first | rfl | exact Bool.noConfusion h
theorem star_plain {env : PySem.Env} {pos : Pos} : ∀ {es : List Expr}, (es.all notStar) = true → (backTo pos (starEach es env)).any (·.1) = false
  | [], _ => rfl
  | e :: es, h => by
    rw [List.all_cons, Bool.and_eq_true] at h
    rw [star_cons h.1]
    show (false || (backTo pos (starEach es env)).any (·.1)) = false
    rw [star_plain h.2]
    rfl
theorem chkEs_star {N : List Str} {sc : Scope} : ∀ {ms : List ME} {es : List Expr}, chkEs C N ms sc es = true → (es.all notStar) = true
  | [], [], _ => rfl
  | [], _ :: _, h => by simp [chkEs] at h
  | _ :: _, [], h => by simp [chkEs] at h
  | m :: ms, e :: es, h => by
    rw [chkEs, Bool.and_eq_true, Bool.and_eq_true] at h
    rw [List.all_cons, Bool.and_eq_true]
    exact ⟨h.1, chkEs_star h.2.2⟩
theorem run_g {pins : List (Addr × Obj)} {σ : Sl} {H : Hp} {s : Shared} {Q : VK} {us zs : List Value} {vs : List V} {f : Addr} {fd : FuncData} {ps ks : List Str} {sp : Sp} {ws : List Value} (g : Good X E k R G C)
    (F : FnG X.prog X.w X.K X.mg X.base k f fd ps sp) (hb : BindsTo s fd ⟨us, ks.zip ws⟩ (ps.zip zs)) (I : L2.Inv X pins σ H s) (r : Vals vs zs) (h : sp vs H Q (WE E σ)) :
    wpAny (model X.prog X.w) X.A (call (.ref f) us (ks.zip ws)) (EP X pins σ Q) X.xe s := by
  refine wpAny_call (codeAny_mono (F.go X.A X.stack s H _ zs vs Q (WE E σ) g.room g.gd I.env0 hb r h) fun r s' hq => ?_)
  cases r with
  | error e => exact g.pass σ pins H s e s' I hq
  | ok fl =>
    cases fl with
    | ret u => exact I.after hq
    | next => exact False.elim hq
    | brk => exact False.elim hq
    | cont => exact False.elim hq
/-- f(e, ..) -/
theorem pe_callG {f : Addr} {fd : FuncData} {ps : List Str} {sp : Sp} {x : Str} {p pos : Pos} {e : Expr} {es : List Expr} {t : TA} (g : Good X E k R G C) (F : FnG X.prog X.w X.K X.mg X.base k f fd ps sp) (hg : Gl X x) (hm : X.mg x = some (.ref f)) (hk : PySem.W.keepIn X.K (.ref f) = true) (hb : Binds X.K fd ps [])
    (hd : (x == ("__debug__" : Str)) = false) (ha : PA X (e :: es) t) (hs : ((e :: es).all notStar) = true) : PE X (.Call (.Name x p) (e :: es) [] pos) (fun σ H Q => t σ H fun vs H1 => sp vs H1 Q (WE E σ)) := by
  refine ⟨fun pins s σ H Q I h => ?_⟩
  rw [List.all_cons, Bool.and_eq_true] at hs
  refine wpAny_Call_Name_kw (ld_glob I hg hm ?_ hd)
  refine PySem.W.callWith_K (h₀ := X.base) I.ok.mod.kin hk (thn (ha.run pos pins s σ H _ I h) fun us s1 ⟨vs, H1, I1, r, q⟩ => ⟨I1.kIn, ?_⟩) (star_cons hs.1 es) (star_plain hs.2)
  have hl := F.len _ _ _ _ q
  have b := hb s1 us I1.kIn (by rw [List.append_nil, ← hl, ← r.length])
  rw [List.append_nil] at b
  exact run_g (ks := []) (ws := []) g F b I1 r q
theorem RCs.dfrz {K : PySem.W.Frag} {H F F' : Hp} : ∀ {cs : List CT} {vs : List V}, RDs K F (CT.frzs cs) vs → RCs K H F (cs.map fun c => .d c.frz) vs []
  | [], _, .nil => .nil
  | c :: cs, _, .cons h r => RCs.cons (u := []) (w := []) (.d h) (RCs.dfrz (F' := F') r)
/-- a def that changes none of its arguments -/
theorem sp_plain {T : Fx} {p pur : Bool} {B F H : Hp} {σ : Sl} {Q : VK} {env : Env} {U : List Addr} {cs : List CT} {vs : List V} {n : Nat} {r : List CT → Res (CT × Option CT)} (s : SR T.K H F env σ U) (w : WR B F H U) (rs : RCs T.K H F cs vs []) (hn : vs.length = n)
    (h : Cont T p pur B F H σ ((r cs).bd fun q => .ok (q.1, env)) Q) : spR T.K T.mg n false r vs H Q (WE T.E σ) := by
  refine ⟨hn, H, F, cs, [], rs, ⟨w.f, Same.refl _, List.nodup_nil, fun _ m => by cases m⟩, ?_⟩
  cases e : r cs with
  | ok q =>
    rw [e] at h
    intro v H' F' w' u0 g' wr rc _
    have eq : ∀ a ∈ U, H' a = H a := fun a m => by
      cases z : H a with
      | none => exact absurd z (w.own a m).2.2
      | some o => exact wr.b a o z
    have gb : Gr B F F' := g'.sub w.b
    have wn : WR B F' H' (w' ++ U) := by
      refine ⟨wr.f, w.b.trans wr.b, List.nodup_append.mpr ⟨wr.left.nd, w.nd, fun a m b z e => ?_⟩, fun a m => ?_⟩
      · subst e
        have := (wr.left.own a m).2.1
        exact (w.own a z).2.2 this
      · rcases List.mem_append.mp m with m | m
        · have z := wr.left.own a m
          refine ⟨z.1, ?_, z.2.2⟩
          cases y : B a with
          | none => rfl
          | some o => rw [w.b a o y] at z; cases z.2.1
        · have z := w.own a m
          exact ⟨g'.none z.1 z.2.2, z.2.1, by rw [eq a m]; exact z.2.2⟩
    obtain ⟨u', r', w''⟩ := RV.mk (T := T) (p := p) wn rc
    exact h v H' F' U u' gb w'' (SR.mono g'.s s eq) r' fun _ => wr.b
  | exc c x =>
    rw [e] at h
    exact fun H' F' C d v h1 h2 h0 h3 h4 h5 h6 => h H' F' C d v h1 h2 (w.b.free h0) h3 (h4.sub w.b) h5 (w.b.trans h6)
  | bad => rw [e] at h; exact h
end
end PV

/-! Displays, calls, subscripts, built-ins: each from its parts. -/
namespace PV
open PySem PySem.Spec PyProof.Rows L2
theorem _root_.L2.PA.imp {X : Cx} {e : List Expr} {t t' : TA} (h : PA X e t) (i : ∀ σ H Q, t' σ H Q → t σ H Q) : PA X e t' := ⟨fun pos pins s σ H Q I q => h.run pos pins s σ H Q I (i σ H Q q)⟩
section
variable {X : Cx} {E : WX} {k : Nat} {R : Rn} {G : List D} {C : CK} {p0 : Option V} {T : Fx} {p pur q : Bool} {B F H B1 F1 H1 : Hp} {σ : Sl} {Q : VK} {c : CT} {v : V} {u U : List Addr}
theorem RCs.dAll {K : PySem.W.Frag} : ∀ {cs : List CT} {vs : List V} {u : List Addr} {ds : List D}, RCs K H F cs vs u → dAll cs = some ds → u = [] ∧ RDs K F ds vs
  | [], _, _, ds, .nil, h => by
    have e : [] = ds := Option.some.inj h
    subst e
    exact ⟨rfl, .nil⟩
  | .d x :: r, _, _, ds, .cons a b, h => by
    rw [PV.dAll] at h
    cases e : PV.dAll r with
    | none => rw [e] at h; cases h
    | some ys =>
      rw [e] at h
      have e2 : x :: ys = ds := Option.some.inj h
      subst e2
      cases a with
      | d a =>
        obtain ⟨e3, h3⟩ := RCs.dAll b e
        subst e3
        exact ⟨rfl, .cons a h3⟩
  | .l _ :: r, _, _, ds, _, h => by cases h
  | .t _ :: r, _, _, ds, _, h => by cases h
theorem evs_len (p : Bool) : ∀ {es : List ME} {env : Env} {r : List CT × Env}, evs R G p es env = .ok r → r.1.length = es.length
  | [], env, r, h => by rw [evs] at h; have e := Res.ok.inj h; subst e; rfl
  | e :: es, env, r, h => by
    rw [evs] at h
    cases e1 : ev R G p e env with
    | ok a =>
      rw [e1] at h
      have h : ((evs R G p es a.2).bd fun q => .ok (a.1 :: q.1, q.2)) = .ok r := h
      cases e2 : evs R G p es a.2 with
      | ok b =>
        rw [e2] at h
        have e3 := Res.ok.inj h
        subst e3
        show (a.1 :: b.1).length = _
        rw [List.length_cons, List.length_cons, evs_len p e2]
      | exc c x => rw [e2] at h; cases h
      | bad => rw [e2] at h; cases h
    | exc c x => rw [e1] at h; cases h
    | bad => rw [e1] at h; cases h
theorem size_le {n : Nat} (h : n ≤ 1000) : n ≤ sizeLine := by
  have : (1000 : Nat) ≤ sizeLine := by decide
  omega
/-- (a, b, ..) -/
theorem snd_tup {es : List ME} {xs : List Expr} {k1 : Nat} {pos : Pos} (ha : PA X xs (tEs T p (ME.pus es) (evs R G p es))) (hK : T.K = X.K) (hl : xs.length ≤ 1000) (hx : xs.length = es.length) : PE X (.Tuple xs k1 pos) (tE T p (ME.pus es) (ev R G p (.tup es))) := by
  refine (pe_tup ha).imp fun σ H Q h => ?_
  obtain ⟨env, B, F, U, s, w, h⟩ := h
  rw [ev] at h
  refine ⟨env, B, F, U, s, w, ?_⟩
  cases e : evs R G p es env with
  | ok r =>
    rw [e] at h
    have ln := evs_len p e
    intro vs H1 F1 U1 u1 g1 w1 s1 r1 k1
    have lv : vs.length = es.length := by rw [← r1.rp.length, ln]
    refine ⟨size_le (by omega), fun a na => ?_⟩
    have sm : Same H1 (upd H1 a (.tup vs)) := new_same na
    have h : Cont T p (ME.pus es) B F H σ (.ok (mkT r.1, r.2)) Q := h
    cases hd : dAll r.1 with
    | some ds =>
      have hm : mkT r.1 = .d (.tup ds) := by unfold mkT; rw [hd]
      rw [hm] at h
      have rs : RDs T.K F1 ds vs := dAll_rp r1.rp hd
      have n := NewR.tup w1.f na rs
      have w1' : WR B F1 H1 U1 := w1.right
      obtain ⟨w2, g2, eq⟩ := w1'.newR n
      obtain ⟨u', r', w3⟩ := RV.mk (T := T) (p := p) w2 n.rc
      exact h _ _ _ U1 u' (g1.trans g2) w3 (SR.mono n.gr.s s1 eq) r' fun e => (k1 e).trans sm
    | none =>
      have hm : mkT r.1 = .t r.1 := by unfold mkT; rw [hd]
      rw [hm] at h
      have w2 := w1.new (o := .tup vs) na
      have eq := new_eq (o := .tup vs) w1 na
      refine h (.ref a) _ F1 U1 (if p = true then [] else a :: u1) g1 ?_ (SR.mono (Same.refl _) s1 fun b m => eq b (List.mem_append_right _ m)) ?_ fun e => (k1 e).trans sm
      · cases p with
        | true => exact w2.sub (((List.sublist_append_right u1 U1)).trans (List.sublist_cons_self _ _))
        | false => exact w2
      · cases p with
        | true => exact RV.mkP (.t upd_same (RPs.mono (Same.refl _) sm r1.rp))
        | false => exact RV.mkC (.t upd_same (RCs.mono (Same.refl _) r1.cc fun b m => eq b (List.mem_append_left _ m)))
  | exc c x => rw [e] at h; exact h
  | bad => rw [e] at h; exact h
/-- [a, b, ..] -/
theorem snd_lst {es : List ME} {xs : List Expr} {pos : Pos} (ha : PA X xs (tEs T p (ME.pus es) (evs R G p es))) (hl : xs.length ≤ 1000) (hx : xs.length = es.length) : PE X (.List xs pos) (tE T p (ME.pus es) (ev R G p (.lst es))) := by
  refine (pe_lst ha).imp fun σ H Q h => ?_
  obtain ⟨env, B, F, U, s, w, h⟩ := h
  rw [ev] at h
  refine ⟨env, B, F, U, s, w, ?_⟩
  cases e : evs R G p es env with
  | ok r =>
    rw [e] at h
    have ln := evs_len p e
    intro vs H1 F1 U1 u1 g1 w1 s1 r1 k1
    have lv : vs.length = es.length := by rw [← r1.rp.length, ln]
    refine ⟨size_le (by omega), fun a na => ?_⟩
    have sm : Same H1 (upd H1 a (.lst vs)) := new_same na
    have h : Cont T p (ME.pus es) B F H σ (.ok (.l r.1, r.2)) Q := h
    have w2 := w1.new (o := .lst vs) na
    have eq := new_eq (o := .lst vs) w1 na
    refine h (.ref a) _ F1 U1 (if p = true then [] else a :: u1) g1 ?_ (SR.mono (Same.refl _) s1 fun b m => eq b (List.mem_append_right _ m)) ?_ fun e => (k1 e).trans sm
    · cases p with
      | true => exact w2.sub (((List.sublist_append_right u1 U1)).trans (List.sublist_cons_self _ _))
      | false => exact w2
    · cases p with
      | true => exact RV.mkP (.l upd_same (RPs.mono (Same.refl _) sm r1.rp))
      | false => exact RV.mkC (.l upd_same (RCs.mono (Same.refl _) r1.cc fun b m => eq b (List.mem_append_left _ m)))
  | exc c x => rw [e] at h; exact h
  | bad => rw [e] at h; exact h
/-- several operands, a new value -/
theorem tE.many {g : List CT → Option CT} {f : Env → Res (CT × Env)} {f1 : Env → Res (List CT × Env)} {pu1 : Bool} (hf : ∀ e, f e = (f1 e).bd fun r => (Res.of (g r.1)).bd fun c => .ok (c, r.2)) (h1 : pur = true → pu1 = true) (h : tE T p pur f σ H Q) :
    tEs T q pu1 f1 σ H fun vs H1 => ∃ F cs c, Same F H1 ∧ RPs T.K H1 F cs vs ∧ g cs = some c ∧ ∀ v H' F' u, NewR T.K H1 F H' F' c v u → Q v H' := by
  obtain ⟨env, B, F, U, s, w, h⟩ := h
  rw [hf] at h
  obtain ⟨env', B', F', U', s', w', h'⟩ := seqS (q := q) s w h h1
  refine ⟨env', B', F', U', s', w', ?_⟩
  revert h'
  cases e : f1 env' with
  | ok r =>
    intro h' v1 H1 Fa Ua ua ga wa sa ra ka
    obtain ⟨c1, env1, B1, F1, U1, s1, w1, k1, rp, fe, _, _⟩ := h' v1 H1 Fa Ua ua ga wa sa ra ka
    cases ho : g c1 with
    | none => rw [show g (c1, env1).1 = none from ho] at k1; exact k1.elim
    | some c =>
      rw [show g (c1, env1).1 = some c from ho] at k1
      exact ⟨F1, c1, c, w1.f, rp, ho, fun v H' F' u n => fin s1 w1 k1 n⟩
  | exc c x => intro h; exact h
  | bad => intro h; exact h
/-- f(e, ..): frozen arguments -/
theorem snd_call {es : List ME} {xs : List Expr} {x : Expr} {f : Nat} {fe : Expr} {pos : Pos} (g : Good X E k R G C) (ha : PA X (x :: xs) (tEs (rd X E p0) false (ME.pus es) (evs R G false es))) (hs : ((x :: xs).all notStar) = true) (hf : fnC C X.env.scope f es.length false fe = true)
    (bor : Bool) (hb : (bor && ME.pus es) = false) : PE X (.Call fe (x :: xs) [] pos) (tE (rd X E p0) p (ME.call bor f es).pu (ev R G p (.call bor f es))) := by
  cases fe <;> first | exact Bool.noConfusion hf | skip
  rename_i y yp
  have hf : ((match C.fs[f]? with
    | some e => decide (e.name = y) && (decide (e.ps.length = es.length) && (e.io == false))
    | none => false) && (glC X.env.scope y && plainName y)) = true := hf
  rw [Bool.and_eq_true, Bool.and_eq_true] at hf
  obtain ⟨h1, h2, h3⟩ := hf
  cases ec : C.fs[f]? with
  | none => rw [ec] at h1; cases h1
  | some e =>
    rw [ec] at h1
    have h1 : (decide (e.name = y) && (decide (e.ps.length = es.length) && (e.io == false))) = true := h1
    rw [Bool.and_eq_true, Bool.and_eq_true] at h1
    obtain ⟨n1, n2, n3⟩ := h1
    have n1 := of_decide_eq_true n1
    have n2 := of_decide_eq_true n2
    have n3 : e.io = false := by simpa using n3
    obtain ⟨fa, fd, m1, m2, m3, _, m4⟩ := g.fn f e ec
    subst n1
    refine (pe_callG g m4 (glC_ok h2) m1 m2 m3 (plainName_ok h3).1 ha hs).imp fun σ H Q h => ?_
    obtain ⟨env, B, F, U, s, w, h⟩ := h
    rw [ev, hb] at h
    obtain ⟨env', B', F', U', s', w', h'⟩ := seqS (q := false) (pu1 := ME.pus es) s w h (fun e => by rw [ME.pu] at e; exact e)
    refine ⟨env', B', F', U', s', w', ?_⟩
    revert h'
    cases e1 : evs R G false es env' with
    | ok r =>
      intro h' vs H1 Fa Ua ua ga wa sa ra ka
      obtain ⟨cs, env1, B1, F1, U1, s1, w1, k1, rp, fe, fz, _⟩ := h' vs H1 Fa Ua ua ga wa sa ra ka
      obtain ⟨u1, rc, wf, kf⟩ := fz rfl
      have lv : vs.length = es.length := by rw [← rp.length, evs_len false fe]
      obtain ⟨wg, gg⟩ := wf.grown
      have fr := RCs.freeze wf rc
      have k2 : Cont (rd X E p0) p (ME.call bor f es).pu B (grown F1 H1 u1) H1 σ ((R f (cs.map fun c => .d c.frz)).bd fun q => .ok (q.1, env1)) Q := by
        refine Cont.mono (H := H1) (F := F1) ?_ (Same.refl _) gg fun _ => Same.refl _
        have e3 : ((cutB false (R f (cs.map fun c => .d c.frz))).bd fun q => if (false = true ∧ q.1.atom = false) then (.bad : Res (CT × Env)) else .ok (q.1, env1)) = (R f (cs.map fun c => .d c.frz)).bd fun q => .ok (q.1, env1) := by
          simp [cutB]
        rw [← e3]
        exact kf
      have sp := sp_plain (T := rd X E p0) (n := e.ps.length) (SR.mono (H' := H1) gg.s s1 (fun _ _ => rfl)) wg (RCs.dfrz (H := H1) (F' := F1) fr) (by rw [lv, n2]) k2
      rw [← n3] at sp
      exact sp
    | exc c x => intro h; exact h
    | bad => intro h; exact h
end
end PV

/-! Further calls. -/
namespace PV
open PySem PySem.Spec PyProof.Rows L2
section
variable {X : Cx} {E : WX} {k : Nat} {R : Rn} {G : List D} {C : CK} {p0 : Option V} {T : Fx} {p pur q : Bool} {B F H B1 F1 H1 : Hp} {σ : Sl} {Q : VK} {c : CT} {v : V} {u U : List Addr}
theorem fnC_ok (g : Good X E k R G C) {f n : Nat} {io : Bool} {fe : Expr} (hf : fnC C X.env.scope f n io fe = true) : ∃ (e : Ent) (yp : Pos) (fa : Addr) (fd : FuncData), fe = .Name e.name yp ∧ e.ps.length = n ∧ e.io = io ∧ Gl X e.name ∧ (e.name == ("__debug__" : Str)) = false ∧ X.mg e.name = some (.ref fa) ∧ PySem.W.keepIn X.K (.ref fa) = true ∧ L2.Binds X.K fd e.ps [] ∧
    FnG X.prog X.w X.K X.mg X.base k fa fd e.ps (spR X.K X.mg e.ps.length e.io (R f)) := by
  cases fe <;> first | exact Bool.noConfusion hf | skip
  rename_i y yp
  have hf : ((match C.fs[f]? with
    | some e => decide (e.name = y) && (decide (e.ps.length = n) && (e.io == io))
    | none => false) && (glC X.env.scope y && plainName y)) = true := hf
  rw [Bool.and_eq_true, Bool.and_eq_true] at hf
  obtain ⟨h1, h2, h3⟩ := hf
  cases ec : C.fs[f]? with
  | none => rw [ec] at h1; cases h1
  | some e =>
    rw [ec] at h1
    have h1 : (decide (e.name = y) && (decide (e.ps.length = n) && (e.io == io))) = true := h1
    rw [Bool.and_eq_true, Bool.and_eq_true] at h1
    obtain ⟨n1, n2, n3⟩ := h1
    have n1 := of_decide_eq_true n1
    obtain ⟨fa, fd, m1, m2, m3, _, m4⟩ := g.fn f e ec
    subst n1
    exact ⟨e, yp, fa, fd, rfl, of_decide_eq_true n2, by simpa using n3, glC_ok h2, (plainName_ok h3).1, m1, m2, m3, m4⟩
theorem RPs.frzs {K : PySem.W.Frag} (s : Same F H) {cs : List CT} {vs : List V} (r : RPs K H F cs vs) : RDs K H (CT.frzs cs) vs := r.frz s
/-- a value of none of the heap's -/
theorem atom_any {K : PySem.W.Frag} {F' : Hp} (h : c.atom = true) (r : RC K H F c v u) : ∃ d, c = .d d ∧ u = [] ∧ RD K F' d v := by
  cases c with
  | d d =>
    cases r with
    | d r => cases r <;> first | exact Bool.noConfusion h | exact ⟨_, rfl, rfl, by constructor⟩
  | l _ => exact Bool.noConfusion h
  | t _ => exact Bool.noConfusion h
/-- f(e, ..): the arguments are lent, the value is none of the heap's -/
theorem snd_callB {es : List ME} {xs : List Expr} {x : Expr} {f : Nat} {fe : Expr} {pos : Pos} (g : Good X E k R G C) (ha : PA X (x :: xs) (tEs (rd X E p0) true (ME.pus es) (evs R G true es))) (hs : ((x :: xs).all notStar) = true) (hf : fnC C X.env.scope f es.length false fe = true)
    (bor : Bool) (hb : (bor && ME.pus es) = true) : PE X (.Call fe (x :: xs) [] pos) (tE (rd X E p0) p (ME.call bor f es).pu (ev R G p (.call bor f es))) := by
  obtain ⟨e, yp, fa, fd, rfl, n2, n3, gl, nd, m1, m2, m3, m4⟩ := fnC_ok g hf
  have hpu : ME.pus es = true := (Bool.and_eq_true_iff.mp hb).2
  refine (pe_callG g m4 gl m1 m2 m3 nd ha hs).imp fun σ H Q h => ?_
  obtain ⟨env, B, F, U, s, w, h⟩ := h
  rw [ev, hb] at h
  obtain ⟨env', B', F', U', s', w', h'⟩ := seqS (q := true) (pu1 := ME.pus es) s w h (fun e => by rw [ME.pu] at e; exact e)
  refine ⟨env', B', F', U', s', w', ?_⟩
  revert h'
  cases e1 : evs R G true es env' with
  | ok r =>
    intro h' vs H1 Fa Ua ua ga wa sa ra ka
    obtain ⟨cs, env1, B1, F1, U1, s1, w1, k1, rp, fe, _, sm⟩ := h' vs H1 Fa Ua ua ga wa sa ra ka
    have lv : vs.length = es.length := by rw [← rp.length, evs_len true fe]
    -- all that there is is frozen for the callee
    have fr : RDs (rd X E p0).K H1 (CT.frzs cs) vs := rp.frz w1.f
    refine ⟨by rw [lv, n2], H1, H1, cs.map fun c => .d c.frz, [], RCs.dfrz (F' := H1) fr, ⟨Same.refl _, Same.refl _, List.nodup_nil, fun _ m => by cases m⟩, ?_⟩
    have k2 : Cont (rd X E p0) p (ME.call bor f es).pu B1 F1 H1 σ ((cutB true (R f (cs.map fun c => .d c.frz))).bd fun q => if (true = true ∧ q.1.atom = false) then (.bad : Res (CT × Env)) else .ok (q.1, env1)) Q := k1
    cases er : R f (cs.map fun c => .d c.frz) with
    | ok q =>
      rw [er] at k2
      have k2 : Cont (rd X E p0) p (ME.call bor f es).pu B1 F1 H1 σ (if (true = true ∧ q.1.atom = false) then (.bad : Res (CT × Env)) else .ok (q.1, env1)) Q := k2
      intro v H' F' w' u0 g' wr rc _
      by_cases ha : q.1.atom = false
      · rw [if_pos ⟨rfl, ha⟩] at k2; exact k2.elim
      · rw [if_neg (fun z => ha z.2)] at k2
        obtain ⟨d, e1, e2, r3⟩ := atom_any (F' := F1) (by simpa using ha) rc
        have sm2 : Same H1 H' := wr.b
        rw [e1] at k2
        exact fin s1 w1 k2 ⟨sm2, Gr.refl, w1.f.trans sm2, .d r3, List.nodup_nil, fun _ m => by cases m⟩
    | exc cc x => rw [er] at k2; exact k2.elim
    | bad => rw [er] at k2; exact k2
  | exc c x => intro h; exact h
  | bad => intro h; exact h

/-! ### calls by keywords -/
/-- each of these is evaluated as the evaluator says -/
inductive AllE (X : Cx) (T : Fx) (R : Rn) (G : List D) : List ME → List Expr → Prop where
  | nil : AllE X T R G [] []
  | cons {m : ME} {e : Expr} {ms : List ME} {es : List Expr} : notStar e = true → (∀ p, (p = true → m.pu = true) → PE X e (tE T p m.pu (ev R G p m))) → AllE X T R G ms es → AllE X T R G (m :: ms) (e :: es)
theorem AllE.star : ∀ {ms : List ME} {es : List Expr}, AllE X T R G ms es → (es.all notStar) = true
  | _, _, .nil => rfl
  | _, _, .cons h _ r => by rw [List.all_cons, h, r.star]; rfl
theorem AllE.len : ∀ {ms : List ME} {es : List Expr}, AllE X T R G ms es → es.length = ms.length
  | _, _, .nil => rfl
  | _, _, .cons h _ r => by rw [List.length_cons, List.length_cons, r.len]
theorem pus_cons {m : ME} {ms : List ME} : ME.pus (m :: ms) = (m.pu && ME.pus ms) := by rw [ME.pus]
theorem AllE.pa : ∀ {ms : List ME} {es : List Expr}, AllE X T R G ms es → (p = true → ME.pus ms = true) → PA X es (tEs T p (ME.pus ms) (evs R G p ms))
  | _, _, .nil, _ => pa_nil.imp fun σ H Q q => tEs_nil (fun e => by rw [evs]) q
  | _, _, .cons (m := m) (ms := ms) h a r, hp => by
    have hp2 : p = true → m.pu = true ∧ ME.pus ms = true := fun e => by have := hp e; rw [pus_cons, Bool.and_eq_true] at this; exact this
    refine (pa_cons (a p fun e => (hp2 e).1) (r.pa fun e => (hp2 e).2) (star_cons h _)).imp fun σ H Q q => ?_
    rw [pus_cons] at q
    exact tEs_cons hp2 (by
      have e : evs R G p (m :: ms) = fun e => (ev R G p m e).bd fun r => (evs R G p ms r.2).bd fun q => .ok (r.1 :: q.1, q.2) := by funext e; rw [evs]
      rw [e] at q; exact q)
theorem AllE.pk : ∀ {ms : List ME} {kws : List Keyword}, AllE X T R G ms (kws.map (·.value)) → (p = true → ME.pus ms = true) → PK X kws (tEs T p (ME.pus ms) (evs R G p ms))
  | [], [], _, _ => ⟨fun pos pins s σ H Q I q => pk_nil.run pos pins s σ H Q I (tEs_nil (fun e => by rw [evs]) q)⟩
  | m :: ms, ⟨nm, e, kp⟩ :: kws, z, hp => by
    have hp2 : p = true → m.pu = true ∧ ME.pus ms = true := fun e => by have := hp e; rw [pus_cons, Bool.and_eq_true] at this; exact this
    cases z with
    | cons h a r =>
      have q2 := AllE.pk r fun e => (hp2 e).2
      refine ⟨fun pos pins s σ H Q I q => (pk_cons (nm := nm) (kpos := kp) (a p fun e => (hp2 e).1) q2).run pos pins s σ H Q I ?_⟩
      rw [pus_cons] at q
      exact tEs_cons hp2 (by
        have e : evs R G p (m :: ms) = fun e => (ev R G p m e).bd fun r => (evs R G p ms r.2).bd fun q => .ok (r.1 :: q.1, q.2) := by funext e; rw [evs]
        rw [e] at q; exact q)
  | [], _ :: _, z, _ => by cases z
  | _ :: _, [], z, _ => by cases z
theorem kw_names {env : PySem.Env} {pos : Pos} : ∀ {kws : List Keyword} {ks : List Str}, kws.map (·.arg) = ks.map some → (backToKw pos (keywordEach kws env)).filterMap (·.1) = ks ∧ (backToKw pos (keywordEach kws env)).all (·.1.isSome) = true ∧ (backToKw pos (keywordEach kws env)).any (·.1.isNone) = false
  | [], [], _ => ⟨rfl, rfl, rfl⟩
  | ⟨nm, e, kp⟩ :: kws, k :: ks, h => by
    rw [List.map_cons, List.map_cons] at h
    obtain ⟨h1, h2⟩ := List.cons.inj h
    have h1 : nm = some k := h1
    subst h1
    obtain ⟨r1, r2, r3⟩ := kw_names (env := env) (pos := pos) h2
    refine ⟨?_, ?_, ?_⟩
    · show k :: (backToKw pos (keywordEach kws env)).filterMap (·.1) = _
      rw [r1]
    · show (true && (backToKw pos (keywordEach kws env)).all (·.1.isSome)) = true
      rw [r2]; rfl
    · show (false || (backToKw pos (keywordEach kws env)).any (·.1.isNone)) = false
      rw [r3]; rfl
  | [], _ :: _, h => by simp at h
  | _ :: _, [], h => by simp at h
theorem perms_map {α β : Type} (f : α → β) (perm : List Nat) (xs : List α) : perms perm (xs.map f) = (perms perm xs).map f := by
  unfold perms
  rw [List.map_filterMap]
  congr 1
  funext i
  rw [List.getElem?_map]
theorem perms_len {α : Type} {xs : List α} : ∀ {perm : List Nat}, (perm.all fun i => decide (i < xs.length)) = true → (perms perm xs).length = perm.length
  | [], _ => rfl
  | i :: r, h => by
    rw [List.all_cons, Bool.and_eq_true] at h
    have hi := of_decide_eq_true h.1
    unfold perms
    rw [List.filterMap_cons, List.getElem?_eq_getElem hi]
    show ((perms r xs).length + 1) = _
    rw [perms_len h.2, List.length_cons]
theorem perms_vals {vs : List V} {us : List Value} (h : Vals vs us) : ∀ {perm : List Nat}, Vals (perms perm vs) (perms perm us)
  | [] => .nil
  | i :: r => by
    unfold perms
    rw [List.filterMap_cons, List.filterMap_cons]
    have l := h.length
    by_cases hi : i < vs.length
    · rw [List.getElem?_eq_getElem hi, List.getElem?_eq_getElem (l ▸ hi)]
      refine .cons ?_ (perms_vals h)
      obtain ⟨z, h1, h2⟩ := h.get (List.getElem?_eq_getElem hi)
      rw [List.getElem?_eq_getElem (l ▸ hi)] at h1
      rw [Option.some.inj h1]
      exact h2
    · rw [List.getElem?_eq_none (Nat.le_of_not_lt hi), List.getElem?_eq_none (l ▸ Nat.le_of_not_lt hi)]
      exact perms_vals h
theorem perms_rds {K : PySem.W.Frag} {ds : List D} {vs : List V} (h : RDs K F ds vs) : ∀ {perm : List Nat}, RDs K F (perms perm ds) (perms perm vs)
  | [] => .nil
  | i :: r => by
    unfold perms
    rw [List.filterMap_cons, List.filterMap_cons]
    have l := h.length
    by_cases hi : i < ds.length
    · rw [List.getElem?_eq_getElem hi, List.getElem?_eq_getElem (l ▸ hi)]
      refine .cons ?_ (perms_rds h)
      obtain ⟨z, h1, h2⟩ := h.get (List.getElem?_eq_getElem hi)
      rw [List.getElem?_eq_getElem (l ▸ hi)] at h1
      rw [Option.some.inj h1]
      exact h2
    · rw [List.getElem?_eq_none (Nat.le_of_not_lt hi), List.getElem?_eq_none (l ▸ Nat.le_of_not_lt hi)]
      exact perms_rds h

theorem frzs_perms {cs : List CT} {perm : List Nat} : CT.frzs (perms perm cs) = perms perm (CT.frzs cs) := by
  rw [CT.frzs_map, CT.frzs_map, perms_map]
theorem fnKC_ok (g : Good X E k R G C) {f : Nat} {ks : List Str} {perm : List Nat} {fe : Expr} (hf : fnKC C X.env.scope f ks perm fe = true) : ∃ (e : Ent) (yp : Pos) (fa : Addr) (fd : FuncData), fe = .Name e.name yp ∧ perm.length = e.ps.length ∧ (perm.all fun i => decide (i < ks.length)) = true ∧ e.io = false ∧ Gl X e.name ∧ (e.name == ("__debug__" : Str)) = false ∧ X.mg e.name = some (.ref fa) ∧ PySem.W.keepIn X.K (.ref fa) = true ∧ BindsK X.K fd e.ps ks perm ∧
    FnG X.prog X.w X.K X.mg X.base k fa fd e.ps (spR X.K X.mg e.ps.length e.io (R f)) := by
  cases fe <;> first | exact Bool.noConfusion hf | skip
  rename_i y yp
  have hf : ((match C.fs[f]? with
    | some e => decide (e.name = y) && (decide ((ks, perm) ∈ e.kws) && (decide (perm.length = e.ps.length) && (decide (perm.all (fun i => decide (i < ks.length)) = true) && (e.io == false))))
    | none => false) && (glC X.env.scope y && plainName y)) = true := hf
  rw [Bool.and_eq_true, Bool.and_eq_true] at hf
  obtain ⟨h1, h2, h3⟩ := hf
  cases ec : C.fs[f]? with
  | none => rw [ec] at h1; cases h1
  | some e =>
    rw [ec] at h1
    have h1 : (decide (e.name = y) && (decide ((ks, perm) ∈ e.kws) && (decide (perm.length = e.ps.length) && (decide (perm.all (fun i => decide (i < ks.length)) = true) && (e.io == false))))) = true := h1
    rw [Bool.and_eq_true, Bool.and_eq_true, Bool.and_eq_true, Bool.and_eq_true] at h1
    obtain ⟨n1, n2, n3, n4, n5⟩ := h1
    have n1 := of_decide_eq_true n1
    obtain ⟨fa, fd, m1, m2, m3, mk, m4⟩ := g.fn f e ec
    subst n1
    exact ⟨e, yp, fa, fd, rfl, of_decide_eq_true n3, of_decide_eq_true n4, by simpa using n5, glC_ok h2, (plainName_ok h3).1, m1, m2, mk _ (of_decide_eq_true n2), m4⟩
/-- f(k = e, ..) -/
theorem snd_callK {es : List ME} {kws : List Keyword} {perm : List Nat} {ks : List Str} {f : Nat} {fe : Expr} {pos : Pos} (g : Good X E k R G C) (ha : AllE X (rd X E p0) R G es (kws.map (·.value))) (hf : fnKC C X.env.scope f ks perm fe = true) (hk : kws.map (·.arg) = ks.map some) :
    PE X (.Call fe [] kws pos) (tE (rd X E p0) p (ME.callK f perm ks es).pu (ev R G p (.callK f perm ks es))) := by
  obtain ⟨e, yp, fa, fd, rfl, n1, n2, n3, gl, nd, m1, m2, m3, m4⟩ := fnKC_ok g hf
  obtain ⟨k1, k2, k3⟩ := kw_names (env := X.env) (pos := pos) hk
  have lk : kws.length = ks.length := by have := congrArg List.length hk; simpa using this
  refine ⟨fun pins s σ H Q I h => ?_⟩
  refine wpAny_Call_Name_kw (ld_glob I gl m1 ?_ nd)
  have pk := ha.pk (p := false) (fun e => by cases e)
  refine PySem.W.callWith_KW0 (h₀ := X.base) I.ok.mod.kin m2 k2 (thn (pk.run pos pins s σ H (fun vs H1 => vs.length = ks.length ∧ spR X.K X.mg e.ps.length e.io (R f) (perms perm vs) H1 Q (WE E σ)) I ?_) fun us s1 ⟨vs, H1, I1, r, ql, q⟩ => ⟨I1.kIn, ?_⟩) (by rw [k3]; rfl)
  · obtain ⟨env, B, F, U, s0, w, h⟩ := h
    rw [ev] at h
    obtain ⟨env', B', F', U', s', w', h'⟩ := seqS (q := false) (pu1 := ME.pus es) s0 w h (fun e => by rw [ME.pu] at e; exact e)
    refine ⟨env', B', F', U', s', w', ?_⟩
    revert h'
    cases e1 : evs R G false es env' with
    | ok r =>
      intro h' vs H1 Fa Ua ua ga wa sa ra ka
      obtain ⟨cs, env1, B1, F1, U1, s1, w1, kk1, rp, fe, fz, _⟩ := h' vs H1 Fa Ua ua ga wa sa ra ka
      obtain ⟨u1, rc, wf, kf⟩ := fz rfl
      have lv : vs.length = ks.length := by rw [← rp.length, evs_len false fe, ← ha.len, List.length_map, lk]
      refine ⟨lv, ?_⟩
      obtain ⟨wg, gg⟩ := wf.grown
      have fr := RCs.freeze wf rc
      have k2 : Cont (rd X E p0) p (ME.callK f perm ks es).pu B (grown F1 H1 u1) H1 σ ((R f ((perms perm cs).map fun c => .d c.frz)).bd fun q => .ok (q.1, env1)) Q :=
        Cont.mono (H := H1) (F := F1) kf (Same.refl _) gg fun _ => Same.refl _
      have fr2 : RDs X.K (grown F1 H1 u1) (CT.frzs (perms perm cs)) (perms perm vs) := by rw [frzs_perms]; exact perms_rds fr
      have sp := sp_plain (T := rd X E p0) (n := e.ps.length) (SR.mono (H' := H1) gg.s s1 (fun _ _ => rfl)) wg (RCs.dfrz (H := H1) (F' := F1) fr2) (by rw [perms_len (by rw [lv]; exact n2), n1]) k2
      rw [← n3] at sp
      exact sp
    | exc c x => intro h; exact h
    | bad => intro h; exact h
  · rw [k1]
    exact run_g g m4 (m3 s1 us I1.kIn (by rw [← r.length, ql])) I1 (perms_vals r) q
end
end PV

/-! A call that changes its first argument. -/
namespace PV
open PySem PySem.Spec PyProof.Rows L2
section
variable {X : Cx} {E : WX} {k : Nat} {R : Rn} {G : List D} {C : CK} {p0 : Option V} {T : Fx} {p pur q : Bool} {B F H B1 F1 H1 : Hp} {σ : Sl} {Q : VK} {c : CT} {v : V} {u U : List Addr}
theorem name_notStar {sc : Scope} {N : List Str} {i : Nat} {x : Expr} (h : nameIs sc N i x = true) : notStar x = true := by
  cases x <;> first | rfl | exact Bool.noConfusion h
theorem snd_callIO {i : Nat} {es : List ME} {xs : List Expr} {x : Expr} {f : Nat} {fe : Expr} {pos : Pos} (g : Good X E k R G C) (hx : nameIs X.env.scope X.N i x = true) (ha : AllE X (rd X E p0) R G es xs) (hf : fnC C X.env.scope f (es.length + 1) true fe = true) :
    PE X (.Call fe (x :: xs) [] pos) (tE (rd X E p0) p (ME.callIO f i es).pu (ev R G p (.callIO f i es))) := by
  obtain ⟨e, yp, fa, fd, rfl, n2, n3, gl, nd, m1, m2, m3, m4⟩ := fnC_ok g hf
  have ns := name_notStar hx
  have pa := pa_cons (pe_nm hx) (ha.pa (p := false) (fun e => by cases e)) (star_cons ns xs)
  refine (pe_callG g m4 gl m1 m2 m3 nd pa (by rw [List.all_cons, ns, ha.star]; rfl)).imp fun σ H Q h => ?_
  obtain ⟨env, B, F, U, s, w, h⟩ := h
  rw [ev] at h
  cases eg : env.get i with
  | none => rw [eg] at h; exact h.elim
  | some c0 =>
    rw [eg] at h
    obtain ⟨vi, _, _, hv, _⟩ := s.get eg
    refine ⟨vi, hv, ?_⟩
    have h : Cont (rd X E p0) p (ME.callIO f i es).pu B F H σ ((evs R G false es env).bd fun r => match r.2.get i with
      | some c => (R f (c :: r.1.map fun c => .d c.frz)).bd fun q => match q.2 with
        | some c' => .ok (q.1, r.2.set i (some c'))
        | none => .bad
      | none => .bad) Q := h
    obtain ⟨env', B', F', U', s', w', h'⟩ := seqS (q := false) (pu1 := ME.pus es) s w h (fun e => by rw [ME.pu] at e; cases e)
    refine ⟨env', B', F', U', s', w', ?_⟩
    revert h'
    cases e1 : evs R G false es env' with
    | ok r =>
      intro h' vs H1 Fa Ua ua ga wa sa ra ka
      obtain ⟨cs, env1, B1, F1, U1, s1, w1, kk1, rp, fe, fz, _⟩ := h' vs H1 Fa Ua ua ga wa sa ra ka
      obtain ⟨u1, rc, wf, kf⟩ := fz rfl
      have lv : vs.length = es.length := by rw [← rp.length, evs_len false fe]
      obtain ⟨wg, gg⟩ := wf.grown
      have fr := RCs.freeze wf rc
      have sg : SR X.K H1 (grown F1 H1 u1) env1 σ U1 := SR.mono (H' := H1) gg.s s1 fun _ _ => rfl
      have kf : Cont (rd X E p0) p (ME.callIO f i es).pu B F1 H1 σ (match env1.get i with
        | some c => (R f (c :: cs.map fun c => .d c.frz)).bd fun q => match q.2 with
          | some c' => .ok (q.1, env1.set i (some c'))
          | none => .bad
        | none => .bad) Q := kf
      cases eg1 : env1.get i with
      | none => rw [eg1] at kf; exact kf.elim
      | some c1 =>
        rw [eg1] at kf
        have kf : Cont (rd X E p0) p (ME.callIO f i es).pu B F1 H1 σ ((R f (c1 :: cs.map fun c => .d c.frz)).bd fun q => match q.2 with
          | some c' => .ok (q.1, env1.set i (some c'))
          | none => .bad) Q := kf
        obtain ⟨vi', u, W, hv', hr, hp, hs, hb⟩ := sg.get eg1
        have ev' : vi' = vi := Option.some.inj (Option.some.inj (hv'.symm.trans hv))
        subst ev'
        have wW : WR B (grown F1 H1 u1) H1 (W ++ u) := (wg.perm hp).comm
        have wl : WR (lesser H1 u) (grown F1 H1 u1) H1 u := wW.lesser
        refine ⟨by show vs.length + 1 = _; rw [lv, n2], lesser H1 u, grown F1 H1 u1, c1 :: cs.map fun c => .d c.frz, u ++ [], RCs.cons hr (RCs.dfrz (F' := F1) fr), by rw [List.append_nil]; exact wl, ?_⟩
        cases er : R f (c1 :: cs.map fun c => .d c.frz) with
        | ok q =>
          rw [er] at kf
          intro v H' F' w' u0 g' wr rcv io
          obtain ⟨c0', v0, q1, q2, q3⟩ := io n3
          have q2 := Option.some.inj (show some vi' = some v0 from q2)
          subst q2
          have kf : Cont (rd X E p0) p (ME.callIO f i es).pu B F1 H1 σ (match q.2 with
            | some c' => .ok (q.1, env1.set i (some c'))
            | none => .bad) Q := kf
          rw [q1] at kf
          obtain ⟨w3, g3, eq3⟩ := wW.keep g' wr
          have s3 := SR.mono (H' := H') g'.s hs eq3
          obtain ⟨U3, s4, p4⟩ := hb H' F' c0' u0 W q3 s3
          have w4 : WR B F' H' (w' ++ U3) := w3.perm (by
            refine List.perm_append_comm.trans ?_
            rw [List.append_assoc]
            exact List.Perm.append_left w' p4.symm)
          obtain ⟨u', r', w''⟩ := RV.mk (T := rd X E p0) (p := p) w4 rcv
          exact kf v H' F' U3 u' (gg.trans g3) w'' s4 r' fun e => by rw [ME.pu] at e; cases e
        | exc cc x =>
          rw [er] at kf
          intro H' F' C d v h1 h2 h0 h3 h4 h5 h6
          have b0 : Same B (lesser H1 u) := wW.base
          exact kf H' F' C d v h1 h2 (b0.free h0) h3 (gg.trans (h4.sub b0)) h5 (b0.trans h6)
        | bad => rw [er] at kf; exact kf
    | exc c x => intro h; exact h
    | bad => intro h; exact h
end
end PV

/-! Operators, tests, chains: each from its parts. -/
namespace PV
open PySem PySem.Spec PyProof.Rows L2
section
variable {X : Cx} {E : WX} {k : Nat} {R : Rn} {G : List D} {C : CK} {p0 : Option V} {T : Fx} {p pur q : Bool} {B F H B1 F1 H1 : Hp} {σ : Sl} {Q : VK} {c : CT} {v : V} {u U : List Addr}
/-- as a value, as a test -/
def SE (X : Cx) (T : Fx) (R : Rn) (G : List D) (m : ME) (e : Expr) : Prop := ∀ p, (p = true → m.pu = true) → PE X e (tE T p m.pu (ev R G p m))
def ST (X : Cx) (T : Fx) (R : Rn) (G : List D) (m : ME) (e : Expr) : Prop := PT X e (tB (tE T m.pu m.pu (ev R G m.pu m)))
theorem SE.self {m : ME} {e : Expr} (h : SE X T R G m e) : PE X e (tE T m.pu m.pu (ev R G m.pu m)) := h m.pu id
theorem and_l {a b : Bool} (h : (a && b) = true) : a = true := (Bool.and_eq_true_iff.mp h).1
theorem and_r {a b : Bool} (h : (a && b) = true) : b = true := (Bool.and_eq_true_iff.mp h).2
theorem tE_op {o : O2} {a b : ME} (h : tE T p (ME.op o a b).pu (ev R G p (.op o a b)) σ H Q) : tOp (rO T.K (opf o)) (tE T (a.pu && b.pu) a.pu (ev R G (a.pu && b.pu) a)) (tE T (a.pu && b.pu) b.pu (ev R G (a.pu && b.pu) b)) σ H Q :=
  tE.two (fun e => by rw [ev]) and_r (fun e => and_l (by rw [ME.pu] at e; exact e)) (fun e => and_r (by rw [ME.pu] at e; exact e)) h
theorem snd_bin {o : O2} {a b : ME} {l r : Expr} {op : Operator} {pos : Pos} (ha : SE X (rd X E p0) R G a l) (hb : SE X (rd X E p0) R G b r) (ho : okB o.bin op = true) : SE X (rd X E p0) R G (.op o a b) (.BinOp l op r pos) := fun p _ =>
  (pe_op (opB (of_decide_eq_true ho)) (ha _ and_l) (hb _ and_r)).imp fun σ H Q h => tE_op h
theorem snd_cmp {o : O2} {a b : ME} {l r : Expr} {op : CmpOp} {pos : Pos} (hu : X.A.units + 80 < cLine) (ha : SE X (rd X E p0) R G a l) (hb : SE X (rd X E p0) R G b r) (ho : okC o.cmp op = true) (hm : behindInMarks op r = false) : SE X (rd X E p0) R G (.op o a b) (.Compare l [op] [r] pos) := fun p _ =>
  (pe_cmpR (opC (by omega) (of_decide_eq_true ho)) (ha _ and_l) (hb _ and_r) hm).imp fun σ H Q h => tE_op h
theorem snd_cmpT {o : O2} {a b : ME} {l r : Expr} {op : CmpOp} {pos : Pos} (hu : X.A.units + 80 < cLine) (ha : SE X (rd X E p0) R G a l) (hb : SE X (rd X E p0) R G b r) (ho : okC o.cmp op = true) (hm : behindInMarks op r = false) : ST X (rd X E p0) R G (.op o a b) (.Compare l [op] [r] pos) :=
  (pt_cmpR (opC (by omega) (of_decide_eq_true ho)) (ha _ and_l) (hb _ and_r) hm).imp fun σ H Q h => tE_op h
def negD : CT → Option D
  | .d (.int i) => some (.int (-i))
  | _ => none
def notD : CT → Option D
  | .d (.bl i) => some (.bl (!i))
  | _ => none
theorem snd_neg {a : ME} {l : Expr} {pos : Pos} (ha : SE X (rd X E p0) R G a l) : SE X (rd X E p0) R G (.neg a) (.UnaryOp .USub l pos) := fun p _ => by
  refine (pe_un un_neg ha.self).imp fun σ H Q h => ?_
  obtain ⟨env, B, F, U, s, w, h⟩ := tE.one (q := a.pu) (g := negD) (f1 := ev R G a.pu a) (pu1 := a.pu) (fun e => by
    rw [ev]; congr 1; funext r; obtain ⟨c, e⟩ := r
    cases c with
    | d d => cases d <;> rfl
    | _ => rfl) (fun e => by rw [ME.pu] at e; exact e) h
  refine ⟨env, B, F, U, s, w, ?_⟩
  revert h
  cases ev R G a.pu a env with
  | ok r =>
    intro h v H' F' U' u h1 h2 h3 h4 h5
    obtain ⟨c, F, d, f, rp, hg, q⟩ := h v H' F' U' u h1 h2 h3 h4 h5
    cases c with
    | d x =>
      cases x <;> first | (cases hg; done) | skip
      rename_i i
      cases hg
      exact ⟨i, rp.int, q _ (.int _)⟩
    | _ => cases hg
  | exc c x => exact id
  | bad => exact id
theorem not_inv {a : ME} (h : tE T p (ME.not a).pu (ev R G p (.not a)) σ H Q) : tNotV (tE T a.pu a.pu (ev R G a.pu a)) σ H Q := by
  obtain ⟨env, B, F, U, s, w, h⟩ := tE.one (q := a.pu) (g := notD) (f1 := ev R G a.pu a) (pu1 := a.pu) (fun e => by
    rw [ev]; congr 1; funext r; obtain ⟨c, e⟩ := r
    cases c with
    | d d => cases d <;> rfl
    | _ => rfl) (fun e => by rw [ME.pu] at e; exact e) h
  refine ⟨env, B, F, U, s, w, ?_⟩
  revert h
  cases ev R G a.pu a env with
  | ok r =>
    intro h v H' F' U' u h1 h2 h3 h4 h5
    obtain ⟨c, F, d, f, rp, hg, q⟩ := h v H' F' U' u h1 h2 h3 h4 h5
    cases c with
    | d x =>
      cases x <;> first | (cases hg; done) | skip
      rename_i i
      cases hg
      exact ⟨i, rp.bl, q _ (.bl _)⟩
    | _ => cases hg
  | exc c x => exact id
  | bad => exact id
theorem snd_not {a : ME} {l : Expr} {pos : Pos} (ha : SE X (rd X E p0) R G a l) : SE X (rd X E p0) R G (.not a) (.UnaryOp .Not l pos) := fun p _ =>
  (pe_not ha.self).imp fun σ H Q h => not_inv h
theorem tE.post {f : Env → Res (CT × Env)} {Q Q' : VK} (h : tE T p pur f σ H Q) (i : ∀ v H, Q v H → Q' v H) : tE T p pur f σ H Q' := by
  obtain ⟨env, B, F, U, s, w, h⟩ := h
  refine ⟨env, B, F, U, s, w, ?_⟩
  revert h
  cases f env with
  | ok r => exact fun h v H' F' U' u h1 h2 h3 h4 h5 => i _ _ (h v H' F' U' u h1 h2 h3 h4 h5)
  | exc c x => exact id
  | bad => exact id
theorem snd_notT {a : ME} {l : Expr} {pos : Pos} (ha : ST X (rd X E p0) R G a l) : ST X (rd X E p0) R G (.not a) (.UnaryOp .Not l pos) :=
  (pt_not ha).imp fun σ H Q h => (not_inv h).post fun x H ⟨c, e, d, e2, q⟩ => ⟨c, e, by cases e2; exact q⟩
/-- a value that must be a bool, then the rest -/
theorem tE.bool {f f1 : Env → Res (CT × Env)} {g : Bool → Env → Res (CT × Env)} {pu1 : Bool} (hf : ∀ e, f e = (f1 e).bd fun r => match asBl r.1 with
      | some b => g b r.2
      | none => .bad) (h1 : pur = true → pu1 = true) (h : tE T p pur f σ H Q) :
    tE T q pu1 f1 σ H fun x H1 => ∃ b, x = .bl b ∧ tE T p pur (g b) σ H1 Q := by
  obtain ⟨env, B, F, U, s, w, h⟩ := h
  rw [hf] at h
  obtain ⟨env', B', F', U', s', w', h'⟩ := seq (q := q) s w h h1
  refine ⟨env', B', F', U', s', w', ?_⟩
  revert h'
  cases e : f1 env' with
  | ok r =>
    intro h' v1 H1 Fa Ua ua ga wa sa ra ka
    obtain ⟨c1, env1, B1, F1, U1, s1, w1, k1, kept1, fs, bs, bh, kk, fe⟩ := h' v1 H1 Fa Ua ua ga wa sa ra ka
    have k1 : Cont T p pur B1 F1 H1 σ (match asBl c1 with
      | some b => g b env1
      | none => .bad) Q := k1
    cases hg : asBl c1 with
    | none => rw [hg] at k1; exact k1.elim
    | some b =>
      rw [hg] at k1
      have rp := kept1 H1 F1 (Same.refl _) bh (fun _ => Same.refl _)
      have e : c1 = .d (.bl b) := by
        cases c1 with
        | d x => cases x <;> first | (cases hg; done) | (cases hg; rfl)
        | _ => cases hg
      subst e
      exact ⟨b, rp.bl, env1, B1, F1, U1, s1, w1, k1⟩
  | exc c x => intro h; exact h
  | bad => intro h; exact h
theorem mtch {α : Type} {c : CT} {e : Env} {g : Bool → Env → Res α} : (match ((c, e) : CT × Env).1 with
    | .d (.bl true) => g true e
    | .d (.bl false) => g false e
    | _ => .bad) = match asBl c with
      | some b => g b e
      | none => .bad := by
  cases c with
  | d d => cases d <;> first | rfl | (rename_i b; cases b <;> rfl)
  | _ => rfl
theorem pure_le {pur2 : Bool} {r : Res (CT × Env)} (i : pur = true → pur2 = true) (h : Cont T p pur B F H σ r Q) : Cont T p pur2 B F H σ r Q := by
  cases r with
  | ok r => exact fun v H' F' U' u h1 h2 h3 h4 h5 => h v H' F' U' u h1 h2 h3 h4 fun e => h5 (i e)
  | exc c x => exact h
  | bad => exact h
theorem tE.le {pur2 : Bool} {f : Env → Res (CT × Env)} (i : pur = true → pur2 = true) (h : tE T p pur f σ H Q) : tE T p pur2 f σ H Q := by
  obtain ⟨env, B, F, U, s, w, z⟩ := h
  exact ⟨env, B, F, U, s, w, pure_le i z⟩
theorem snd_ife {c a b : ME} {t l r : Expr} {pos : Pos} (hc : ST X (rd X E p0) R G c t) (ha : SE X (rd X E p0) R G a l) (hb : SE X (rd X E p0) R G b r) : SE X (rd X E p0) R G (.ife c a b) (.IfExp t l r pos) := fun p hp => by
  have hp2 : p = true → a.pu = true ∧ b.pu = true := fun e => by
    have z := hp e; rw [ME.pu] at z; exact ⟨and_l (and_r z), and_r (and_r z)⟩
  refine (pe_ifExp hc (ha p fun e => (hp2 e).1) (hb p fun e => (hp2 e).2)).imp fun σ H Q h => ?_
  refine (tE.bool (q := c.pu) (f1 := ev R G c.pu c) (g := fun d e => if d = true then ev R G p a e else ev R G p b e) (fun e => ?_) (fun e => by rw [ME.pu] at e; exact and_l e) h).post fun x H1 ⟨d, e, z⟩ => ⟨d, e, ?_⟩
  · rw [ev]
    congr 1
    funext r
    obtain ⟨y, e2⟩ := r
    exact mtch (g := fun d e => if d = true then ev R G p a e else ev R G p b e)
  · cases d with
    | true => exact tE.le (fun e => by rw [ME.pu] at e; exact and_l (and_r e)) z
    | false => exact tE.le (fun e => by rw [ME.pu] at e; exact and_r (and_r e)) z
/-! ### and, or -/
inductive AllT (X : Cx) (T : Fx) (R : Rn) (G : List D) : List ME → List Expr → Prop where
  | nil : AllT X T R G [] []
  | cons {m : ME} {e : Expr} {ms : List ME} {es : List Expr} : ST X T R G m e → AllT X T R G ms es → AllT X T R G (m :: ms) (e :: es)
theorem pu_and1 {m : ME} {ms : List ME} : pur = true → ME.pus (m :: ms) = true → m.pu = true := fun _ e => by rw [pus_cons] at e; exact and_l e
theorem snd_ands {pos : Pos} : ∀ {ms : List ME} {es : List Expr}, AllE X T R G ms es → ∀ pur p, (pur = true → ME.pus ms = true) → (p = true → ME.pus ms = true) → ms ≠ [] → PE X (.BoolOp .And es pos) (tE T p pur (evAnd R G ms))
  | [], _, _, _, _, _, _, h => absurd rfl h
  | [m], _, .cons (e := e) _ h .nil, pur, p, hp, hp2, _ => by
    refine (pe_one (h m.pu id)).imp fun σ H Q z => ?_
    have i : pur = true → m.pu = true := fun e => by have := hp e; rw [pus_cons] at this; exact and_l this
    refine (tE.bool (q := m.pu) (f1 := ev R G m.pu m) (g := fun d e => .ok (.d (.bl d), e)) (fun e => ?_) i z).post fun x H1 ⟨d, e, z⟩ => ?_
    · rw [evAnd]
      · congr 1
        funext r
        obtain ⟨y, e2⟩ := r
        cases y with
        | d d => cases d <;> rfl
        | _ => rfl
    · subst e
      obtain ⟨env, B, F, U, s, w, z⟩ := z
      exact fin s w z (.here w.f (.bl d))
  | m :: m2 :: ms, _, .cons (e := e) _ h (.cons (e := e2) (es := es) n h2 r), pur, p, hp, hp2, _ => by
    have i2 := snd_ands (pos := pos) (AllE.cons n h2 r) pur p (fun e => by have := hp e; rw [pus_cons] at this; exact and_r this) (fun e => by have := hp2 e; rw [pus_cons] at this; exact and_r this) (by simp)
    refine (pe_and (h m.pu id) i2).imp fun σ H Q z => ?_
    have i : pur = true → m.pu = true := fun e => by have := hp e; rw [pus_cons] at this; exact and_l this
    refine (tE.bool (q := m.pu) (f1 := ev R G m.pu m) (g := fun d e => if d = true then evAnd R G (m2 :: ms) e else .ok (.d (.bl false), e)) (fun e => ?_) i z).post fun x H1 ⟨d, e, z⟩ => ⟨d, e, ?_⟩
    · rw [evAnd]
      · congr 1
        funext r
        obtain ⟨y, e2⟩ := r
        exact mtch (g := fun d e => if d = true then evAnd R G (m2 :: ms) e else .ok (.d (.bl false), e))
      · simp
    · cases d with
      | true => exact z
      | false =>
        obtain ⟨env, B, F, U, s, w, z⟩ := z
        exact fin s w z (.here w.f (.bl false))
theorem snd_ors {pos : Pos} : ∀ {ms : List ME} {es : List Expr}, AllE X T R G ms es → ∀ pur p, (pur = true → ME.pus ms = true) → (p = true → ME.pus ms = true) → ms ≠ [] → PE X (.BoolOp .Or es pos) (tE T p pur (evOr R G ms))
  | [], _, _, _, _, _, _, h => absurd rfl h
  | [m], _, .cons (e := e) _ h .nil, pur, p, hp, hp2, _ => by
    refine (pe_one (h m.pu id)).imp fun σ H Q z => ?_
    have i : pur = true → m.pu = true := fun e => by have := hp e; rw [pus_cons] at this; exact and_l this
    refine (tE.bool (q := m.pu) (f1 := ev R G m.pu m) (g := fun d e => .ok (.d (.bl d), e)) (fun e => ?_) i z).post fun x H1 ⟨d, e, z⟩ => ?_
    · rw [evOr]
      · congr 1
        funext r
        obtain ⟨y, e2⟩ := r
        cases y with
        | d d => cases d <;> rfl
        | _ => rfl
    · subst e
      obtain ⟨env, B, F, U, s, w, z⟩ := z
      exact fin s w z (.here w.f (.bl d))
  | m :: m2 :: ms, _, .cons (e := e) _ h (.cons (e := e2) (es := es) n h2 r), pur, p, hp, hp2, _ => by
    have i2 := snd_ors (pos := pos) (AllE.cons n h2 r) pur p (fun e => by have := hp e; rw [pus_cons] at this; exact and_r this) (fun e => by have := hp2 e; rw [pus_cons] at this; exact and_r this) (by simp)
    refine (pe_or (h m.pu id) i2).imp fun σ H Q z => ?_
    have i : pur = true → m.pu = true := fun e => by have := hp e; rw [pus_cons] at this; exact and_l this
    refine (tE.bool (q := m.pu) (f1 := ev R G m.pu m) (g := fun d e => if d = true then .ok (.d (.bl true), e) else evOr R G (m2 :: ms) e) (fun e => ?_) i z).post fun x H1 ⟨d, e, z⟩ => ⟨d, e, ?_⟩
    · rw [evOr]
      · congr 1
        funext r
        obtain ⟨y, e2⟩ := r
        cases y with
        | d d => cases d <;> first | rfl | (rename_i b; cases b <;> rfl)
        | _ => rfl
      · simp
    · cases d with
      | false => exact z
      | true =>
        obtain ⟨env, B, F, U, s, w, z⟩ := z
        exact fin s w z (.here w.f (.bl true))
theorem tB_ok {f : Env → Res (CT × Env)} {Qb : Bool → Hp → Prop} (h : tE T p pur f σ H fun x H1 => ∃ c, x = .bl c ∧ Qb c H1) : tB (tE T p pur f) σ H Qb := h
theorem snd_andT {pos : Pos} : ∀ {ms : List ME} {es : List Expr}, AllT X T R G ms es → ∀ pur p, (pur = true → ME.pus ms = true) → ms ≠ [] → PW X (.BoolOp .And es pos) (tB (tE T p pur (evAnd R G ms)))
  | [], _, _, _, _, _, h => absurd rfl h
  | [m], _, .cons (e := e) h .nil, pur, p, hp, _ => by
    have z := pw_and1 (pos := pos) h
    refine ⟨fun wh pins s σ H Q I h => z.run wh pins s σ H Q I ?_⟩
    have i : pur = true → m.pu = true := fun e => by have := hp e; rw [pus_cons] at this; exact and_l this
    refine (tE.bool (q := m.pu) (f1 := ev R G m.pu m) (g := fun d e => .ok (.d (.bl d), e)) (fun e => ?_) i h).post fun x H1 ⟨d, e, z⟩ => ?_
    · rw [evAnd]
      · congr 1
        funext r
        obtain ⟨y, e2⟩ := r
        cases y with
        | d d => cases d <;> rfl
        | _ => rfl
    · subst e
      obtain ⟨env, B, F, U, s, w, z⟩ := z
      obtain ⟨c, e, q⟩ := fin s w z (.here w.f (.bl d))
      exact ⟨c, e, q⟩
  | m :: m2 :: ms, _, .cons (e := e) h (.cons (e := e2) (es := es) h2 r), pur, p, hp, _ => by
    have i2 := snd_andT (pos := pos) (AllT.cons h2 r) pur p (fun e => by have := hp e; rw [pus_cons] at this; exact and_r this) (by simp)
    have z := pw_and h i2
    refine ⟨fun wh pins s σ H Q I h => z.run wh pins s σ H Q I ?_⟩
    have i : pur = true → m.pu = true := fun e => by have := hp e; rw [pus_cons] at this; exact and_l this
    refine (tE.bool (q := m.pu) (f1 := ev R G m.pu m) (g := fun d e => if d = true then evAnd R G (m2 :: ms) e else .ok (.d (.bl false), e)) (fun e => ?_) i h).post fun x H1 ⟨d, e, z⟩ => ⟨d, e, ?_⟩
    · rw [evAnd]
      · congr 1
        funext r
        obtain ⟨y, e2⟩ := r
        exact mtch (g := fun d e => if d = true then evAnd R G (m2 :: ms) e else .ok (.d (.bl false), e))
      · simp
    · cases d with
      | true => exact z
      | false =>
        obtain ⟨env, B, F, U, s, w, z⟩ := z
        obtain ⟨c, e, q⟩ := fin s w z (.here w.f (.bl false))
        cases e
        exact q
theorem snd_orT {pos : Pos} : ∀ {ms : List ME} {es : List Expr}, AllT X T R G ms es → ∀ pur p, (pur = true → ME.pus ms = true) → ms ≠ [] → PW X (.BoolOp .Or es pos) (tB (tE T p pur (evOr R G ms)))
  | [], _, _, _, _, _, h => absurd rfl h
  | [m], _, .cons (e := e) h .nil, pur, p, hp, _ => by
    have z := pw_or1 (pos := pos) h
    refine ⟨fun wh pins s σ H Q I h => z.run wh pins s σ H Q I ?_⟩
    have i : pur = true → m.pu = true := fun e => by have := hp e; rw [pus_cons] at this; exact and_l this
    refine (tE.bool (q := m.pu) (f1 := ev R G m.pu m) (g := fun d e => .ok (.d (.bl d), e)) (fun e => ?_) i h).post fun x H1 ⟨d, e, z⟩ => ?_
    · rw [evOr]
      · congr 1
        funext r
        obtain ⟨y, e2⟩ := r
        cases y with
        | d d => cases d <;> rfl
        | _ => rfl
    · subst e
      obtain ⟨env, B, F, U, s, w, z⟩ := z
      obtain ⟨c, e, q⟩ := fin s w z (.here w.f (.bl d))
      exact ⟨c, e, q⟩
  | m :: m2 :: ms, _, .cons (e := e) h (.cons (e := e2) (es := es) h2 r), pur, p, hp, _ => by
    have i2 := snd_orT (pos := pos) (AllT.cons h2 r) pur p (fun e => by have := hp e; rw [pus_cons] at this; exact and_r this) (by simp)
    have z := pw_or h i2
    refine ⟨fun wh pins s σ H Q I h => z.run wh pins s σ H Q I ?_⟩
    have i : pur = true → m.pu = true := fun e => by have := hp e; rw [pus_cons] at this; exact and_l this
    refine (tE.bool (q := m.pu) (f1 := ev R G m.pu m) (g := fun d e => if d = true then .ok (.d (.bl true), e) else evOr R G (m2 :: ms) e) (fun e => ?_) i h).post fun x H1 ⟨d, e, z⟩ => ⟨d, e, ?_⟩
    · rw [evOr]
      · congr 1
        funext r
        obtain ⟨y, e2⟩ := r
        cases y with
        | d d => cases d <;> first | rfl | (rename_i b; cases b <;> rfl)
        | _ => rfl
      · simp
    · cases d with
      | false => exact z
      | true =>
        obtain ⟨env, B, F, U, s, w, z⟩ := z
        obtain ⟨c, e, q⟩ := fin s w z (.here w.f (.bl true))
        cases e
        exact q
theorem pw_pt {e : Expr} {t : TT} (h : PW X e t) : PT X e t := ⟨fun pins s σ H Q I z => h.run _ pins s σ H Q I z⟩
end
end PV

/-! Chained comparisons. -/
namespace PV
open PySem PySem.Spec PyProof.Rows L2
section
variable {X : Cx} {E : WX} {k : Nat} {R : Rn} {G : List D} {C : CK} {p0 : Option V} {T : Fx} {p pur q : Bool} {B F H B1 F1 H1 : Hp} {σ : Sl} {Q : VK} {c : CT} {v : V} {u U : List Addr}
/-- two comparands' value; then the rest -/
theorem link {o : O2} {c1 : CT} {x : V} {y : V} {c2 : CT} {env : Env} {g : CT → Res (CT × Env)} (s : SR T.K H F env σ U) (w : WR B F H U) (kx : RP T.K H F c1 x) (ky : RP T.K H F c2 y) (h : Cont T p pur B F H σ ((Res.of (opf o c1 c2)).bd g) Q) :
    rO T.K (opf o) x y H fun z H' => ∃ (c : CT) (F' : Hp) (u U' : List Addr), opf o c1 c2 = some c ∧ Same F F' ∧ Same H H' ∧ RC T.K H' F' c z u ∧ WR B F' H' (u ++ U') ∧ SR T.K H' F' env σ U' ∧ Cont T p pur B F' H' σ (g c) Q := by
  cases ho : opf o c1 c2 with
  | none => rw [ho] at h; exact h.elim
  | some c =>
    rw [ho] at h
    refine ⟨F, c1, c2, c, w.f, kx, ky, ho, fun v H' F' u n => ?_⟩
    obtain ⟨w', g', eq⟩ := w.newR n
    exact ⟨c, F', u, U, rfl, n.gr.s, n.same, n.rc, w', SR.mono n.gr.s s eq, Cont.mono (H1 := H') h (Same.refl _) g' fun _ => n.same⟩
theorem asBl_eq {c : CT} {b : Bool} (h : asBl c = some b) : c = .d (.bl b) := by
  cases c with
  | d x => cases x <;> first | (cases h; done) | (cases h; rfl)
  | _ => cases h
theorem evCh_one {o : O2} {m : ME} {env : Env} : evCh R G q c [o] [m] env = (ev R G q m env).bd fun r => (Res.of (opf o c r.1)).bd fun c => .ok (c, r.2) := by rw [evCh]
theorem evCh_more {o o2 : O2} {os : List O2} {m m2 : ME} {ms : List ME} {env : Env} : evCh R G q c (o :: o2 :: os) (m :: m2 :: ms) env = (ev R G q m env).bd fun r => (Res.of (opf o c r.1)).bd fun z => match asBl z with
    | some b => if b = true then evCh R G q r.1 (o2 :: os) (m2 :: ms) r.2 else .ok (.d (.bl false), r.2)
    | none => .bad := by
  rw [evCh]
  · congr 1
    funext r
    cases opf o c r.1 with
    | none => rfl
    | some z =>
      cases z with
      | d d => cases d <;> first | rfl | (rename_i b; cases b <;> rfl)
      | _ => rfl
  · simp
theorem chain_run {pos : Pos} (hu : X.A.units + 80 < cLine) : ∀ {os : List O2} {ms : List ME} {ps : List CmpOp} {rs : List Expr}, okCs os ps = true → AllE X (rd X E p0) R G ms rs → os.length = ms.length → os ≠ [] → (q = true → ME.pus ms = true) → (pur = true → ME.pus ms = true) → ∀ {pins : List (Addr × Obj)} {s : Shared} {c : CT} {x : V} {a : Value} {H B F : Hp} {env : Env} {U : List Addr},
    L2.Inv X pins σ H s → RelV x a → Kept (rd X E p0) q c x B F H → SR X.K H F env σ U → WR B F H U → Cont (rd X E p0) p pur B F H σ (evCh R G q c os ms env) Q → wpAny (model X.prog X.w) X.A (compareChain pos a ps (evalEach rs X.env)) (EP X pins σ Q) X.xe s
  | [], _, _, _, _, _, _, hn, _, _, pins, s, c, x, a, H, B, F, env, U, I, rx, kx, sr, w, h => absurd rfl hn
  | _ :: _, [], _, _, _, _, hl, _, _, _, pins, s, c, x, a, H, B, F, env, U, I, rx, kx, sr, w, h => by simp at hl
  | [_], _ :: _ :: _, _, _, _, _, hl, _, _, _, pins, s, c, x, a, H, B, F, env, U, I, rx, kx, sr, w, h => by simp at hl
  | _ :: _ :: _, [_], _, _, _, _, hl, _, _, _, pins, s, c, x, a, H, B, F, env, U, I, rx, kx, sr, w, h => by simp at hl
  | [o], [m], [], _, ho, _, _, _, _, _, pins, s, c, x, a, H, B, F, env, U, I, rx, kx, sr, w, h => by simp [okCs] at ho
  | [o], [m], _ :: _ :: _, _, ho, _, _, _, _, _, pins, s, c, x, a, H, B, F, env, U, I, rx, kx, sr, w, h => by simp [okCs] at ho
  | [o], [m], [op], _, ho, .cons (e := e) _ ha .nil, hl, _, hq, hp, pins, s, c, x, a, H, B, F, env, U, I, rx, kx, sr, w, h => by
    have ho : okC o.cmp op = true := by simpa [okCs] using ho
    rw [evCh_one] at h
    have hq1 : q = true → m.pu = true := fun e => by have := hq e; rw [pus_cons] at this; exact and_l this
    have hp1 : pur = true → m.pu = true := fun e => by have := hp e; rw [pus_cons] at this; exact and_l this
    refine chain_last (thn ((ha q hq1).run pins s σ H _ I (seq (q := q) sr w h hp1)) fun b s2 ⟨y, H2, I2, r2, c2, env2, B2, F2, U2, s3, w3, k3, kept3, fs, bs, bh, kk, fe⟩ => ?_)
    refine thn (opC (by omega) (of_decide_eq_true ho) pins s2 σ H2 x y a b _ I2 rx r2 (link s3 w3 (kx H2 F2 fs (bs.trans bh) fun e => kk (hq1 e)) (kept3 H2 F2 (Same.refl _) bh fun _ => Same.refl _) k3)) fun z s4 ⟨zv, H4, I4, r4, c4, F4, u4, U4, _, _, sm, rc, w4, s5, k4⟩ => ⟨zv, H4, I4, r4, ?_⟩
    obtain ⟨u', r', w''⟩ := RV.mk (T := rd X E p0) (p := p) w4 rc
    exact k4 zv H4 F4 U4 u' Gr.refl w'' s5 r' fun _ => Same.refl _
  | o :: o2 :: os, m :: m2 :: ms, [], _, ho, _, _, _, _, _, pins, s, c, x, a, H, B, F, env, U, I, rx, kx, sr, w, h => by simp [okCs] at ho
  | o :: o2 :: os, m :: m2 :: ms, [_], _, ho, _, _, _, _, _, pins, s, c, x, a, H, B, F, env, U, I, rx, kx, sr, w, h => by simp [okCs] at ho
  | o :: o2 :: os, m :: m2 :: ms, op :: op2 :: ops, _, ho, .cons (e := e) _ ha (.cons (e := e2) (es := es) n2 h2 r), hl, _, hq, hp, pins, s, c, x, a, H, B, F, env, U, I, rx, kx, sr, w, h => by
    have ho1 : okC o.cmp op = true := by rw [okCs, Bool.and_eq_true] at ho; exact ho.1
    have ho2 : okCs (o2 :: os) (op2 :: ops) = true := by rw [okCs, Bool.and_eq_true] at ho; exact ho.2
    rw [evCh_more] at h
    have hq1 : q = true → m.pu = true := fun e => by have := hq e; rw [pus_cons] at this; exact and_l this
    have hp1 : pur = true → m.pu = true := fun e => by have := hp e; rw [pus_cons] at this; exact and_l this
    refine chain_link (thn ((ha q hq1).run pins s σ H _ I (seq (q := q) sr w h hp1)) fun b s2 ⟨y, H2, I2, r2, c2, env2, B2, F2, U2, s3, w3, k3, kept3, fs, bs, bh, kk, fe⟩ => ?_)
    refine thn (opC (by omega) (of_decide_eq_true ho1) pins s2 σ H2 x y a b _ I2 rx r2 (link s3 w3 (kx H2 F2 fs (bs.trans bh) fun e => kk (hq1 e)) (kept3 H2 F2 (Same.refl _) bh fun _ => Same.refl _) k3)) fun z s4 ⟨zv, H4, I4, r4, c4, F4, u4, U4, _, f4, sm, rc, w4, s5, k4⟩ => ?_
    have k4 : Cont (rd X E p0) p pur B2 F4 H4 σ (match asBl c4 with
      | some b => if b = true then evCh R G q c2 (o2 :: os) (m2 :: ms) env2 else .ok (.d (.bl false), env2)
      | none => .bad) Q := k4
    cases hb : asBl c4 with
    | none => rw [hb] at k4; exact k4.elim
    | some bb =>
      rw [hb] at k4
      have e4 := asBl_eq hb
      subst e4
      have ez := rc.rp.bl
      subst ez
      cases r4
      refine wpAny_truthy_bool ?_
      have w5 : WR B2 F4 H4 U4 := w4.right
      cases bb with
      | false =>
        refine ite_ff ⟨.bl false, H4, I4, rfl, ?_⟩
        exact fin s5 w5 k4 (.here w5.f (.bl false))
      | true =>
        refine ite_tt ?_
        exact chain_run hu ho2 (.cons n2 h2 r) (by simpa using hl) (by simp) (fun e => by have := hq e; rw [pus_cons] at this; exact and_r this) (fun e => by have := hp e; rw [pus_cons] at this; exact and_r this) I4 r2 (kept3.mono f4 (Same.refl _) fun _ => sm) s5 w5 k4
theorem test_run {pos : Pos} {Qb : Bool → Hp → Prop} (hu : X.A.units + 80 < cLine) : ∀ {os : List O2} {ms : List ME} {ps : List CmpOp} {rs : List Expr}, okCs os ps = true → AllE X (rd X E p0) R G ms rs → os.length = ms.length → os ≠ [] → (q = true → ME.pus ms = true) → (pur = true → ME.pus ms = true) → ∀ {pins : List (Addr × Obj)} {s : Shared} {c : CT} {x : V} {a : Value} {H B F : Hp} {env : Env} {U : List Addr},
    L2.Inv X pins σ H s → RelV x a → Kept (rd X E p0) q c x B F H → SR X.K H F env σ U → WR B F H U → Cont (rd X E p0) p pur B F H σ (evCh R G q c os ms env) (fun x H => ∃ b, x = .bl b ∧ Qb b H) → wpAny (model X.prog X.w) X.A (testChain pos a ps (evalEach rs X.env)) (fun b s' => ∃ H', L2.Inv X pins σ H' s' ∧ Qb b H') X.xe s
  | [], _, _, _, _, _, _, hn, _, _, pins, s, c, x, a, H, B, F, env, U, I, rx, kx, sr, w, h => absurd rfl hn
  | _ :: _, [], _, _, _, _, hl, _, _, _, pins, s, c, x, a, H, B, F, env, U, I, rx, kx, sr, w, h => by simp at hl
  | [_], _ :: _ :: _, _, _, _, _, hl, _, _, _, pins, s, c, x, a, H, B, F, env, U, I, rx, kx, sr, w, h => by simp at hl
  | _ :: _ :: _, [_], _, _, _, _, hl, _, _, _, pins, s, c, x, a, H, B, F, env, U, I, rx, kx, sr, w, h => by simp at hl
  | [o], [m], [], _, ho, _, _, _, _, _, pins, s, c, x, a, H, B, F, env, U, I, rx, kx, sr, w, h => by simp [okCs] at ho
  | [o], [m], _ :: _ :: _, _, ho, _, _, _, _, _, pins, s, c, x, a, H, B, F, env, U, I, rx, kx, sr, w, h => by simp [okCs] at ho
  | [o], [m], [op], _, ho, .cons (e := e) _ ha .nil, hl, _, hq, hp, pins, s, c, x, a, H, B, F, env, U, I, rx, kx, sr, w, h => by
    have ho : okC o.cmp op = true := by simpa [okCs] using ho
    rw [evCh_one] at h
    have hq1 : q = true → m.pu = true := fun e => by have := hq e; rw [pus_cons] at this; exact and_l this
    have hp1 : pur = true → m.pu = true := fun e => by have := hp e; rw [pus_cons] at this; exact and_l this
    refine test_last (thn ((ha q hq1).run pins s σ H _ I (seq (q := q) sr w h hp1)) fun b s2 ⟨y, H2, I2, r2, c2, env2, B2, F2, U2, s3, w3, k3, kept3, fs, bs, bh, kk, fe⟩ => ?_)
    refine thn (opC (by omega) (of_decide_eq_true ho) pins s2 σ H2 x y a b _ I2 rx r2 (link s3 w3 (kx H2 F2 fs (bs.trans bh) fun e => kk (hq1 e)) (kept3 H2 F2 (Same.refl _) bh fun _ => Same.refl _) k3)) fun z s4 ⟨zv, H4, I4, r4, c4, F4, u4, U4, _, _, sm, rc, w4, s5, k4⟩ => ?_
    obtain ⟨u', r', w''⟩ := RV.mk (T := rd X E p0) (p := p) w4 rc
    obtain ⟨d, e, qb⟩ := k4 zv H4 F4 U4 u' Gr.refl w'' s5 r' fun _ => Same.refl _
    subst e
    cases r4
    exact wpAny_truthy_bool ⟨H4, I4, qb⟩
  | o :: o2 :: os, m :: m2 :: ms, [], _, ho, _, _, _, _, _, pins, s, c, x, a, H, B, F, env, U, I, rx, kx, sr, w, h => by simp [okCs] at ho
  | o :: o2 :: os, m :: m2 :: ms, [_], _, ho, _, _, _, _, _, pins, s, c, x, a, H, B, F, env, U, I, rx, kx, sr, w, h => by simp [okCs] at ho
  | o :: o2 :: os, m :: m2 :: ms, op :: op2 :: ops, _, ho, .cons (e := e) _ ha (.cons (e := e2) (es := es) n2 h2 r), hl, _, hq, hp, pins, s, c, x, a, H, B, F, env, U, I, rx, kx, sr, w, h => by
    have ho1 : okC o.cmp op = true := by rw [okCs, Bool.and_eq_true] at ho; exact ho.1
    have ho2 : okCs (o2 :: os) (op2 :: ops) = true := by rw [okCs, Bool.and_eq_true] at ho; exact ho.2
    rw [evCh_more] at h
    have hq1 : q = true → m.pu = true := fun e => by have := hq e; rw [pus_cons] at this; exact and_l this
    have hp1 : pur = true → m.pu = true := fun e => by have := hp e; rw [pus_cons] at this; exact and_l this
    refine test_link (thn ((ha q hq1).run pins s σ H _ I (seq (q := q) sr w h hp1)) fun b s2 ⟨y, H2, I2, r2, c2, env2, B2, F2, U2, s3, w3, k3, kept3, fs, bs, bh, kk, fe⟩ => ?_)
    refine thn (opC (by omega) (of_decide_eq_true ho1) pins s2 σ H2 x y a b _ I2 rx r2 (link s3 w3 (kx H2 F2 fs (bs.trans bh) fun e => kk (hq1 e)) (kept3 H2 F2 (Same.refl _) bh fun _ => Same.refl _) k3)) fun z s4 ⟨zv, H4, I4, r4, c4, F4, u4, U4, _, f4, sm, rc, w4, s5, k4⟩ => ?_
    have k4 : Cont (rd X E p0) p pur B2 F4 H4 σ (match asBl c4 with
      | some b => if b = true then evCh R G q c2 (o2 :: os) (m2 :: ms) env2 else .ok (.d (.bl false), env2)
      | none => .bad) _ := k4
    cases hb : asBl c4 with
    | none => rw [hb] at k4; exact k4.elim
    | some bb =>
      rw [hb] at k4
      have e4 := asBl_eq hb
      subst e4
      have ez := rc.rp.bl
      subst ez
      cases r4
      refine wpAny_truthy_bool ?_
      have w5 : WR B2 F4 H4 U4 := w4.right
      cases bb with
      | false =>
        obtain ⟨d, e, qb⟩ := fin s5 w5 k4 (.here w5.f (.bl false))
        cases e
        exact ite_ff ⟨H4, I4, qb⟩
      | true =>
        refine ite_tt ?_
        exact test_run hu ho2 (.cons n2 h2 r) (by simpa using hl) (by simp) (fun e => by have := hq e; rw [pus_cons] at this; exact and_r this) (fun e => by have := hp e; rw [pus_cons] at this; exact and_r this) I4 r2 (kept3.mono f4 (Same.refl _) fun _ => sm) s5 w5 k4
theorem okCs_len : ∀ {os : List O2} {ps : List CmpOp}, okCs os ps = true → os.length = ps.length
  | [], [], _ => rfl
  | _ :: _, _ :: _, h => by rw [okCs, Bool.and_eq_true] at h; rw [List.length_cons, List.length_cons, okCs_len h.2]
  | [], _ :: _, h => by simp [okCs] at h
  | _ :: _, [], h => by simp [okCs] at h
theorem snd_chain {a : ME} {os : List O2} {ms : List ME} {l : Expr} {ps : List CmpOp} {rs : List Expr} {pos : Pos} (hu : X.A.units + 80 < cLine) (ha : SE X (rd X E p0) R G a l) (hr : AllE X (rd X E p0) R G ms rs) (ho : okCs os ps = true) (h2 : 2 ≤ ps.length) (hl : ps.length = rs.length) (hm : lastMarks ps rs = false) :
    SE X (rd X E p0) R G (.chain a os ms) (.Compare l ps rs pos) := fun p hp => by
  have hlen : os.length = ms.length := by rw [okCs_len ho, hl, hr.len]
  match ps, rs, h2, hl, ho, hm, hr with
  | op1 :: op2 :: ops, r1 :: r2 :: rs, _, _, ho, hm, hr =>
    refine ⟨fun pins s σ H Q I h => ?_⟩
    obtain ⟨env, B, F, U, sr, w, h⟩ := h
    rw [ev] at h
    refine Compare_chain (thn ((ha _ and_l).run pins s σ H _ I (seq (q := a.pu && ME.pus ms) sr w h (fun e => by rw [ME.pu] at e; exact and_l e))) fun b s2 ⟨y, H2, I2, r2, c2, env2, B2, F2, U2, s3, w3, k3, kept3, fs, bs, bh, kk, fe⟩ => ?_) hm
    exact chain_run (q := a.pu && ME.pus ms) hu ho hr hlen (by intro z; subst z; simp [okCs] at ho) and_r (fun e => and_r (by rw [ME.pu] at e; exact e)) I2 r2 kept3 s3 w3 k3
theorem snd_chainT {a : ME} {os : List O2} {ms : List ME} {l : Expr} {ps : List CmpOp} {rs : List Expr} {pos : Pos} (hu : X.A.units + 80 < cLine) (ha : SE X (rd X E p0) R G a l) (hr : AllE X (rd X E p0) R G ms rs) (ho : okCs os ps = true) (h2 : 2 ≤ ps.length) (hl : ps.length = rs.length) (hm : lastMarks ps rs = false) :
    ST X (rd X E p0) R G (.chain a os ms) (.Compare l ps rs pos) := by
  have hlen : os.length = ms.length := by rw [okCs_len ho, hl, hr.len]
  match ps, rs, h2, hl, ho, hm, hr with
  | op1 :: op2 :: ops, r1 :: r2 :: rs, _, _, ho, hm, hr =>
    refine ⟨fun pins s σ H Q I h => ?_⟩
    obtain ⟨env, B, F, U, sr, w, h⟩ := h
    rw [ev] at h
    refine isTrue_chain (thn ((ha _ and_l).run pins s σ H _ I (seq (q := a.pu && ME.pus ms) sr w h (fun e => by rw [ME.pu] at e; exact and_l e))) fun b s2 ⟨y, H2, I2, r2, c2, env2, B2, F2, U2, s3, w3, k3, kept3, fs, bs, bh, kk, fe⟩ => ?_) hm
    exact test_run (q := a.pu && ME.pus ms) hu ho hr hlen (by intro z; subst z; simp [okCs] at ho) and_r (fun e => and_r (by rw [ME.pu] at e; exact e)) I2 r2 kept3 s3 w3 k3
end
end PV

/-! Names, subscripts, slices, isinstance, built-ins. -/
namespace PV
open PySem PySem.Spec PyProof.Rows L2
section
variable {X : Cx} {E : WX} {k : Nat} {R : Rn} {G : List D} {C : CK} {p0 : Option V} {T : Fx} {p pur q : Bool} {B F H B1 F1 H1 : Hp} {σ : Sl} {Q : VK} {c : CT} {v : V} {u U : List Addr}
theorem snd_var {i : Nat} {e : Expr} (h : nameIs X.env.scope X.N i e = true) : SE X (rd X E p0) R G (.var i) e := fun p _ =>
  (pe_nm h).imp fun σ H Q z => tE.var (fun env => by rw [ev] <;> (cases env.get i <;> rfl)) z
theorem snd_take {i : Nat} {e : Expr} (h : nameIs X.env.scope X.N i e = true) : SE X (rd X E p0) R G (.take i) e := fun p _ =>
  (pe_nm h).imp fun σ H Q z => tE.take (fun env => by rw [ev] <;> (cases env.get i <;> rfl)) z
theorem snd_fr {a : ME} {e : Expr} (h : SE X (rd X E p0) R G a e) : SE X (rd X E p0) R G (.fr a) e := fun p hp => by
  have hp : p = true → a.pu = true := fun e => by have := hp e; rw [ME.pu] at this; exact this
  refine (h p hp).imp fun σ H Q z => ?_
  obtain ⟨env, B, F, U, s, w, z⟩ := z
  refine ⟨env, B, F, U, s, w, ?_⟩
  rw [ev] at z
  rw [ME.pu] at z
  cases e : ev R G p a env with
  | ok r =>
    rw [e] at z
    intro v H' F' U' u g1 w1 s1 r1 k1
    cases p with
    | true => exact z v H' F' U' u g1 w1 s1 r1 k1
    | false =>
      obtain ⟨wg, gg⟩ := w1.grown
      have fr := RC.freeze w1 r1.cc
      exact z v H' (grown F' H' u) U' [] (g1.trans gg) wg (SR.mono gg.s s1 fun _ _ => rfl) (RV.mkC (.d fr)) k1
  | exc c x => rw [e] at z; exact z
  | bad => rw [e] at z; exact z
theorem plainIx {b : Expr} (h : (!(isSlice b)) = true) : PlainIx b := by
  intro o i
  cases b <;> first | rfl | exact Bool.noConfusion h
theorem snd_idx {a i : ME} {l r : Expr} {pos : Pos} (ha : SE X (rd X E p0) R G a l) (hb : SE X (rd X E p0) R G i r) (hs : (!(isSlice r)) = true) : SE X (rd X E p0) R G (.idx a i) (.Subscript l r pos) := fun p _ => by
  refine (pe_ix ix_at (ha (a.pu && i.pu) and_l) (hb (a.pu && i.pu) and_r) (plainIx hs)).imp fun σ H Q h => ?_
  obtain ⟨env, B, F, U, s, w, h⟩ := h
  rw [ev] at h
  obtain ⟨env', B', F', U', s', w', h'⟩ := seq (q := a.pu && i.pu) (pu1 := a.pu) s w h (fun e => by rw [ME.pu] at e; exact and_l e)
  refine ⟨env', B', F', U', s', w', ?_⟩
  revert h'
  cases e : ev R G (a.pu && i.pu) a env' with
  | ok r =>
    intro h' v1 H1 Fa Ua ua ga wa sa ra ka
    obtain ⟨c1, env1, B1, F1, U1, s1, w1, k1, kept1, fs, bs, bh, kk, fe⟩ := h' v1 H1 Fa Ua ua ga wa sa ra ka
    obtain ⟨env2, B2, F2, U2, s2, w2, h2'⟩ := seq (q := a.pu && i.pu) (pu1 := i.pu) s1 w1 k1 (fun e => by rw [ME.pu] at e; exact and_r e)
    refine ⟨env2, B2, F2, U2, s2, w2, ?_⟩
    revert h2'
    cases e2 : ev R G (a.pu && i.pu) i env2 with
    | ok r2 =>
      intro h2' v2 H2 Fb Ub ub gb wb sb rb kb
      obtain ⟨c2, env3, B3, F3, U3, s3, w3, k3, kept3, fs3, bs3, bh3, kk3, fe3⟩ := h2' v2 H2 Fb Ub ub gb wb sb rb kb
      have r1 : RP X.K H2 F3 c1 v1 := kept1 H2 F3 fs3 (bs3.trans bh3) (fun e => kk3 (and_r e))
      have r2 : RP X.K H2 F3 c2 v2 := kept3 H2 F3 (Same.refl _) bh3 (fun _ => Same.refl _)
      have k3 : Cont (rd X E p0) p (ME.idx a i).pu B3 F3 H2 σ (match (generalizing := false) c2 with
        | .d (.int k) => match (generalizing := false) c1.at k with
          | some (.d x) => .ok (.d x, env3)
          | some c => if p then .ok (c, env3) else .bad
          | none => .bad
        | _ => .bad) Q := k3
      cases c2 with
      | d d =>
        cases d with
        | int n =>
          have k3 : Cont (rd X E p0) p (ME.idx a i).pu B3 F3 H2 σ (match (generalizing := false) c1.at n with
            | some (.d x) => .ok (.d x, env3)
            | some c => if p then .ok (c, env3) else .bad
            | none => .bad) Q := k3
          cases hc : c1.at n with
          | none => rw [hc] at k3; exact k3.elim
          | some r =>
            rw [hc] at k3
            refine ⟨F3, c1, n, r, w3.f, r1, r2.int, hc, fun v rv => ?_⟩
            have other : (∀ x, r ≠ .d x) → Cont (rd X E p0) p (ME.idx a i).pu B3 F3 H2 σ (if p then .ok (r, env3) else .bad) Q → Q v H2 := fun _ k4 => by
              cases p with
              | true => exact k4 v H2 F3 U3 [] Gr.refl w3 s3 (RV.mkP rv) fun _ => Same.refl _
              | false => exact k4.elim
            cases r with
            | d x =>
              cases rv with
              | d rd' => exact fin s3 w3 k3 (.here w3.f rd')
            | l cs => exact other (fun x h => by cases h) k3
            | t cs => exact other (fun x h => by cases h) k3
        | _ => exact k3.elim
      | _ => exact k3.elim
    | exc c x => intro h; exact h
    | bad => intro h; exact h
  | exc c x => intro h; exact h
  | bad => intro h; exact h
/-! ### slices -/
def SO (X : Cx) (T : Fx) (R : Rn) (G : List D) (m : ME) (o : Option Expr) : Prop := (m = .lit .non ∧ o = none) ∨ ∃ x, o = some x ∧ SE X T R G m x ∧ partOf m = asPart
theorem SO.po {m : ME} {o : Option Expr} (h : SO X (rd X E p0) R G m o) (hq : q = true → m.pu = true) : PO X o (fun σ H Q => tE (rd X E p0) q m.pu (ev R G q m) σ H fun x H1 => ∃ F c l, RP X.K H1 F c x ∧ partOf m c = some l ∧ Q l H1) := by
  rcases h with ⟨rfl, rfl⟩ | ⟨x, rfl, h, hm⟩
  · refine ⟨fun pins s σ H Q I z => po_none.run pins s σ H Q I ?_⟩
    obtain ⟨env, B, F, U, s, w, z⟩ := z
    rw [ev] at z
    obtain ⟨F, c, l, rp, hl, qq⟩ := fin s w z (.here w.f .non)
    have e : none = l := Option.some.inj hl
    subst e
    exact qq
  · refine ⟨fun pins s σ H Q I z => (po_some (h q hq)).run pins s σ H Q I ?_⟩
    refine tE.post z fun x H1 ⟨F, c, l, rp, hl, qq⟩ => ?_
    rw [hm] at hl
    cases c with
    | d d =>
      cases d with
      | int i =>
        have e : some i = l := Option.some.inj hl
        subst e
        exact ⟨i, rp.int, qq⟩
      | _ => cases hl
    | _ => cases hl
theorem snd_slc {a lo hi : ME} {l : Expr} {ol oh : Option Expr} {pos p2 : Pos} (ha : SE X (rd X E p0) R G a l) (hl : SO X (rd X E p0) R G lo ol) (hh : SO X (rd X E p0) R G hi oh) : SE X (rd X E p0) R G (.slc a lo hi) (.Subscript l (.Slice ol oh none p2) pos) := fun p _ => by
  refine (pe_slice sl_cut (ha (a.pu && (lo.pu && hi.pu)) and_l) (hl.po (q := a.pu && (lo.pu && hi.pu)) fun e => and_l (and_r e)) (hh.po (q := a.pu && (lo.pu && hi.pu)) fun e => and_r (and_r e))).imp fun σ H Q h => ?_
  obtain ⟨env, B, F, U, s, w, h⟩ := h
  rw [ev] at h
  obtain ⟨env', B', F', U', s', w', h'⟩ := seq (q := a.pu && (lo.pu && hi.pu)) (pu1 := a.pu) s w h (fun e => by rw [ME.pu] at e; exact and_l e)
  refine ⟨env', B', F', U', s', w', ?_⟩
  revert h'
  cases e : ev R G (a.pu && (lo.pu && hi.pu)) a env' with
  | ok r =>
    intro h' v1 H1 Fa Ua ua ga wa sa ra ka
    obtain ⟨c1, env1, B1, F1, U1, s1, w1, k1, kept1, fs, bs, bh, kk, fe⟩ := h' v1 H1 Fa Ua ua ga wa sa ra ka
    obtain ⟨env2, B2, F2, U2, s2, w2, h2'⟩ := seq (q := a.pu && (lo.pu && hi.pu)) (pu1 := lo.pu) s1 w1 k1 (fun e => by rw [ME.pu] at e; exact and_l (and_r e))
    refine ⟨env2, B2, F2, U2, s2, w2, ?_⟩
    revert h2'
    cases e2 : ev R G (a.pu && (lo.pu && hi.pu)) lo env2 with
    | ok r2 =>
      intro h2' v2 H2 Fb Ub ub gb wb sb rb kb
      obtain ⟨c2, env3, B3, F3, U3, s3, w3, k3, kept3, fs3, bs3, bh3, kk3, fe3⟩ := h2' v2 H2 Fb Ub ub gb wb sb rb kb
      have r2 : RP X.K H2 F3 c2 v2 := kept3 H2 F3 (Same.refl _) bh3 (fun _ => Same.refl _)
      have k3 : Cont (rd X E p0) p (ME.slc a lo hi).pu B3 F3 H2 σ ((Res.of (partOf lo c2)).bd fun l => (ev R G (a.pu && (lo.pu && hi.pu)) hi env3).bd fun z => (Res.of (partOf hi z.1)).bd fun h => (Res.of (slcf c1 l h)).bd fun c => .ok (c, z.2)) Q := k3
      cases e3 : partOf lo c2 with
      | none => rw [e3] at k3; exact k3.elim
      | some ll =>
        rw [e3] at k3
        have k3 : Cont (rd X E p0) p (ME.slc a lo hi).pu B3 F3 H2 σ ((ev R G (a.pu && (lo.pu && hi.pu)) hi env3).bd fun z => (Res.of (partOf hi z.1)).bd fun h => (Res.of (slcf c1 ll h)).bd fun c => .ok (c, z.2)) Q := k3
        obtain ⟨env4, B4, F4, U4, s4, w4, h4'⟩ := seq (q := a.pu && (lo.pu && hi.pu)) (pu1 := hi.pu) s3 w3 k3 (fun e => by rw [ME.pu] at e; exact and_r (and_r e))
        refine ⟨F3, c2, ll, r2, e3, env4, B4, F4, U4, s4, w4, ?_⟩
        revert h4'
        cases e4 : ev R G (a.pu && (lo.pu && hi.pu)) hi env4 with
        | ok r4 =>
          intro h4' v5 H5 Fc Uc uc gc wc sc rc kc
          obtain ⟨c5, env5, B5, F5, U5, s5, w5, k5, kept5, fs5, bs5, bh5, kk5, fe5⟩ := h4' v5 H5 Fc Uc uc gc wc sc rc kc
          have r5 : RP X.K H5 F5 c5 v5 := kept5 H5 F5 (Same.refl _) bh5 (fun _ => Same.refl _)
          have r1 : RP X.K H5 F5 c1 v1 := kept1 H5 F5 (fs3.trans fs5) (bs3.trans (bs5.trans bh5)) (fun e => (kk3 (and_l (and_r e))).trans (kk5 (and_r (and_r e))))
          have k5 : Cont (rd X E p0) p (ME.slc a lo hi).pu B5 F5 H5 σ ((Res.of (partOf hi c5)).bd fun h => (Res.of (slcf c1 ll h)).bd fun c => .ok (c, env5)) Q := k5
          cases e6 : partOf hi c5 with
          | none => rw [e6] at k5; exact k5.elim
          | some hh =>
            rw [e6] at k5
            have k5 : Cont (rd X E p0) p (ME.slc a lo hi).pu B5 F5 H5 σ ((Res.of (slcf c1 ll hh)).bd fun c => .ok (c, env5)) Q := k5
            cases e7 : slcf c1 ll hh with
            | none => rw [e7] at k5; exact k5.elim
            | some cc =>
              rw [e7] at k5
              exact ⟨F5, c5, hh, r5, e6, F5, c1, cc, w5.f, r1, e7, fun v H' F' u n => fin s5 w5 k5 n⟩
        | exc c x => intro h; exact h
        | bad => intro h; exact h
    | exc c x => intro h; exact h
    | bad => intro h; exact h
  | exc c x => intro h; exact h
  | bad => intro h; exact h
end
end PV

/-! isinstance, built-ins. -/
namespace PV
open PySem PySem.Spec PyProof.Rows L2
section
variable {X : Cx} {E : WX} {k : Nat} {R : Rn} {G : List D} {C : CK} {p0 : Option V} {T : Fx} {p pur q : Bool} {B F H B1 F1 H1 : Hp} {σ : Sl} {Q : VK} {c : CT} {v : V} {u U : List Addr}
/-- one operand, a new value -/
theorem tE.one2 {g : CT → Option CT} {f f1 : Env → Res (CT × Env)} {pu1 : Bool} (hf : ∀ e, f e = (f1 e).bd fun r => (Res.of (g r.1)).bd fun c => .ok (c, r.2)) (h1 : pur = true → pu1 = true) (h : tE T p pur f σ H Q) :
    tE T q pu1 f1 σ H fun x H1 => ∃ F c d, Same F H1 ∧ RP T.K H1 F c x ∧ g c = some d ∧ ∀ v H' F' u, NewR T.K H1 F H' F' d v u → Q v H' := by
  obtain ⟨env, B, F, U, s, w, h⟩ := h
  rw [hf] at h
  obtain ⟨env', B', F', U', s', w', h'⟩ := seq (q := q) s w h h1
  refine ⟨env', B', F', U', s', w', ?_⟩
  revert h'
  cases e : f1 env' with
  | ok r =>
    intro h' v1 H1 Fa Ua ua ga wa sa ra ka
    obtain ⟨c1, env1, B1, F1, U1, s1, w1, k1, kept1, fs, bs, bh, kk, fe⟩ := h' v1 H1 Fa Ua ua ga wa sa ra ka
    have k1 : Cont T p pur B1 F1 H1 σ ((Res.of (g c1)).bd fun c => .ok (c, env1)) Q := k1
    cases hg : g c1 with
    | none => rw [hg] at k1; exact k1.elim
    | some d =>
      rw [hg] at k1
      exact ⟨F1, c1, d, w1.f, kept1 H1 F1 (Same.refl _) bh (fun _ => Same.refl _), hg, fun v H' F' u n => fin s1 w1 k1 n⟩
  | exc c x => intro h; exact h
  | bad => intro h; exact h
theorem ty_boot (t : TyN) : bootBuiltins (t.nm : String) = some (.type t.nm) := by cases t <;> rfl
theorem ty_in (t : TyN) : ((t.nm : String) : Str) ∈ bnames := by cases t <;> decide
theorem pe_ty (g : Good X E k R G C) {t : TyN} {e : Expr} (h : tyC X.env.scope t e = true) : PE X e (tC (.ty t.nm)) ∧ notStar e = true := by
  cases e <;> first | exact Bool.noConfusion h | skip
  rename_i x p
  have h : (decide (x = (t.nm : String)) && glC X.env.scope x) = true := h
  rw [Bool.and_eq_true] at h
  have e := of_decide_eq_true h.1
  subst e
  refine ⟨pe_bltn (glC_ok h.2) (g.bl _ (ty_in t)) (ty_boot t) rfl ?_ ?_, rfl⟩
  · cases t <;> decide
  · cases t <;> decide
theorem pa_tys (g : Good X E k R G C) : ∀ {ts : List TyN} {es : List Expr}, tysC X.env.scope ts es = true → PA X es (fun σ H Q => Q (ts.map fun t => .ty t.nm) H)
  | [], [], _ => pa_nil.imp fun σ H Q q => q
  | t :: ts, e :: es, h => by
    rw [tysC, Bool.and_eq_true] at h
    obtain ⟨h1, h2⟩ := pe_ty g h.1
    exact (pa_cons h1 (pa_tys g h.2) (star_cons h2 es)).imp fun σ H Q q => q
  | [], _ :: _, h => by simp [tysC] at h
  | _ :: _, [], h => by simp [tysC] at h
theorem isi_boot : bootBuiltins "isinstance" = some (.builtin "isinstance") := rfl
theorem blt1_ok (g : Good X E k R G C) {n : Str} {e : Expr} (h : blt1 X.env.scope n e = true) : ∃ p, e = .Name n p ∧ Gl X n ∧ X.mg n = none := by
  cases e <;> first | exact Bool.noConfusion h | skip
  rename_i x p
  have h : (decide (x = n) && (glC X.env.scope x && decide (n ∈ bnames))) = true := h
  rw [Bool.and_eq_true, Bool.and_eq_true] at h
  obtain ⟨h1, h2, h3⟩ := h
  have e := of_decide_eq_true h1
  subst e
  exact ⟨p, rfl, glC_ok h2, g.bl _ (of_decide_eq_true h3)⟩
theorem cls_pair : ∀ ts : List TyN, Paired ClsV (ts.map fun t => V.ty t.nm) (ts.map fun t => .type t.nm)
  | [] => .nil
  | t :: ts => .cons (.ty _) (cls_pair ts)
theorem tyx_any {K : PySem.W.Frag} {d : D} : ∀ {ts : List TyN} {b : Bool}, isif ts d = some b → ts ≠ [] → ∃ (t : TyN) (b : Bool), tyIs t d = some b
  | [], _, _, h => absurd rfl h
  | [t], b, h, _ => ⟨t, b, h⟩
  | t :: t2 :: ts, b, h, _ => by
    rw [isif] at h
    · cases e : tyIs t d with
      | some b => exact ⟨t, b, e⟩
      | none => rw [e] at h; cases h
    · simp
theorem snd_isi (g : Good X E k R G C) {a : ME} {ts : List TyN} {f x t : Expr} {pos : Pos} (ha : SE X (rd X E p0) R G a x) (hf : blt1 X.env.scope "isinstance" f = true) (hx : notStar x = true) (ht : tyArg X.env.scope ts t = true) : SE X (rd X E p0) R G (.isi a ts) (.Call f [x, t] [] pos) := fun p _ => by
  obtain ⟨fp, rfl, gl, hm⟩ := blt1_ok g hf
  have hf : ∀ e, ev R G p (.isi a ts) e = (ev R G a.pu a e).bd fun r => (Res.of ((isif ts r.1.frz).map fun b => CT.d (.bl b))).bd fun c => .ok (c, r.2) := fun e => by
    rw [ev]; congr 1; funext r; cases isif ts r.1.frz <;> rfl
  have one : ∀ {t1 : TyN}, ts = [t1] → tyC X.env.scope t1 t = true → PE X (.Call (.Name "isinstance" fp) [x, t] [] pos) (tE (rd X E p0) p (ME.isi a ts).pu (ev R G p (.isi a ts))) := fun {t1} ets h1 => by
    obtain ⟨h1, h2⟩ := pe_ty g h1
    refine (pe_callB call_isi gl hm isi_boot (pa_cons ha.self (pa_cons h1 pa_nil (star_cons h2 [])) (star_cons hx _)) (by decide) (by decide) (star_cons hx _) (by rw [star_cons h2]; rfl)).imp fun σ H Q h => ?_
    refine tE.post (tE.one2 (q := a.pu) (pu1 := a.pu) (g := fun c => (isif ts c.frz).map fun b => CT.d (.bl b)) hf (fun e => by rw [ME.pu] at e; exact e) h) fun y H1 ⟨F, c, d, f, rp, hg, q⟩ => ?_
    cases hi : isif ts c.frz with
    | none => have hg : (isif ts c.frz).map (fun b => CT.d (.bl b)) = some d := hg; rw [hi] at hg; cases hg
    | some b =>
      have hg : (isif ts c.frz).map (fun b => CT.d (.bl b)) = some d := hg
      rw [hi] at hg
      cases hg
      rw [ets] at hi
      have hi : tyIs t1 c.frz = some b := hi
      exact ⟨y, .ty t1.nm, .type c.frz.ty, .type t1.nm, b, rfl, .ty _, tyx_of (Same.refl _) (rp.frz f) hi, kit_is hi, q _ _ _ _ (.here f (.bl b))⟩
  cases t with
  | Tuple es n tp =>
    have ht : (tysC X.env.scope ts es && decide (1 < ts.length ∧ ts.length < 10)) = true := ht
    rw [Bool.and_eq_true] at ht
    have hl := of_decide_eq_true ht.2
    have pt := pe_tup (x1 := n) (pos := tp) (pa_tys g ht.1)
    refine (pe_callB call_isiT gl hm isi_boot (pa_cons ha.self (pa_cons pt pa_nil) (star_cons hx _)) (by decide) (by decide) (star_cons hx _) (by rfl)).imp fun σ H Q h => ?_
    refine tE.post (tE.one2 (q := a.pu) (pu1 := a.pu) (g := fun c => (isif ts c.frz).map fun b => CT.d (.bl b)) hf (fun e => by rw [ME.pu] at e; exact e) h) fun y H1 ⟨F, c, d, f, rp, hg, q⟩ => ?_
    refine ⟨size_le (by rw [List.length_map]; omega), fun ad na => ?_⟩
    cases hi : isif ts c.frz with
    | none => have hg : (isif ts c.frz).map (fun b => CT.d (.bl b)) = some d := hg; rw [hi] at hg; cases hg
    | some b =>
      have hg : (isif ts c.frz).map (fun b => CT.d (.bl b)) = some d := hg
      rw [hi] at hg
      cases hg
      have sm : Same H1 (upd H1 ad (.tup (ts.map fun t => V.ty t.nm))) := new_same na
      have ne : ts ≠ [] := by rintro rfl; simp at hl
      obtain ⟨t1, b1, h1⟩ := tyx_any (K := X.K) hi ne
      refine ⟨y, ad, ts.map fun t => V.ty t.nm, .type c.frz.ty, ts.map fun t => .type t.nm, b, rfl, upd_same, cls_pair ts, tyx_of (Same.refl _) ((rp.frz f).mono sm) h1, kits_is hi ne, q _ _ F _ ⟨sm, Gr.refl, f.trans sm, .d (.bl b), List.nodup_nil, fun _ m => by cases m⟩⟩
  | _ =>
    match ts, ht with
    | [t1], ht => exact one rfl ht
theorem snd_bi (g : Good X E k R G C) {b : BI} {es : List ME} {x : Expr} {xs : List Expr} {n : Str} {np pos : Pos} (ha : AllE X (rd X E p0) R G es (x :: xs)) (hb : (b.isTy || b.isFn) = true) (hf : blt1 X.env.scope b.nm (.Name n np) = true) : SE X (rd X E p0) R G (.bi b es) (.Call (.Name n np) (x :: xs) [] pos) := fun p _ => by
  obtain ⟨fp, e, gl, hm⟩ := blt1_ok g hf
  have en : n = (b.nm : String) := by injection e
  subst en
  have st : notStar x = true := by have := ha.star; rw [List.all_cons] at this; exact and_l this
  have st2 : (xs.all notStar) = true := by have := ha.star; rw [List.all_cons] at this; exact and_r this
  have pa := ha.pa (p := ME.pus es) id
  have fin : ∀ σ H Q, tE (rd X E p0) p (ME.bi b es).pu (ev R G p (.bi b es)) σ H Q → tCB (rB X.K b) (tEs (rd X E p0) (ME.pus es) (ME.pus es) (evs R G (ME.pus es) es)) σ H Q := fun σ H Q h =>
    tE.many (fun e => by rw [ev]) (fun e => by rw [ME.pu] at e; exact e) h
  cases b <;> first | exact Bool.noConfusion hb | skip
  · exact (pe_callB cb_len gl hm rfl pa (by decide) (by decide) (star_cons st _) (star_plain st2)).imp fin
  · exact (pe_callB cb_abs gl hm rfl pa (by decide) (by decide) (star_cons st _) (star_plain st2)).imp fin
  · exact (pe_callTy cb_int gl hm rfl pa (by decide) (by decide) (star_cons st _) (star_plain st2)).imp fin
  · exact (pe_callB (cb_all g.calm) gl hm rfl pa (by decide) (by decide) (star_cons st _) (star_plain st2)).imp fin
  · exact (pe_callB (cb_any g.calm) gl hm rfl pa (by decide) (by decide) (star_cons st _) (star_plain st2)).imp fin
  · exact (pe_callB (cb_sum g.calm) gl hm rfl pa (by decide) (by decide) (star_cons st _) (star_plain st2)).imp fin
  · exact (pe_callB (cb_max g.calm) gl hm rfl pa (by decide) (by decide) (star_cons st _) (star_plain st2)).imp fin
  · exact (pe_callB (cb_repr g.gd g.hu) gl hm rfl pa (by decide) (by decide) (star_cons st _) (star_plain st2)).imp fin
  · exact (pe_callTy cb_list gl hm rfl pa (by decide) (by decide) (star_cons st _) (star_plain st2)).imp fin
  · exact (pe_callTy cb_range gl hm rfl pa (by decide) (by decide) (star_cons st _) (star_plain st2)).imp fin
theorem snd_blen {a : ME} {o : Str} {op ap cp : Pos} (ha : SE X (rd X E p0) R G a (.Name o op)) (hl : (ap.endLine == cp.line) = true) : SE X (rd X E p0) R G (.bi .blen [a]) (.Call (.Attribute (.Name o op) "bit_length" ap) [] [] cp) := fun p _ => by
  refine (pe_bits ha.self rfl hl).imp fun σ H Q h => ?_
  have hb : ∀ e, ev R G p (.bi .blen [a]) e = (ev R G a.pu a e).bd fun r => (Res.of (bltf .blen [r.1])).bd fun c => .ok (c, r.2) := fun e => by
    rw [ev]
    have e1 : ME.pus [a] = a.pu := by rw [ME.pus, ME.pus, Bool.and_true]
    rw [e1, evs]
    cases ev R G a.pu a e with
    | ok r => show ((evs R G a.pu [] r.2).bd fun q => Res.ok (r.1 :: q.1, q.2)).bd _ = _; rw [evs]; rfl
    | exc c x => rfl
    | bad => rfl
  refine tE.post (tE.one2 (q := a.pu) (pu1 := a.pu) (g := fun c => bltf .blen [c]) hb (fun e => by rw [ME.pu, ME.pus, ME.pus, Bool.and_true] at e; exact e) h) fun y H1 ⟨F, c, d, f, rp, hg, q⟩ => ?_
  cases c with
  | d x =>
    cases x with
    | int i =>
      obtain ⟨g, rfl⟩ := guardP_some (show guardP _ _ = some d from hg)
      exact ⟨i, rp.int, q _ _ _ _ (.here f (.int _))⟩
    | _ => cases hg
  | _ => cases hg
end
end PV

/-! Sources of loops. -/
namespace PV
open PySem PySem.Spec PyProof.Rows L2
section
variable {X : Cx} {E : WX} {k : Nat} {R : Rn} {G : List D} {C : CK} {p0 : Option V} {T : Fx} {p pur q : Bool} {B F H B1 F1 H1 : Hp} {σ : Sl} {Q : VK} {c : CT} {v : V} {u U : List Addr}
/-- a source is walked as the evaluator says -/
def SI (X : Cx) (T : Fx) (R : Rn) (G : List D) (m : ME) (tg e : Expr) : Prop := ∀ q, (q = true → m.pu = true) → PI X tg e (tI T q m.pu (ev R G q m))
theorem dAll_frz : ∀ {cs : List CT} {xs : List D}, dAll cs = some xs → CT.frzs cs = xs
  | [], xs, h => Option.some.inj h
  | .d x :: r, xs, h => by
    rw [dAll] at h
    cases e : dAll r with
    | none => rw [e] at h; cases h
    | some ys =>
      rw [e] at h
      have e2 : x :: ys = xs := Option.some.inj h
      subst e2
      rw [CT.frzs, CT.frz, dAll_frz e]
  | .l _ :: _, _, h => by cases h
  | .t _ :: _, _, h => by cases h
theorem lels_frz {xs : List D} (h : c.lels = some xs) : (CT.d c.frz).lels = some xs := by
  cases c with
  | d x => exact h
  | l cs =>
    have h : dAll cs = some xs := h
    rw [CT.frz, dAll_frz h]; rfl
  | t cs => cases h
theorem tels_frz {xs : List D} (h : c.tels = some xs) : (CT.d c.frz).tels = some xs := by
  cases c with
  | d x => exact h
  | t cs =>
    have h : dAll cs = some xs := h
    rw [CT.frz, dAll_frz h]; rfl
  | l cs => cases h
theorem walk_frz {xs : List D} (h : c.walk = some xs) : (CT.d c.frz).walk = some xs := by
  cases c with
  | d x => exact h
  | l cs =>
    have h : (match (CT.l cs).lels with
      | some xs => some xs
      | none => (CT.l cs).tels) = some xs := h
    cases e : (CT.l cs).lels with
    | none => rw [e] at h; cases h
    | some ys =>
      rw [e] at h
      have := lels_frz e
      rw [CT.frz] at this ⊢
      show (match (CT.d (.lst (CT.frzs cs))).lels with
        | some xs => some xs
        | none => (CT.d (.lst (CT.frzs cs))).tels) = some xs
      rw [this]; exact h
  | t cs =>
    have h : (CT.t cs).tels = some xs := h
    have := tels_frz h
    rw [CT.frz] at this ⊢
    exact this
/-- a list, a tuple or a range that an expression gives -/
def iAny (K : PySem.W.Frag) (te : TE) : TI := fun σ H R => te σ H fun x H1 => (∃ a, x = .ref a ∧ (∃ xs, SqL K H1 a xs) ∧ R (Itl K a) H1) ∨ (∃ a, x = .ref a ∧ (∃ xs, SqT K H1 a xs) ∧ R (Itt K a) H1) ∨ ∃ a lo hi, x = .ref a ∧ H1 a = some (.rng lo hi) ∧ smallR lo ∧ smallR hi ∧ R (Itr lo (hi - lo).toNat) H1
theorem pi_anyv {tg e : Expr} {te : TE} (he : PE X e te) : PI X tg e (iAny X.K te) := by
  refine ⟨fun pins s σ H R I h => ?_⟩
  refine thn (he.run pins s σ H _ I h) fun val st ⟨x, Hn, In, rn, qn⟩ => ?_
  rcases qn with ⟨a, ex, ⟨ys, hq⟩, q⟩ | ⟨a, ex, ⟨ys, hq⟩, q⟩ | ⟨a, lo, hi, ex, ha, ⟨l1, l2⟩, ⟨l3, l4⟩, q⟩
  all_goals subst ex; cases rn
  · obtain ⟨its, rv, pl, hz⟩ := In.list hq
    refine wpAny_pyIter_list pl.isList ⟨st.heap.objs.size, [st.heap.objs.size], _, _, Hn, rfl, In.kept (t' := st.toks) fun b o e => Heap.get?_push_of_some _ e, turn_list a _, ⟨_, Heap.get?_push_size _ rfl, rfl, rfl⟩, fun b hb => ?_, q⟩
    have z : b = st.heap.objs.size := by simpa using hb
    subst z
    exact In.fpOk (Nat.le_refl _) (In.hok.fresh (Nat.le_refl _))
  · obtain ⟨its, rv, pl, hz⟩ := In.tuple hq
    refine wpAny_pyIter_tuple (show st.heap.IsTuple a its.toArray from pl) ⟨st.heap.objs.size, [st.heap.objs.size], _, _, Hn, rfl, In.kept (t' := st.toks) fun b o e => Heap.get?_push_of_some _ e, turn_tuple a _, ⟨_, Heap.get?_push_size _ rfl, rfl, rfl⟩, fun b hb => ?_, q⟩
    have z : b = st.heap.objs.size := by simpa using hb
    subst z
    exact In.fpOk (Nat.le_refl _) (In.hok.fresh (Nat.le_refl _))
  · obtain ⟨t, tu, tv, ho⟩ := In.hok a _ ha
    refine wpAny_pyIter_range (show IsRange st.heap a lo hi 1 t tu tv from ho) (PySem.small_one l1 l2 l3 l4) ?_
    refine ⟨st.heap.objs.size, [st.heap.objs.size], _, _, Hn, rfl, In.kept (t' := st.toks) fun b o e => Heap.get?_push_of_some _ e, turn_range _ lo (hi - lo).toNat, ?_, fun b hb => ?_, q⟩
    · have z1 : lo + ((0 : Nat) : Int) * 1 = lo := by simp
      have z2 : (((hi - lo).toNat : Nat) : Int) - ((0 : Nat) : Int) = Builtin.Range.rangeSize lo hi 1 := by
        rw [PySem.rangeSize_one]
        split <;> omega
      show IsRangeIter _ _ (lo + ((0 : Nat) : Int) * 1) ((((hi - lo).toNat : Nat) : Int) - ((0 : Nat) : Int)) 1
      rw [z1, z2]
      exact Heap.get?_push_size _ rfl
    · have z : b = st.heap.objs.size := by simpa using hb
      subst z
      exact In.fpOk (Nat.le_refl _) (In.hok.fresh (Nat.le_refl _))
theorem rp_Y {Y : Hp} (hq : q = true → Y = H1) (r : RP T.K H1 F1 (if q = true then c else .d c.frz) v) : RP T.K Y F1 (if q = true then c else .d c.frz) v := by
  cases q with
  | true => rw [hq rfl]; exact r
  | false =>
    cases r with
    | d r => exact .d r
theorem snd_sq {a : ME} {tg e : Expr} (ha : SE X (rd X E p0) R G a e) : SI X (rd X E p0) R G (.sq a) tg e := fun q hq => by
  have hp : q = true → a.pu = true := fun e => by have := hq e; rw [ME.pu] at this; exact this
  refine (pi_anyv (tg := tg) (ha q hp)).imp fun σ H R' h => ?_
  obtain ⟨env, B, F, U, s, w, h⟩ := h
  refine tE.post (tI.open (R := R') (f := ev R G q (.sq a)) (f1 := ev R G q a) (g := CT.walk) (pur := a.pu) (fun e => by rw [ev] <;> rfl) hp s w (by rw [ME.pu] at h; exact h)) fun x H1 ⟨c1, env1, xs, F1, _, hw, sF, sY, fH, _, rp, y⟩ => ?_
  have rp := rp_Y (T := rd X E p0) (Y := if q = true then H1 else F1) (fun e => by rw [if_pos e]) rp
  have hw2 : (if q = true then c1 else .d c1.frz : CT).walk = some xs := by
    cases q with
    | true => exact hw
    | false => exact walk_frz hw
  generalize (if q = true then c1 else .d c1.frz : CT) = c2 at rp hw2
  generalize (if q = true then H1 else F1) = Y at *
  have lst : ∀ {ys}, c2.lels = some ys → ys = xs → iAny X.K (fun _ H Q => Q x H) σ H1 R' := fun {ys} hl e => by
    subst e
    obtain ⟨ad, vs, rfl, ha, rs⟩ := lels_rp (f := sF) rp hl
    have sq : SqL X.K Y ad vs := SqL.of ha
    exact .inl ⟨ad, rfl, ⟨vs, sY.seq sq⟩, y _ (yld_list sq rs)⟩
  have tpl : ∀ {ys}, c2.tels = some ys → ys = xs → iAny X.K (fun _ H Q => Q x H) σ H1 R' := fun {ys} hl e => by
    subst e
    obtain ⟨ad, vs, rfl, ha, rs⟩ := tels_rp (f := sF) rp hl
    exact .inr (.inl ⟨ad, rfl, ⟨vs, Same.sqt sY ha⟩, y _ (yld_tup ha rs)⟩)
  have gen : (match c2.lels with
      | some xs => some xs
      | none => c2.tels) = some xs → iAny X.K (fun _ H Q => Q x H) σ H1 R' := fun hw => by
    cases e : c2.lels with
    | some ys => rw [e] at hw; exact lst e (Option.some.inj hw)
    | none => rw [e] at hw; exact tpl hw rfl
  cases c2 with
  | d d =>
    cases d <;> first | exact gen hw2 | skip
    · rename_i ns
      have e := Option.some.inj (show some (ns.map D.int) = some xs from hw2)
      subst e
      cases rp with
      | d r =>
        cases r with
        | scr h => exact .inl ⟨_, rfl, ⟨_, fH.seq h⟩, y _ (yld_list (sF.seq h) (RDs.ints ns))⟩
    · rename_i lo hi
      have hw2 : (if smallR lo ∧ smallR hi then some (rngL lo hi) else none) = some xs := hw2
      by_cases hs : smallR lo ∧ smallR hi
      · rw [if_pos hs] at hw2
        have e := Option.some.inj hw2
        subst e
        cases rp with
        | d r =>
          cases r with
          | rng h => exact .inr (.inr ⟨_, lo, hi, rfl, fH _ _ h, hs.1, hs.2, y _ (yld_rng lo hi)⟩)
      · rw [if_neg hs] at hw2; cases hw2
  | l cs => exact gen hw2
  | t cs => exact tpl hw2 rfl
theorem tEs.post {f : Env → Res (List CT × Env)} {Q Q' : List V → Hp → Prop} (h : tEs T p pur f σ H Q) (i : ∀ v H, Q v H → Q' v H) : tEs T p pur f σ H Q' := by
  obtain ⟨env, B, F, U, s, w, h⟩ := h
  refine ⟨env, B, F, U, s, w, ?_⟩
  revert h
  cases f env with
  | ok r => exact fun h v H' F' U' u h1 h2 h3 h4 h5 => i _ _ (h v H' F' U' u h1 h2 h3 h4 h5)
  | exc c x => exact id
  | bad => exact id
theorem rps_ints {K : PySem.W.Frag} : ∀ {cs : List CT} {vs : List V}, (∀ c ∈ cs, ∃ i, c = .d (.int i)) → RPs K H F cs vs → RPs K H B cs vs
  | _, _, _, .nil => .nil
  | _, _, hc, .cons a b => by
    refine .cons ?_ (rps_ints (fun c m => hc c (List.mem_cons_of_mem _ m)) b)
    obtain ⟨i, rfl⟩ := hc _ List.mem_cons_self
    rw [a.int]
    exact .d (.int i)
/-- range(..) -/
theorem tI_rg {es : List ME} {R' : It → Hp → Prop} (hq : q = true → ME.pus es = true) (h : tI T q (ME.pus es) (ev R G q (.rg es)) σ H R') : tEs T q (ME.pus es) (evs R G q es) σ H fun vs H1 => ∃ cs lo hi, RPs T.K H1 H1 cs vs ∧ (cs = [.d (.int hi)] ∧ lo = 0 ∨ cs = [.d (.int lo), .d (.int hi)]) ∧ smallR lo ∧ smallR hi ∧ R' (Itr lo (hi - lo).toNat) H1 := by
  obtain ⟨env, B, F, U, s, w, h⟩ := h
  refine ⟨env, B, F, U, s, w, ?_⟩
  rw [ev] at h
  cases e : evs R G q es env with
  | ok r =>
    rw [e] at h
    intro vs H1 F1 U1 u1 g1 w1 s1 r1 k1
    have h : match ((Res.of (rgf r.1)).bd fun c => (.ok (c, r.2) : Res (CT × Env))) with
      | .ok r => ∃ xs, r.1.lels = some xs ∧ ∀ J H' F' U', Gr B F F' → WR B F' H' U' → SR T.K H' F' r.2 σ U' → Yld T.K J (if q = true then H' else F') F' xs → (ME.pus es = true → Same H H') → R' J H'
      | .exc c x => XP T σ B F c x
      | .bad => False := h
    cases hg : rgf r.1 with
    | none => rw [hg] at h; exact h.elim
    | some c =>
      rw [hg] at h
      obtain ⟨xs, hx, h⟩ := h
      have go : ∀ lo hi : Int, c = .l ((rngL lo hi).map .d) → R' (Itr lo (hi - lo).toNat) H1 := fun lo hi e => by
        subst e
        have ex := Option.some.inj ((lels_map (rngL lo hi)).symm.trans hx)
        subst ex
        exact h _ H1 F1 U1 g1 w1.right s1 (yld_rng lo hi) k1
      have rps : RPs T.K H1 F1 r.1 vs := r1.rp
      have allI : ∀ {cs : List CT}, (∀ c ∈ cs, ∃ i, c = .d (.int i)) → RPs T.K H1 F1 cs vs → RPs T.K H1 H1 cs vs := fun hc r => rps_ints hc r
      unfold rgf at hg
      split at hg
      · rename_i j e2
        obtain ⟨gs, rfl⟩ := guardP_some hg
        refine ⟨r.1, 0, j, allI (fun c m => ?_) rps, .inl ⟨e2, rfl⟩, by decide, gs, go 0 j rfl⟩
        rw [e2] at m
        exact ⟨j, by simpa using m⟩
      · rename_i i j e2
        obtain ⟨gs, rfl⟩ := guardP_some hg
        refine ⟨r.1, i, j, allI (fun c m => ?_) rps, .inr e2, gs.1, gs.2, go i j rfl⟩
        rw [e2] at m
        rcases List.mem_cons.mp m with m | m
        · exact ⟨i, m⟩
        · exact ⟨j, by simpa using m⟩
      · cases hg
  | exc c x => rw [e] at h; exact h
  | bad => rw [e] at h; exact h
theorem tEs_len {es : List ME} {n : Nat} {Q : List V → Hp → Prop} (hn : n = es.length) (h : tEs T p pur (evs R G p es) σ H Q) : tEs T p pur (evs R G p es) σ H fun vs H1 => vs.length = n ∧ Q vs H1 := by
  obtain ⟨env, B, F, U, s, w, h⟩ := h
  refine ⟨env, B, F, U, s, w, ?_⟩
  revert h
  cases e : evs R G p es env with
  | ok r => exact fun h v H' F' U' u h1 h2 h3 h4 h5 => ⟨by rw [hn, ← evs_len p e, ← h4.rp.length], h v H' F' U' u h1 h2 h3 h4 h5⟩
  | exc c x => exact id
  | bad => exact id
theorem snd_rg (g : Good X E k R G C) {es : List ME} {f tg : Expr} {xs : List Expr} {pos : Pos} (ha : AllE X (rd X E p0) R G es xs) (hf : blt1 X.env.scope "range" f = true) (hl : xs.length = 1 ∨ xs.length = 2) : SI X (rd X E p0) R G (.rg es) tg (.Call f xs [] pos) := fun q hq => by
  have hp : q = true → ME.pus es = true := fun e => by have := hq e; rw [ME.pu] at this; exact this
  obtain ⟨fp, rfl, gl, hm⟩ := blt1_ok g hf
  have pa := ha.pa hp
  have epu : (ME.rg es).pu = ME.pus es := by rw [ME.pu]
  rw [epu]
  match xs, hl, ha, pa with
  | [a], _, ha, pa =>
    have st : notStar a = true := by have := ha.star; rw [List.all_cons] at this; exact and_l this
    refine (pi_range1 gl hm pa (by rw [star_cons st]; rfl)).imp fun σ H R' h => ?_
    refine tEs.post (tEs_len ha.len (tI_rg hp h)) fun vs H1 ⟨lv, cs, lo, hi, rp, hc, s1, s2, q⟩ => ?_
    have lc := rp.length
    rcases hc with ⟨rfl, rfl⟩ | rfl
    · cases rp with
      | cons r1 r2 =>
        cases r2
        have e := r1.int
        subst e
        exact ⟨hi, rfl, s2.1, s2.2, by simpa using q⟩
    · rw [lv] at lc; simp at lc
  | [a, b], _, ha, pa =>
    have st : notStar a = true := by have := ha.star; rw [List.all_cons] at this; exact and_l this
    have st2 : notStar b = true := by have := ha.star; rw [List.all_cons, List.all_cons] at this; exact and_l (and_r this)
    refine (pi_range2 gl hm pa (by rw [star_cons st, star_cons st2]; rfl) (by rw [star_cons st2]; rfl)).imp fun σ H R' h => ?_
    refine tEs.post (tEs_len ha.len (tI_rg hp h)) fun vs H1 ⟨lv, cs, lo, hi, rp, hc, s1, s2, q⟩ => ?_
    have lc := rp.length
    rcases hc with ⟨rfl, rfl⟩ | rfl
    · rw [lv] at lc; simp at lc
    · cases rp with
      | cons r1 r2 =>
        cases r2 with
        | cons r2 r3 =>
          cases r3
          have e := r1.int
          subst e
          have e := r2.int
          subst e
          exact ⟨lo, hi, rfl, ⟨s1.1, s1.2, s2.1, s2.2⟩, q⟩
theorem snd_en (g : Good X E k R G C) {a : ME} {f x : Expr} {elts : List Expr} {kk : Nat} {tpos pos : Pos} (ha : SE X (rd X E p0) R G a x) (hf : blt1 X.env.scope "enumerate" f = true) (hx : notStar x = true) : SI X (rd X E p0) R G (.en a) (.Tuple elts kk tpos) (.Call f [x] [] pos) := fun q hq => by
  have hp : q = true → a.pu = true := fun e => by have := hq e; rw [ME.pu] at this; exact this
  obtain ⟨fp, rfl, gl, hm⟩ := blt1_ok g hf
  refine (pi_enum gl hm (pa_cons (ha q hp) pa_nil (star_cons hx [])) (star_cons hx [])).imp fun σ H R' h => ?_
  obtain ⟨env, B, F, U, s, w, h⟩ := h
  refine tE.post (tI.open (R := R') (f := ev R G q (.en a)) (f1 := ev R G q a) (g := fun c => c.lels.map enumD) (pur := a.pu) (fun e => by rw [ev]; congr 1; funext r; cases r.1.lels <;> rfl) hp s w (by rw [ME.pu] at h; exact h)) fun x H1 ⟨c1, env1, xs, F1, _, hw, sF, sY, fH, _, rp, y⟩ => ?_
  have rp := rp_Y (T := rd X E p0) (Y := if q = true then H1 else F1) (fun e => by rw [if_pos e]) rp
  cases hl : c1.lels with
  | none => rw [hl] at hw; cases hw
  | some ys =>
    rw [hl] at hw
    have ex := Option.some.inj hw
    subst ex
    have hw2 : (if q = true then c1 else .d c1.frz : CT).lels = some ys := by
      cases q with
      | true => exact hl
      | false => exact lels_frz hl
    obtain ⟨ad, vs, rfl, ha, rs⟩ := lels_rp (f := sF) rp hw2
    have sq : SqL X.K (if q = true then H1 else F1) ad vs := SqL.of ha
    exact ⟨ad, vs, rfl, sY.seq sq, y _ (yld_enum sq rs)⟩
end
end PV

set_option maxRecDepth 100000
/-! zip(a, b, strict=True) of two lists. -/
namespace PV
open PySem PySem.Spec PyProof.Rows L2
open Sem (wp)
abbrev IsZipS (h : Heap) (z TI TO : Addr) (f0 : Value) : Prop :=
  h.get? z = some { cls := .type "zip", dict := none, data := .fields #[f0, .bool false, .bool true, .ref TI, .ref TO], slots := #[] }
section
variable {prog : Program} {w : World} {A : Around} {E : Value → Shared → Prop} {s : Shared}
theorem noe_item {it l : Addr} {i : Nat} {items : Array Value} {x : Value} {Q : Option Value → Shared → Prop} (hit : s.heap.IsListIter it l i)
    (hl : s.heap.IsList l items) (hx : items[i]? = some x)
    (hQ : ∀ h', h'.IsListIter it l (i + 1) → Heap.SameBut it s.heap h' → Q (some x) { s with heap := h' }) :
    wpAny (model prog w) A (Builtin.SmallTypes.nextOrEnd (.ref it)) Q E s := by
  unfold Builtin.SmallTypes.nextOrEnd
  exact wpAny_bind (wpAny_attempt (wpAny_nextOf_list_item hit hl hx fun h' a b => wpAny_pure (hQ h' a b)))
theorem noe_end {it l : Addr} {i : Nat} {items : Array Value} {Q : Option Value → Shared → Prop} (hh : A.handled = none) (hit : s.heap.IsListIter it l i)
    (hl : s.heap.IsList l items) (hx : items[i]? = none)
    (hQ : ∀ h', Heap.ExtBut it s.heap h' → Q none { s with heap := h' }) :
    wpAny (model prog w) A (Builtin.SmallTypes.nextOrEnd (.ref it)) Q E s := by
  unfold Builtin.SmallTypes.nextOrEnd
  refine wpAny_bind (wpAny_attempt (wpAny_nextOf_list_end hh hit hl hx fun h' e hx he => ?_))
  obtain ⟨o, ho, hc⟩ := he
  refine wpAny_bind (wpAny_isInstance (T := "StopIteration") (b := true) ⟨o, ho, hc⟩ isSubtype_stop ?_)
  exact wpAny_pure (hQ _ hx)
theorem zipS_item {z TI TO i1 i2 l1 l2 : Addr} {k1 k2 : Nat} {xs ys : Array Value} {x y a b : Value} {Q : Value → Shared → Prop} (D : ZipApart z TI TO i1 i2 l1 l2)
    (hz : IsZipS s.heap z TI TO .none) (hI : IsPair s.heap TI (.ref i1) (.ref i2)) (hO : IsPair s.heap TO a b)
    (h1 : s.heap.IsListIter i1 l1 k1) (h2 : s.heap.IsListIter i2 l2 k2) (e1 : s.heap.IsList l1 xs) (e2 : s.heap.IsList l2 ys) (hx : xs[k1]? = some x) (hy : ys[k2]? = some y)
    (hQ : ∀ h', IsZipS h' z TI TO (rawInt s.heap.objs.size) → IsPair h' TO x y → h'.IsListIter i1 l1 (k1 + 1) → h'.IsListIter i2 l2 (k2 + 1) → IsPair h' s.heap.objs.size x y → h'.objs.size = s.heap.objs.size + 1 →
      (∀ c o, c ≠ z → c ≠ TO → c ≠ i1 → c ≠ i2 → s.heap.get? c = some o → h'.get? c = some o) → Q (.ref s.heap.objs.size) { s with heap := h' }) :
    wpAny (model prog w) A (Builtin.«zip.__next__» ⟨[.ref z], []⟩) (fun fin s' => ∃ v, fin = .done (.ret v) ∧ Q v s') E s := by
  show wpAny _ _ (field (.ref z) 2 >>= _) _ _ _
  refine wpAny_bind (wpAny_field hz rfl (x := .bool true) rfl ?_)
  show wpAny _ _ (field (.ref z) 3 >>= _) _ _ _
  refine wpAny_bind (wpAny_field hz rfl (x := .ref TI) rfl ?_)
  refine wpAny_bind (wpAny_seqItems hI rfl ?_)
  show wpAny _ _ (Builtin.SmallTypes.ownedTupleIsFree (.ref z) >>= _) _ _ _
  refine wpAny_bind ?_
  unfold Builtin.SmallTypes.ownedTupleIsFree
  refine wpAny_bind (wpAny_field hz rfl (x := .none) rfl (wpAny_pure ?_))
  simp only [if_true]
  refine wpAny_bind (wpAny_rule ?_)
  refine wpAny_bind (wpAny_field hz rfl (x := .ref TO) rfl ?_)
  refine wpAny_bind (wpAny_setField_rec hz (by simp) fun p1 z1 s1 => ?_)
  replace z1 : IsZipS p1 z TI TO .ellipsis := z1
  refine wpAny_bind ?_
  simp only [List.zipIdx_cons, List.zipIdx_nil, List.forIn_cons, List.forIn_nil]
  refine wpAny_bind (wpAny_bind (wpAny_onRaise ?_))
  show wpAny _ _ (Builtin.SmallTypes.nextOrEnd (.ref i1)) _ _ _
  refine noe_item (h1.extBut s1.extBut D.i1z) (e1.extBut s1.extBut D.l1z) hx fun p2 f2 s2 => ?_
  have o2 : IsPair p2 TO a b := s2.extBut _ _ D.TOi1 (s1.extBut _ _ D.TOz hO)
  refine wpAny_bind (wpAny_seqItems o2 rfl ?_)
  refine wpAny_bind (wpAny_updateSeq_pair o2 fun p3 o3 s3 => ?_)
  replace o3 : IsPair p3 TO x b := o3
  refine wpAny_bind (wpAny_letGo (wpAny_pure ?_))
  refine wpAny_bind (wpAny_bind (wpAny_onRaise ?_))
  show wpAny _ _ (Builtin.SmallTypes.nextOrEnd (.ref i2)) _ _ _
  refine noe_item (((h2.extBut s1.extBut D.i2z).extBut s2.extBut D.i12.symm).extBut s3.extBut D.TOi2.symm)
    (((e2.extBut s1.extBut D.l2z).extBut s2.extBut D.l2i1).extBut s3.extBut D.l2TO) hy fun p4 f4 s4 => ?_
  have o4 : IsPair p4 TO x b := s4.extBut _ _ D.TOi2 o3
  refine wpAny_bind (wpAny_seqItems o4 rfl ?_)
  refine wpAny_bind (wpAny_updateSeq_pair o4 fun p5 o5 s5 => ?_)
  replace o5 : IsPair p5 TO x y := o5
  refine wpAny_bind (wpAny_letGo (wpAny_pure (wpAny_pure ?_)))
  refine wpAny_bind (wpAny_seqItems o5 rfl ?_)
  refine wpAny_bind (wpAny_newTuple ?_)
  have sz : p5.objs.size = s.heap.objs.size := by rw [s5.1, s4.1, s3.1, s2.1, s1.1]
  have z5 : IsZipS p5 z TI TO .ellipsis := s5.extBut _ _ D.TOz.symm (s4.extBut _ _ D.i2z.symm (s3.extBut _ _ D.TOz.symm (s2.extBut _ _ D.i1z.symm z1)))
  have k5 : ∀ c o, c ≠ z → c ≠ TO → c ≠ i1 → c ≠ i2 → s.heap.get? c = some o → p5.get? c = some o := fun c o c1 c2 c3 c4 e =>
    s5.extBut _ _ c2 (s4.extBut _ _ c4 (s3.extBut _ _ c2 (s2.extBut _ _ c3 (s1.extBut _ _ c1 e))))
  have f5 : p5.IsListIter i1 l1 (k1 + 1) := ((f2.extBut s3.extBut D.TOi1.symm).extBut s4.extBut D.i12).extBut s5.extBut D.TOi1.symm
  have g5 : p5.IsListIter i2 l2 (k2 + 1) := f4.extBut s5.extBut D.TOi2.symm
  have zlt : z < p5.objs.size := Heap.lt_size z5
  show wpAny _ _ (Builtin.SmallTypes.ownedTupleHandOut (.ref z) (.ref p5.objs.size) >>= _) _ _ _
  refine wpAny_bind ?_
  unfold Builtin.SmallTypes.ownedTupleHandOut
  have z6 : IsZipS (p5.push { cls := .type "tuple", data := .seq #[x, y] }) z TI TO .ellipsis := Heap.get?_push_of_some _ z5
  refine wpAny_bind (wpAny_setField_rec z6 (by simp) fun p7 z7 s7 => ?_)
  replace z7 : IsZipS p7 z TI TO (rawInt p5.objs.size) := z7
  refine wpAny_setField_rec z7 (by simp) fun p8 z8 s8 => ?_
  replace z8 : IsZipS p8 z TI TO (rawInt p5.objs.size) := z8
  have up : ∀ c o, c ≠ z → p5.get? c = some o → p8.get? c = some o := fun c o c1 e => s8.extBut _ _ c1 (s7.extBut _ _ c1 (Heap.get?_push_of_some _ e))
  have t8 : IsPair p8 p5.objs.size x y := s8.extBut _ _ (Nat.ne_of_gt zlt) (s7.extBut _ _ (Nat.ne_of_gt zlt) (Heap.get?_push_size _ rfl))
  have q8 : p8.objs.size = p5.objs.size + 1 := by rw [s8.1, s7.1, Heap.size_push]
  rw [sz] at z8 t8 q8
  refine wpAny_pure ⟨_, rfl, ?_⟩
  show Q (.ref p5.objs.size) _
  rw [sz]
  exact hQ p8 z8 (up _ _ D.TOz o5) (f5.at fun o e => up _ o D.i1z e) (g5.at fun o e => up _ o D.i2z e) t8 q8 fun c o c1 c2 c3 c4 e => up c o c1 (k5 c o c1 c2 c3 c4 e)
theorem zipS_end {z TI TO i1 i2 l1 l2 : Addr} {k1 k2 : Nat} {xs ys : Array Value} {a b : Value} {Q : Fin → Shared → Prop} (hh : A.handled = none) (D : ZipApart z TI TO i1 i2 l1 l2)
    (hz : IsZipS s.heap z TI TO .none) (hI : IsPair s.heap TI (.ref i1) (.ref i2)) (hO : IsPair s.heap TO a b)
    (h1 : s.heap.IsListIter i1 l1 k1) (h2 : s.heap.IsListIter i2 l2 k2) (e1 : s.heap.IsList l1 xs) (e2 : s.heap.IsList l2 ys) (hx : xs[k1]? = none) (hy : ys[k2]? = none)
    (hE : ∀ h' e, (∀ c o, c ≠ z → c ≠ TO → c ≠ i1 → c ≠ i2 → s.heap.get? c = some o → h'.get? c = some o) → (∃ o, h'.get? e = some o ∧ o.cls = .type "StopIteration") → E (.ref e) { s with heap := h' }) :
    wpAny (model prog w) A (Builtin.«zip.__next__» ⟨[.ref z], []⟩) Q E s := by
  show wpAny _ _ (field (.ref z) 2 >>= _) _ _ _
  refine wpAny_bind (wpAny_field hz rfl (x := .bool true) rfl ?_)
  show wpAny _ _ (field (.ref z) 3 >>= _) _ _ _
  refine wpAny_bind (wpAny_field hz rfl (x := .ref TI) rfl ?_)
  refine wpAny_bind (wpAny_seqItems hI rfl ?_)
  show wpAny _ _ (Builtin.SmallTypes.ownedTupleIsFree (.ref z) >>= _) _ _ _
  refine wpAny_bind ?_
  unfold Builtin.SmallTypes.ownedTupleIsFree
  refine wpAny_bind (wpAny_field hz rfl (x := .none) rfl (wpAny_pure ?_))
  simp only [if_true]
  refine wpAny_bind (wpAny_rule ?_)
  refine wpAny_bind (wpAny_field hz rfl (x := .ref TO) rfl ?_)
  refine wpAny_bind (wpAny_setField_rec hz (by simp) fun p1 z1 s1 => ?_)
  replace z1 : IsZipS p1 z TI TO .ellipsis := z1
  refine wpAny_bind ?_
  simp only [List.zipIdx_cons, List.zipIdx_nil, List.forIn_cons, List.forIn_nil]
  refine wpAny_bind (wpAny_bind (wpAny_onRaise ?_))
  show wpAny _ _ (Builtin.SmallTypes.nextOrEnd (.ref i1)) _ _ _
  refine noe_end hh (h1.extBut s1.extBut D.i1z) (e1.extBut s1.extBut D.l1z) hx fun p2 s2 => ?_
  have z2 : IsZipS p2 z TI TO .ellipsis := s2 _ _ D.i1z.symm z1
  refine wpAny_bind (wpAny_setField_rec z2 (by simp) fun p3 _ s3 => ?_)
  refine wpAny_bind ?_
  show wpAny _ _ ((forIn (m := Sem) [(Value.ref i2, (1 : Nat))] PUnit.unit _) >>= _) _ _ _
  simp only [List.forIn_cons, List.forIn_nil]
  refine wpAny_bind (wpAny_bind ?_)
  refine wpAny_bind (noe_end hh ((((h2.extBut s1.extBut D.i2z).at fun o e => s2 _ o (Ne.symm D.i12) e)).extBut s3.extBut D.i2z) ((((e2.extBut s1.extBut D.l2z).at fun o e => s2 _ o D.l2i1 e)).extBut s3.extBut D.l2z) hy fun p4 s4 => ?_)
  refine wpAny_pure (wpAny_pure ?_)
  refine wpAny_bind (wpAny_rule ?_)
  unfold Builtin.SmallTypes.stopIteration
  refine wpAny_bind ?_
  simp only [newExc, newTuple]
  refine wpAny_bind (wpAny_newObj_type ?_ (by size_fits))
  refine wpAny_bind (m := firstArgMember _ _) (wpAny_of_eq (a := Value.none) (by first | rfl | (simp only [firstArgMember]; rfl)) ?_)
  refine wpAny_newObj_type ?_ (by size_fits)
  simp only [raiseNew]
  refine wpAny_bind (wpAny_handled ?_)
  first | rw [show A.in1.handled = none from hh] | rw [hh]
  refine wpAny_bind (wpAny_pure (wpAny_throw ?_))
  exact hE _ _ (fun c o c1 c2 c3 c4 e => Heap.get?_push_of_some _ (Heap.get?_push_of_some _ (s4 _ _ c4 (s3.extBut _ _ c1 (s2 _ _ c3 (s1.extBut _ _ c1 e)))))) ⟨_, Heap.get?_push_size _ rfl, rfl⟩
theorem zipS_next_item {z TI TO i1 i2 l1 l2 : Addr} {k1 k2 : Nat} {xs ys : Array Value} {x y a b : Value} {Q : Option Value → Shared → Prop} (D : ZipApart z TI TO i1 i2 l1 l2)
    (hz : IsZipS s.heap z TI TO .none) (hI : IsPair s.heap TI (.ref i1) (.ref i2)) (hO : IsPair s.heap TO a b)
    (h1 : s.heap.IsListIter i1 l1 k1) (h2 : s.heap.IsListIter i2 l2 k2) (e1 : s.heap.IsList l1 xs) (e2 : s.heap.IsList l2 ys) (hx : xs[k1]? = some x) (hy : ys[k2]? = some y)
    (hQ : ∀ h', IsZipS h' z TI TO (rawInt s.heap.objs.size) → IsPair h' TO x y → h'.IsListIter i1 l1 (k1 + 1) → h'.IsListIter i2 l2 (k2 + 1) → IsPair h' s.heap.objs.size x y → h'.objs.size = s.heap.objs.size + 1 →
      (∀ c o, c ≠ z → c ≠ TO → c ≠ i1 → c ≠ i2 → s.heap.get? c = some o → h'.get? c = some o) → Q (some (.ref s.heap.objs.size)) { s with heap := h' }) :
    wpAny (model prog w) A (pyNext (.ref z)) Q E s := by
  have ty : s.TypeIs (.ref z) "zip" := ⟨_, hz, rfl⟩
  unfold pyNext
  exact wpAny_bind (wpAny_attempt (wpAny_callSpecial?_slot (name := Str.ofString "__next__") ty F.slot_zip_next
    (wpAny_call_entry F.slot_zip_next ty F.entry_zip_next
      (zipS_item D hz hI hO h1 h2 e1 e2 hx hy fun h' a1 a2 a3 a4 a5 a6 a7 => wpAny_pure (hQ h' a1 a2 a3 a4 a5 a6 a7)) (F.args_zip_next_1 _))))
theorem zipS_next_end {z TI TO i1 i2 l1 l2 : Addr} {k1 k2 : Nat} {xs ys : Array Value} {a b : Value} {Q : Option Value → Shared → Prop} (hh : A.handled = none) (D : ZipApart z TI TO i1 i2 l1 l2)
    (hz : IsZipS s.heap z TI TO .none) (hI : IsPair s.heap TI (.ref i1) (.ref i2)) (hO : IsPair s.heap TO a b)
    (h1 : s.heap.IsListIter i1 l1 k1) (h2 : s.heap.IsListIter i2 l2 k2) (e1 : s.heap.IsList l1 xs) (e2 : s.heap.IsList l2 ys) (hx : xs[k1]? = none) (hy : ys[k2]? = none)
    (hQ : ∀ h', (∀ c o, c ≠ z → c ≠ TO → c ≠ i1 → c ≠ i2 → s.heap.get? c = some o → h'.get? c = some o) → Q none { s with heap := h' }) : wpAny (model prog w) A (pyNext (.ref z)) Q E s := by
  have ty : s.TypeIs (.ref z) "zip" := ⟨_, hz, rfl⟩
  unfold pyNext
  refine wpAny_bind (wpAny_attempt (wpAny_callSpecial?_slot (name := Str.ofString "__next__") ty F.slot_zip_next
    (wpAny_call_entry F.slot_zip_next ty F.entry_zip_next (zipS_end hh D hz hI hO h1 h2 e1 e2 hx hy fun h' e hk he => ?_) (F.args_zip_next_1 _))))
  obtain ⟨o, ho, hc⟩ := he
  exact wpAny_bind (wpAny_isInstance (T := "StopIteration") (b := true) ⟨o, ho, hc⟩ isSubtype_stop (wpAny_pure (hQ _ hk)))
theorem zipS_go {elts : List Expr} {x1} {pos : Pos} {z TI TO T : Addr} {Q : Unit → Shared → Prop} (hz : IsZipS s.heap z TI TO (rawInt T))
    (hQ : ∀ h', IsZipS h' z TI TO .none → Heap.SameBut z s.heap h' → Q () { s with heap := h' }) :
    wpAny (model prog w) A (letOwnedTupleGo (.Tuple elts x1 pos) (.ref z) (.ref T)) Q E s := by
  unfold letOwnedTupleGo
  refine wpAny_bind (wpAny_load hz ?_)
  show wpAny _ _ (if (["enumerate", "zip", "dict_itemiterator", "dict_reverseitemiterator", "odict_iterator", "itertools.zip_longest", "itertools.pairwise"].contains "zip" &&
      (#[rawInt T, .bool false, .bool true, .ref TI, .ref TO] : Array Value)[0]? == some (rawInt T)) = true then _ else _) Q E s
  rw [if_pos (by simp)]
  refine wpAny_bind (wpAny_rule ?_)
  show wpAny _ _ (setField (.ref z) 0 .none) Q E s
  exact wpAny_setField_rec hz (by simp) fun h' hz' hs' => hQ h' hz' hs'
theorem zipS_self {z TI TO : Addr} {f0 : Value} {Q : Value → Shared → Prop} (hz : IsZipS s.heap z TI TO f0) (h : Q (.ref z) s) : wpAny (model prog w) A (pyIter (.ref z)) Q E s := by
  have ty : s.TypeIs (.ref z) "zip" := ⟨_, hz, rfl⟩
  refine wpAny_pyIter_slot ty F.slot_zip_iter (wpAny_call_entry F.slot_zip_iter ty F.entry_zip_iter ?_ (F.args_zip_iter_1 _))
  show wpAny _ _ (ret (.ref z)) _ _ s
  exact wpAny_pure ⟨_, rfl, "zip", _, ty, F.slot_zip_next.lookup, h⟩
end
end PV

set_option maxRecDepth 100000
/-! zip(a, b, strict=True): the call. -/
namespace PV
open PySem PySem.Spec PyProof.Rows L2
open Sem (wp)
abbrev kwS : List (Str × Value) := [("strict", .bool true)]
theorem zipS_tc (a b : Value) : checkTypeCall "zip" ⟨[a, b], kwS⟩ = pure () := by kernel_rfl
theorem zipS_nc (a b : Value) : checkBuiltinCall "zip.__new__" ⟨[.type "zip", a, b], kwS⟩ = pure () := by kernel_rfl
theorem zipS_oi (a b c : Value) : argsOk "object.__init__" ⟨[a, b, c], kwS⟩ := by
  unfold argsOk; rw [signature?_of (id := "object.__init__") (n := ['_', '_', 't', 'i', 'n', 'i', '_', '_']) (o := ['t', 'c', 'e', 'j', 'b', 'o']) (by kernel_rfl) PySem.F.owner_object]; kernel_rfl
abbrev zs5 (h : Heap) (l1 l2 : Addr) : Heap := (zipH4 h l1 l2).push { cls := .type "zip", data := .fields #[.none, .bool false, .bool true, .ref (zipH2 h l1 l2).objs.size, .ref (zipH3 h l1 l2).objs.size] }
theorem zipS_new (l1 l2 : Addr) (xs ys : Array Value) :
    Meets (Builtin.«zip.__new__» ⟨[.type "zip", .ref l1, .ref l2], kwS⟩) (fun _ R s => s.heap.IsList l1 xs ∧ s.heap.IsList l2 ys ∧
      R (.ok (.ret (.ref (zipH4 s.heap l1 l2).objs.size))) { s with heap := zs5 s.heap l1 l2 }) :=
  .of_wp fun prog w A R s h => by
    obtain ⟨hp, g, d, tk, os⟩ := s; obtain ⟨e1, e2, h⟩ := h
    have sb := sub_zip
    have L1 : Heap.IsList (Shared.heap ⟨hp, g, d, tk, os⟩) l1 xs := e1
    have L2 : Heap.IsList (Shared.heap ⟨hp.push { cls := .type "list_iterator", data := .fields #[.ref l1, .int 0 0] }, g, d, tk, os⟩) l2 ys := Heap.IsList.push e2 _
    wp_walk using wpAny_pyIter_list L1, wpAny_pyIter_list L2
    exact ⟨_, rfl, h⟩
section
variable {prog : Program} {w : World} {A : Around} {E : Value → Shared → Prop} {s : Shared}
theorem tyCallK {T newId : String} {Bn : Builtin} {args : List Value} {kw : List (Str × Value)} {S : PySem.Spec} {Q : Value → Shared → Prop} (ft : TypeCalled T newId "object.__init__")
    (hne : (some newId != some "object.__new__") = true)
    (hct : checkTypeCall T ⟨args, kw⟩ = pure ()) (hcn : checkBuiltinCall newId ⟨.type T :: args, kw⟩ = pure ()) (hok : ∀ obj, argsOk "object.__init__" ⟨obj :: args, kw⟩)
    (entryN : entryFor table newId = some Bn) (g : Meets (Bn ⟨.type T :: args, kw⟩) S) (oi : ∀ obj : Value, Meets (Builtin.«object.__init__» ⟨obj :: args, kw⟩) (fun _ R s => s.TypeIs obj T ∧ R (.ok (.ret .none)) s))
    (h : S A.in1 (wants (fun obj s₁ => s₁.TypeIs obj T ∧ Q obj s₁) E) s) :
    wpAny (model prog w) A (call (.type T) args kw) Q E s := by
  obtain ⟨c, tl, mr⟩ := ft.mro
  have md := ft.made
  have sb := ft.sub
  refine wpAny_call (codeAny_of_tree ?_)
  show wpAny _ _ (callAny (.type T) _) _ _ _
  refine wpAny_pure ⟨Code.quiet_builtin _ (by decide +kernel), codeAny_builtin F.entry_type_call ?_⟩
  rw [Around.under_plain (weight_type_call_type T args kw) (units_type_call_type T args kw)]
  have t1 := ft.notType
  have t2 := ft.canCreate
  repeat (any_goals (first | assumption | wp_step))
  refine codeAny_mono (codeAny_call_builtin ft.plain entryN (wpAny_of_eq hcn (g prog w A.in1 _ s h))) fun r s₁ hr => ?_
  cases r with
  | error e => exact hr
  | ok fl =>
    cases fl with
    | ret obj =>
      obtain ⟨hT, hq⟩ := hr
      have li := ft.init.lookup
      have bi := ft.init.bind obj
      repeat (any_goals (first | assumption | wp_step))
      refine codeAny_mono (codeAny_call_builtin ft.init.plain F.entry_object_init (ft.init.check _ _ _ _ _ _ _ _ hT (hok obj) (oi obj prog w A.in1 (wants (fun r s₂ => r = .none ∧ Q obj s₂) E) s₁ ⟨hT, rfl, hq⟩))) fun r₂ s₂ hr₂ => ?_
      cases r₂ with
      | error e => exact hr₂
      | ok fl₂ =>
        cases fl₂ with
        | ret r =>
          obtain ⟨rfl, hq⟩ := hr₂
          repeat (any_goals (first | assumption | wp_step))
        | _ => exact hr₂.elim
    | _ => exact hr.elim
theorem zipS_oim (obj a b : Value) : Meets (Builtin.«object.__init__» ⟨[obj, a, b], kwS⟩) (fun _ R s => s.TypeIs obj "zip" ∧ R (.ok (.ret .none)) s) := by
  refine Meets.of_wp fun prog w A R s hs => ?_
  obtain ⟨hT, hq⟩ := hs
  have hl : typeLookup (.type "zip") "__init__" = pure (some (.builtin "object.__init__")) := F.called_zip.init.lookup
  have hm : Bind.madeBy (.type "zip") = pure (some "zip.__new__") := F.called_zip.made
  have hne : (some "zip.__new__" != some "object.__new__") = true := by decide
  repeat (any_goals (first | assumption | wp_step))
  exact ⟨_, rfl, hq⟩
theorem call_zipS {l1 l2 : Addr} {xs ys : Array Value} {Q : Value → Shared → Prop} (e1 : s.heap.IsList l1 xs) (e2 : s.heap.IsList l2 ys)
    (h : ∀ h', IsZipS h' (s.heap.objs.size + 4) (s.heap.objs.size + 2) (s.heap.objs.size + 3) .none → IsPair h' (s.heap.objs.size + 2) (.ref s.heap.objs.size) (.ref (s.heap.objs.size + 1)) →
      IsPair h' (s.heap.objs.size + 3) .none .none → h'.IsListIter s.heap.objs.size l1 0 → h'.IsListIter (s.heap.objs.size + 1) l2 0 → h'.objs.size = s.heap.objs.size + 5 →
      (∀ c o, s.heap.get? c = some o → h'.get? c = some o) → Q (.ref (s.heap.objs.size + 4)) { s with heap := h' }) :
    wpAny (model prog w) A (call (.type "zip") [.ref l1, .ref l2] kwS) Q E s := by
  refine tyCallK F.called_zip (by decide) (zipS_tc _ _) (zipS_nc _ _) (fun obj => zipS_oi obj _ _) F.entry_zip_new (zipS_new l1 l2 xs ys) (fun obj => zipS_oim obj _ _) ⟨e1, e2, ?_⟩
  have z1 : (zipH1 s.heap l1).objs.size = s.heap.objs.size + 1 := Heap.size_push ..
  have z2 : (zipH2 s.heap l1 l2).objs.size = s.heap.objs.size + 2 := by rw [Heap.size_push, z1]
  have z3 : (zipH3 s.heap l1 l2).objs.size = s.heap.objs.size + 3 := by rw [Heap.size_push, z2]
  have z4 : (zipH4 s.heap l1 l2).objs.size = s.heap.objs.size + 4 := by rw [Heap.size_push, z3]
  have z5 : (zs5 s.heap l1 l2).objs.size = s.heap.objs.size + 5 := by rw [Heap.size_push, z4]
  have g5 : (zs5 s.heap l1 l2).get? (zipH4 s.heap l1 l2).objs.size = some _ := Heap.get?_push_size _ rfl
  have g4 : (zs5 s.heap l1 l2).get? (zipH3 s.heap l1 l2).objs.size = some _ := Heap.get?_push_of_some _ (Heap.get?_push_size _ rfl)
  have g3 : (zs5 s.heap l1 l2).get? (zipH2 s.heap l1 l2).objs.size = some _ := Heap.get?_push_of_some _ (Heap.get?_push_of_some _ (Heap.get?_push_size _ rfl))
  have g2 : (zs5 s.heap l1 l2).get? (zipH1 s.heap l1).objs.size = some _ := Heap.get?_push_of_some _ (Heap.get?_push_of_some _ (Heap.get?_push_of_some _ (Heap.get?_push_size _ rfl)))
  have g1 : (zs5 s.heap l1 l2).get? s.heap.objs.size = some _ := Heap.get?_push_of_some _ (Heap.get?_push_of_some _ (Heap.get?_push_of_some _ (Heap.get?_push_of_some _ (Heap.get?_push_size _ rfl))))
  show _ ∧ _
  rw [z2, z3, z4] at g5
  rw [z1, z2] at g3
  rw [z3] at g4
  rw [z1] at g2
  rw [z4]
  exact ⟨⟨_, g5, rfl⟩, h _ g5 g3 g4 ⟨_, g1, rfl, rfl⟩ ⟨_, g2, rfl, rfl⟩ z5 fun c o x =>
    Heap.get?_push_of_some _ (Heap.get?_push_of_some _ (Heap.get?_push_of_some _ (Heap.get?_push_of_some _ (Heap.get?_push_of_some _ x))))⟩
end
end PV

set_option maxRecDepth 100000
/-! zip(a, b, strict=True): the loop's source. -/
namespace PV
open PySem PySem.Spec PyProof.Rows L2
/-- pairs of two lists of one length -/
def ItS (K : PySem.W.Frag) (a b : Addr) : It :=
  ⟨(Itz K a b).go, (Itz K a b).yld, fun i H => ∃ xs ys : List V, SqL K H a xs ∧ SqL K H b ys ∧ xs.length ≤ i ∧ ys.length ≤ i⟩
theorem turn_zipS {P : Program} {w : World} {K : PySem.W.Frag} {elts : List Expr} {kk : Nat} {tpos : Pos} {a b z TI TO i1 i2 : Addr} (D : ZipApart z TI TO i1 i2 a b) :
    Turn P w K (.Tuple elts kk tpos) (ItS K a b) [z, TI, TO, i1, i2] z (fun i h => IsZipS h z TI TO .none ∧ IsPair h TI (.ref i1) (.ref i2) ∧ (∃ x y, IsPair h TO x y) ∧ h.IsListIter i1 a i ∧ h.IsListIter i2 b i) where
  mem := by simp
  obj := fun i h st c hc => by
    obtain ⟨tz, ti, ⟨x, y, to⟩, ⟨q1, e1, _, d1⟩, ⟨q2, e2, _, d2⟩⟩ := st
    have five : c = z ∨ c = TI ∨ c = TO ∨ c = i1 ∨ c = i2 := by simpa using hc
    rcases five with rfl | rfl | rfl | rfl | rfl
    · exact ⟨_, tz, fun v q => nomatch q⟩
    · exact ⟨_, ti, fun v q => nomatch q⟩
    · exact ⟨_, to, fun v q => nomatch q⟩
    · exact ⟨q1, e1, fun v q => by rw [d1] at q; cases q⟩
    · exact ⟨q2, e2, fun v q => by rw [d2] at q; cases q⟩
  keep := fun i h h' st k => by
    obtain ⟨tz, ti, ⟨x, y, to⟩, l1, l2⟩ := st
    exact ⟨k z (by simp) _ tz, k TI (by simp) _ ti, ⟨x, y, k TO (by simp) _ to⟩, l1.at fun o q => k i1 (by simp) o q, l2.at fun o q => k i2 (by simp) o q⟩
  item := by
    intro X hP hw hK hc i pins s σ H E I hf st hg
    subst hP hw hK
    obtain ⟨tz, ti, ⟨x0, y0, to⟩, l1, l2⟩ := st
    obtain ⟨xs, ys, x, y, qx, qy, gx, gy⟩ := hg
    obtain ⟨its, rv, p, _⟩ := I.list qx
    obtain ⟨its2, rv2, p2, _⟩ := I.list qy
    obtain ⟨u, hu, ru⟩ := rv.get gx
    obtain ⟨u2, hu2, ru2⟩ := rv2.get gy
    have zl : z < s.heap.objs.size := Heap.lt_size tz
    refine zipS_next_item D tz ti to l1 l2 p.isList p2.isList (x := u) (y := u2) (by simpa using hu) (by simpa using hu2) fun h' z' to' m1 m2 tp hsz hk => ?_
    refine ⟨_, rfl, zipS_go (s := { s with heap := h' }) z' fun h2 z2 sb => ?_⟩
    have tp2 : h2.get? s.heap.objs.size = some { cls := .type "tuple", data := .seq #[u, u2] } := (sb.2 _ (Nat.ne_of_gt zl)).trans tp
    have new : ObjOk X.prog X.w (upd H s.heap.objs.size (.tup [x, y])) h2 s.heap.objs.size (.tup [x, y]) :=
      ⟨by show 2 ≤ sizeLine; decide, [u, u2], .cons ru (.cons ru2 .nil), ⟨_, tp2, rfl, _, rfl⟩⟩
    have J : L2.Inv X pins σ (upd H s.heap.objs.size (.tup [x, y])) { s with heap := h2 } :=
      I.turnedNew (t' := s.toks) (ch := [z, TI, TO, i1, i2]) (fun c o hb q => (sb.2 c (fun q' => hb (by simp [q']))).trans (hk c o (fun q' => hb (by simp [q'])) (fun q' => hb (by simp [q'])) (fun q' => hb (by simp [q'])) (fun q' => hb (by simp [q'])) q)) hf (Nat.le_refl _) new
    refine ⟨.ref s.heap.objs.size, _, J, rfl, ⟨_, x, y, rfl, I.hok.fresh (Nat.le_refl _), rfl, fun l hl => by rw [I.list_inj hl qx]; exact gx, fun l hl => by rw [I.list_inj hl qy]; exact gy⟩, ⟨z2, ?_, ⟨u, u2, ?_⟩, ?_, ?_⟩, fun c hcm => ?_⟩
    · exact (sb.2 _ D.TIz).trans (hk _ _ D.TIz D.TITO D.TIi1 D.TIi2 ti)
    · exact (sb.2 _ D.TOz).trans to'
    · exact m1.at fun o q => (sb.2 _ D.i1z).trans q
    · exact m2.at fun o q => (sb.2 _ D.i2z).trans q
    · have hlt : c < s.heap.objs.size := by
        have five : c = z ∨ c = TI ∨ c = TO ∨ c = i1 ∨ c = i2 := by simpa using hcm
        rcases five with rfl | rfl | rfl | rfl | rfl
        · exact zl
        · exact Heap.lt_size ti
        · exact Heap.lt_size to
        · obtain ⟨_, e1, _⟩ := l1; exact Heap.lt_size e1
        · obtain ⟨_, e2, _⟩ := l2; exact Heap.lt_size e2
      rw [upd_ne (Nat.ne_of_lt hlt)]
      exact (hf c hcm).1
  done := by
    intro X hP hw hK hc i pins s σ H E I hf st hg
    subst hP hw hK
    obtain ⟨tz, ti, ⟨x0, y0, to⟩, l1, l2⟩ := st
    obtain ⟨xs, ys, qx, qy, n1, n2⟩ := hg
    obtain ⟨its, rv, p, _⟩ := I.list qx
    obtain ⟨its2, rv2, p2, _⟩ := I.list qy
    have len1 := rv.length
    have len2 := rv2.length
    have b1 : its.toArray[i]? = none := by simp; omega
    have b2 : its2.toArray[i]? = none := by simp; omega
    exact zipS_next_end (I.ok.hd hc) D tz ti to l1 l2 p.isList p2.isList b1 b2 fun h' hk => ⟨rfl, I.turnedL (t' := s.toks) (ch := [z, TI, TO, i1, i2]) (fun c o hb q =>
      hk c o (fun q' => hb (by simp [q'])) (fun q' => hb (by simp [q'])) (fun q' => hb (by simp [q'])) (fun q' => hb (by simp [q'])) q) hf⟩
  self := fun A i s Q E st h => zipS_self st.1 h
theorem callWith_tyK {M : Model} {A : Around} {E : Value → Shared → Prop} {s : Shared} {pos : Pos} {T : String} {first : List Value} {args : List (Bool × Sem Value)} {kw : List (Option Str × Sem Value)} {Q : Value → Shared → Prop}
    (hp : args.any (·.1) = false) (hk : kw.any (·.1.isNone) = false)
    (h : wpAny M A (evalArgs (.type T) true args kw) (fun a s1 => wpAny M A (call (.type T) (first ++ a.pos) a.kw) Q E s1) E s) :
    wpAny M A (callWith pos (.type T) first args kw) Q E s := by
  unfold callWith
  refine wpAny_bind (wpAny_holding (wpAny_mono h (fun a s1 q => wpAny_bind (wpAny_standAt ?_)) fun _ _ x => x))
  simp only [hp, hk, Bool.or_false]
  refine wpAny_bind (wpAny_pure ?_)
  exact wpAny_bind (wpAny_mono q (fun r s2 hr => wpAny_bind (wpAny_holding (wpAny_point (wpAny_pure hr)))) fun _ _ x => x)
section
variable {X : Cx} {E : WX} {k : Nat} {R : Rn} {G : List D} {C : CK} {p0 : Option V} {T : Fx} {p pur q : Bool} {B F H B1 F1 H1 : Hp} {σ : Sl} {Q : VK} {c : CT} {v : V} {u U : List Addr}
def iZipS (K : PySem.W.Frag) (ta : TA) : TI := fun σ H R => ta σ H fun vs H1 => ∃ a b xs ys, vs = [.ref a, .ref b] ∧ SqL K H1 a xs ∧ SqL K H1 b ys ∧ R (ItS K a b) H1
theorem pi_zipS {e e2 : Expr} {ta : TA} {fp pos tpos kp cp : Pos} {j} {elts : List Expr} {kk : Nat} (hg : Gl X "zip") (hm : X.mg "zip" = none) (ha : PA X [e, e2] ta) (h1 : notStar e = true) (h2 : notStar e2 = true) :
    PI X (.Tuple elts kk tpos) (.Call (.Name "zip" fp) [e, e2] [⟨some "strict", .Constant (.bool true) j cp, kp⟩] pos) (iZipS X.K ta) := by
  refine ⟨fun pins s σ H R I h => ?_⟩
  have hs : starEach [e, e2] X.env = (false, eval e X.env) :: starEach [e2] X.env := star_cons h1 [e2]
  have hpl : (backTo pos (starEach [e, e2] X.env)).any (·.1) = false := by rw [hs, star_cons h2]; rfl
  refine wpAny_Call_Name_kw (ld_blt I hg hm PyProof.Rows.boot_zip (callWith_tyK hpl rfl (evalArgs_kw2 rfl (thn (ha.run pos pins s σ H _ I h) fun us s1 ⟨vs, H1, I1, r1, q1⟩ => ?_) hs)))
  refine thn ((pk_cons (nm := some "strict") (kpos := kp) (pe_bl (b := true) (j := j) (pos := cp)) pk_nil).run pos pins s1 σ H1 (fun zs H2 => zs = [.bl true] ∧ ∃ a b xs ys, vs = [.ref a, .ref b] ∧ SqL X.K H2 a xs ∧ SqL X.K H2 b ys ∧ R (ItS X.K a b) H2) I1 ⟨rfl, q1⟩) fun ws s2 ⟨zs, H2, I2, r2, ez, q2⟩ => ?_
  subst ez
  obtain ⟨a, b, xs, ys, ex, hqx, hqy, q⟩ := q2
  subst ex
  have ew : ws = [.bool true] := by
    cases r2 with
    | cons r rr => cases rr; cases r; rfl
  subst ew
  cases r1 with
  | cons r rr =>
    cases rr with
    | cons r' rr =>
      cases rr
      cases r
      cases r'
      obtain ⟨its, rv, p1, _⟩ := I2.list hqx
      obtain ⟨its2, rv2, p2, _⟩ := I2.list hqy
      have la : a < s2.heap.objs.size := p1.lt
      have lb : b < s2.heap.objs.size := p2.lt
      refine call_zipS p1.isList p2.isList fun h' hz hTI hTO m1 m2 hsz hk => zipS_self hz ?_
      have J : L2.Inv X pins σ H2 { s2 with heap := h' } := I2.kept (t' := s2.toks) hk
      refine ⟨s2.heap.objs.size + 4, [s2.heap.objs.size + 4, s2.heap.objs.size + 2, s2.heap.objs.size + 3, s2.heap.objs.size, s2.heap.objs.size + 1], _, _, H2, rfl, J, turn_zipS (PySem.W.ktu_apart s2.heap.objs.size a b la lb), ⟨hz, hTI, ⟨_, _, hTO⟩, m1, m2⟩, fun c hcm => ?_, q⟩
      have five : c = s2.heap.objs.size + 4 ∨ c = s2.heap.objs.size + 2 ∨ c = s2.heap.objs.size + 3 ∨ c = s2.heap.objs.size ∨ c = s2.heap.objs.size + 1 := by simpa using hcm
      have hle : s2.heap.objs.size ≤ c := by
        rcases five with z | z | z | z | z
        · exact z ▸ Nat.le_add_right _ _
        · exact z ▸ Nat.le_add_right _ _
        · exact z ▸ Nat.le_add_right _ _
        · exact z ▸ Nat.le_refl _
        · exact z ▸ Nat.le_add_right _ _
      exact I2.fpOk hle (I2.hok.fresh hle)
theorem zl_rp {K : PySem.W.Frag} {xs : List D} {x : V} (f : Same F H) (r : RP K H F c x) (h : c.zl = some xs) : ∃ a vs, x = .ref a ∧ SqL K H a vs ∧ RDs K F xs vs := by
  have gen : c.lels = some xs → ∃ a vs, x = .ref a ∧ SqL K H a vs ∧ RDs K F xs vs := fun h => by
    obtain ⟨a, vs, e, ha, rs⟩ := lels_rp f r h
    exact ⟨a, vs, e, SqL.of ha, rs⟩
  cases c with
  | d d =>
    cases d <;> first | exact gen h | skip
    rename_i ns
    have e := Option.some.inj (show some (ns.map D.int) = some xs from h)
    subst e
    cases r with
    | d r =>
      cases r with
      | scr hq => exact ⟨_, _, rfl, f.seq hq, RDs.ints ns⟩
  | l cs => exact gen h
  | t cs => exact gen h
theorem zl_frz {xs : List D} (h : c.zl = some xs) : (CT.d c.frz).zl = some xs := by
  cases c with
  | d x => exact h
  | l cs =>
    have := lels_frz (c := .l cs) h
    rw [CT.frz] at this ⊢
    exact this
  | t cs => cases h
theorem zipD_get {xs ys : List D} {i : Nat} {d : D} (h : (zipD xs ys)[i]? = some d) : ∃ x y, xs[i]? = some x ∧ ys[i]? = some y ∧ d = .tup [x, y] := by
  unfold zipD at h
  rw [List.getElem?_map] at h
  cases e : (xs.zip ys)[i]? with
  | none => rw [e] at h; cases h
  | some p =>
    rw [e] at h
    have hd := (Option.some.inj h).symm
    obtain ⟨h1, h2⟩ := List.getElem?_zip_eq_some.mp e
    exact ⟨p.1, p.2, h1, h2, hd⟩
theorem yld_zip {K : PySem.W.Frag} {Y F0 : Hp} {a b : Addr} {vs ws : List V} {xs ys : List D} (h : SqL K Y a vs) (h' : SqL K Y b ws) (r : RDs K F0 xs vs) (r' : RDs K F0 ys ws) (hl : xs.length = ys.length) : Yld K (ItS K a b) Y F0 (zipD xs ys) := by
  have zl : (zipD xs ys).length = xs.length := by unfold zipD; rw [List.length_map, List.length_zip, hl, Nat.min_self]
  refine ⟨fun i H s hi => ?_, fun H s => ⟨vs, ws, s.seq h, s.seq h', Nat.le_of_eq (by rw [zl, r.length]), Nat.le_of_eq (by rw [zl, hl, r'.length])⟩, fun i H F x H' d s f0 f1 hd hy => ?_⟩
  · have i1 : i < vs.length := by rw [← r.length, ← zl]; exact hi
    have i2 : i < ws.length := by rw [← r'.length, ← hl, ← zl]; exact hi
    exact ⟨vs, ws, vs[i], ws[i], s.seq h, s.seq h', by simp [i1], by simp [i2]⟩
  · obtain ⟨Ta, y, z, rfl, hn, rfl, hx, hx2⟩ := hy
    obtain ⟨dx, dy, g1, g2, rfl⟩ := zipD_get hd
    obtain ⟨w1, q1, p1⟩ := r.get g1
    obtain ⟨w2, q2, p2⟩ := r'.get g2
    have e1 := Option.some.inj ((hx vs (s.seq h)).symm.trans q1)
    have e2 := Option.some.inj ((hx2 ws (s.seq h')).symm.trans q2)
    subst e1 e2
    exact ⟨_, .tup f1 hn (.cons (p1.mono f0) (.cons (p2.mono f0) .nil))⟩
theorem snd_zp (g : Good X E k R G C) {es : List ME} {f x y : Expr} {elts : List Expr} {kk j : Nat} {tpos pos cp kp : Pos} (ha : AllE X (rd X E p0) R G es [x, y]) (hf : blt1 X.env.scope "zip" f = true) : SI X (rd X E p0) R G (.zp es) (.Tuple elts kk tpos) (.Call f [x, y] [⟨some "strict", .Constant (.bool true) j cp, kp⟩] pos) := fun q hq => by
  have hp : q = true → ME.pus es = true := fun e => by have := hq e; rw [ME.pu] at this; exact this
  have epu : (ME.zp es).pu = ME.pus es := by rw [ME.pu]
  obtain ⟨fp, rfl, gl, hm⟩ := blt1_ok g hf
  have st := ha.star
  rw [List.all_cons, List.all_cons] at st
  refine (pi_zipS gl hm (ha.pa hp) (and_l st) (and_l (and_r st))).imp fun σ H R' h => ?_
  obtain ⟨env, B, F, U, s, w, h⟩ := h
  refine ⟨env, B, F, U, s, w, ?_⟩
  rw [ev] at h
  rw [epu] at h
  cases e : evs R G q es env with
  | exc c z => rw [e] at h; exact h
  | bad => rw [e] at h; exact h
  | ok r =>
    rw [e] at h
    intro vs H1 F1 U1 u1 g1 w1 s1 r1 k1
    have h : match (match zpf r.1 with
        | some xs => (.ok (.l (xs.map .d), r.2) : Res (CT × Env))
        | none => .bad) with
      | .ok r => ∃ xs, r.1.lels = some xs ∧ ∀ J H' F' U', Gr B F F' → WR B F' H' U' → SR X.K H' F' r.2 σ U' → Yld X.K J (if q = true then H' else F') F' xs → (ME.pus es = true → Same H H') → R' J H'
      | .exc c x => XP (rd X E p0) σ B F c x
      | .bad => False := h
    cases hz : zpf r.1 with
    | none => rw [hz] at h; exact h.elim
    | some zs =>
      rw [hz] at h
      obtain ⟨zs', hx, h⟩ := h
      have ex := Option.some.inj ((lels_map zs).symm.trans hx)
      subst ex
      unfold zpf at hz
      split at hz
      · rename_i c1 c2 e1
        split at hz
        · rename_i xs ys hx1 hx2
          by_cases hl : xs.length = ys.length
          · rw [if_pos hl] at hz
            have ez := Option.some.inj hz
            subst ez
            rw [e1] at r1
            cases q with
            | true =>
              have rp := r1.pp.2
              cases rp with
              | cons a1 b1 =>
                cases b1 with
                | cons a2 b2 =>
                  cases b2
                  obtain ⟨ad1, vs1, ea, sq1, rs1⟩ := zl_rp w1.f a1 hx1
                  obtain ⟨ad2, vs2, eb, sq2, rs2⟩ := zl_rp w1.f a2 hx2
                  subst ea eb
                  exact ⟨ad1, ad2, vs1, vs2, rfl, sq1, sq2, h _ H1 F1 U1 g1 w1.right s1 (yld_zip sq1 sq2 rs1 rs2 hl) k1⟩
            | false =>
              obtain ⟨wg, gg⟩ := w1.grown
              have fr := RCs.freeze w1 r1.cc
              rw [CT.frzs, CT.frzs, CT.frzs] at fr
              cases fr with
              | cons a1 b1 =>
                cases b1 with
                | cons a2 b2 =>
                  cases b2
                  obtain ⟨ad1, vs1, ea, sq1, rs1⟩ := zl_rp (H := grown F1 H1 u1) (Same.refl _) (.d a1) (zl_frz hx1)
                  obtain ⟨ad2, vs2, eb, sq2, rs2⟩ := zl_rp (H := grown F1 H1 u1) (Same.refl _) (.d a2) (zl_frz hx2)
                  subst ea eb
                  exact ⟨ad1, ad2, vs1, vs2, rfl, wg.f.seq sq1, wg.f.seq sq2, h _ H1 (grown F1 H1 u1) U1 (g1.trans gg) wg (SR.mono gg.s s1 fun _ _ => rfl) (yld_zip sq1 sq2 rs1 rs2 hl) k1⟩
          · rw [if_neg hl] at hz; cases hz
        · cases hz
      · cases hz
end
end PV

/-! Comprehensions: what a block needs. -/
namespace PV
open PySem PySem.Spec PyProof.Rows L2
section
variable {X : Cx} {E : WX} {k : Nat} {R : Rn} {G : List D} {C : CK} {p0 : Option V} {T : Fx} {p pur q : Bool} {B F H B1 F1 H1 : Hp} {σ : Sl} {Q : VK} {c : CT} {v : V} {u U : List Addr}
/-- a test -/
def tT (T : Fx) (pur : Bool) (f : Env → Res (Bool × Env)) : TT := fun σ H Q => ∃ env B F U, SR T.K H F env σ U ∧ WR B F H U ∧ match f env with
  | .ok r => ∀ H' F' U', Gr B F F' → WR B F' H' U' → SR T.K H' F' r.2 σ U' → (pur = true → Same H H') → Q r.1 H'
  | .exc c x => XP T σ B F c x
  | .bad => False
theorem evT_eq {m : ME} {env : Env} : evT R G m env = (ev R G m.pu m env).bd fun r => match asBl r.1 with
    | some b => .ok (b, r.2)
    | none => .bad := by
  unfold evT
  congr 1
  funext r
  obtain ⟨c, e⟩ := r
  cases c with
  | d d => cases d <;> rfl
  | _ => rfl
theorem ST.tT {m : ME} {e : Expr} (h : ST X T R G m e) : PT X e (tT T m.pu (evT R G m)) := by
  refine PT.imp h fun σ H Q z => ?_
  obtain ⟨env, B, F, U, s, w, z⟩ := z
  refine ⟨env, B, F, U, s, w, ?_⟩
  rw [evT_eq] at z
  cases e : ev R G m.pu m env with
  | ok r =>
    rw [e] at z
    intro v H' F' U' u g1 w1 s1 r1 k1
    have z : match (match asBl r.1 with
        | some b => (.ok (b, r.2) : Res (Bool × Env))
        | none => .bad) with
      | .ok r => ∀ H' F' U', Gr B F F' → WR B F' H' U' → SR T.K H' F' r.2 σ U' → (m.pu = true → Same H H') → Q r.1 H'
      | .exc c x => XP T σ B F c x
      | .bad => False := z
    cases hb : asBl r.1 with
    | none => rw [hb] at z; exact z.elim
    | some b =>
      rw [hb] at z
      have e1 := asBl_eq hb
      have rp := r1.rp
      rw [e1] at rp
      exact ⟨b, rp.bl, z H' F' U' g1 w1.right s1 k1⟩
  | exc c x => rw [e] at z; exact z
  | bad => rw [e] at z; exact z
theorem pts_of {cs : List ME} {ifs : List Expr} (h : AllT X T R G cs ifs) (hl : ifs.length < 2) : PTs X ifs (tT T (ME.pus cs) (evC R G cs)) := by
  cases h with
  | nil => exact ⟨fun pins s σ H Q I z => pts_nil.run pins s σ H Q I (by
      obtain ⟨env, B, F, U, s, w, z⟩ := z
      rw [evC] at z
      exact z H F U Gr.refl w s fun _ => Same.refl _)⟩
  | cons h r =>
    rename_i m e ms es
    cases r with
    | cons _ _ => simp at hl; omega
    | nil =>
      refine ⟨fun pins s σ H Q I z => (pts_one h.tT).run pins s σ H Q I ?_⟩
      have e1 : ME.pus [m] = m.pu := by rw [ME.pus, ME.pus, Bool.and_true]
      have e2 : evC R G [m] = evT R G m := by
        funext env
        rw [evC]
        rfl
      rw [e1, e2] at z
      exact z
/-! ### the block's names -/
theorem SR.clr : ∀ {own : List (Str × Nat)} {e : Env} {σ : Sl} {U : List Addr}, SR T.K H F e σ U → ∃ W, SR T.K H F (clr own e) (wipe σ (own.map (·.2))) W ∧ W.Sublist U
  | [], e, σ, U, s => ⟨U, s, List.Sublist.refl _⟩
  | p :: r, e, σ, U, s => by
    obtain ⟨W, s1, h1⟩ := SR.clr (own := r) s
    obtain ⟨W2, s2, h2, _⟩ := s1.drop p.2 none
    exact ⟨W2, s2, h2.trans h1⟩
theorem SR.put {i : Nat} {e : Env} {σ : Sl} {U : List Addr} {o : Option V} {x : Option CT} (s : SR T.K H F e (σ.set i none) U) (hx : ∀ c, x = some c → ∃ d v, c = .d d ∧ o = some v ∧ RD T.K F d v) : SR T.K H F (e.set i x) (σ.set i o) U := by
  induction i generalizing e σ U with
  | zero =>
    cases σ with
    | nil => cases s; exact .nil
    | cons a b =>
      rw [List.set_cons_zero] at s ⊢
      cases s with
      | ns r =>
        rw [List.set_cons_zero]
        cases x with
        | none => exact .ns r
        | some c =>
          obtain ⟨d, v, rfl, rfl, rd⟩ := hx c rfl
          exact SR.sm (u := []) (.d rd) r
  | succ i ih =>
    cases σ with
    | nil => cases s; exact .nil
    | cons a b =>
      rw [List.set_cons_succ] at s ⊢
      cases s with
      | ns r => rw [List.set_cons_succ]; exact .ns (ih r)
      | sm a r => rw [List.set_cons_succ]; exact .sm a (ih r)
theorem SR.at {i : Nat} : ∀ {i : Nat} {e : Env} {σ : Sl} {U : List Addr} {d : D}, SR T.K H F e σ U → e.get i = some (.d d) → ∃ v, σ[i]? = some (some v) ∧ RD T.K F d v
  | i, e, σ, U, d, s, h => by
    obtain ⟨v, u, W, h1, h2, _⟩ := s.get h
    cases h2 with
    | d h2 => exact ⟨v, h1, h2⟩
theorem set_get? {α : Type} (l : List α) (i : Nat) (a : α) (h : l[i]? = some a) : l.set i a = l := by
  apply List.ext_getElem?
  intro j
  by_cases e : i = j
  · subst e
    have hi : i < l.length := by
      rcases Nat.lt_or_ge i l.length with z | z
      · exact z
      · rw [List.getElem?_eq_none z] at h; cases h
    rw [List.getElem?_set_self hi, h]
  · rw [List.getElem?_set_ne e]
theorem wipe_set {σ : Sl} {i : Nat} {vs : List Nat} (h : i ∉ vs) (o : Option V) (hs : σ[i]? = some o) : (wipe σ vs)[i]? = some o := by rw [wipe_out h]; exact hs
theorem SR.back {e0 : Env} {U0 : List Addr} (f : Same F1 F) (s0 : SR T.K H1 F1 e0 σ U0) : ∀ {own : List (Str × Nat)} {e : Env}, (own.map (·.2)).Nodup → SR T.K H F e (wipe σ (own.map (·.2))) U → SR T.K H F (back e0 own e) σ U
  | [], e, _, s => s
  | p :: r, e, nd, s => by
    rw [List.map_cons] at nd s
    have nd2 := List.nodup_cons.mp nd
    refine SR.back f s0 (own := r) nd2.2 ?_
    have s : SR T.K H F e ((wipe σ (r.map (·.2))).set p.2 none) U := s
    have go : ∀ o, σ[p.2]? = some o → (∀ c, dOnly (e0.get p.2) = some c → ∃ d v, c = .d d ∧ o = some v ∧ RD T.K F d v) → SR T.K H F (e.set p.2 (dOnly (e0.get p.2))) (wipe σ (r.map (·.2))) U := fun o ho hc => by
      have := SR.put (o := o) (x := dOnly (e0.get p.2)) s hc
      rw [set_get? _ _ _ (wipe_set nd2.1 o ho)] at this
      exact this
    by_cases hl : p.2 < σ.length
    · refine go σ[p.2] (List.getElem?_eq_getElem hl) fun c hc => ?_
      cases hg : e0.get p.2 with
      | none => rw [hg] at hc; cases hc
      | some c0 =>
        rw [hg] at hc
        cases c0 with
        | d d =>
          have e : CT.d d = c := Option.some.inj hc
          subst e
          obtain ⟨v, h1, h2⟩ := SR.at (i := 0) s0 hg
          rw [List.getElem?_eq_getElem hl] at h1
          exact ⟨d, v, rfl, Option.some.inj h1, h2.mono f⟩
        | l _ => cases hc
        | t _ => cases hc
    · have l1 := s.len
      rw [List.length_set, wipe_length] at l1
      have e1 : e.set p.2 (dOnly (e0.get p.2)) = e := List.set_eq_of_length_le (by omega)
      have e2 : (wipe σ (r.map (·.2))).set p.2 none = wipe σ (r.map (·.2)) := List.set_eq_of_length_le (by rw [wipe_length]; omega)
      rw [e1]
      rw [e2] at s
      exact s
theorem wipe_get {σ : Sl} {i : Nat} : ∀ {vs : List Nat}, i ∈ vs → i < σ.length → (wipe σ vs)[i]? = some none
  | v :: vs, h, hl => by
    unfold wipe
    by_cases e : v = i
    · subst e
      rw [List.getElem?_set_self (by rw [wipe_length]; exact hl)]
    · rw [List.getElem?_set_ne e]
      exact wipe_get ((List.mem_cons.mp h).resolve_left fun z => e z.symm) hl
theorem wipe_agree {σ σ2 : Sl} {vs : List Nat} (hl : σ2.length = σ.length) (h : ∀ j, j ∉ vs → σ2[j]? = σ[j]?) : wipe σ2 vs = wipe σ vs := by
  apply List.ext_getElem?
  intro i
  by_cases m : i ∈ vs
  · by_cases hi : i < σ.length
    · rw [wipe_get m hi, wipe_get m (by rw [hl]; exact hi)]
    · rw [List.getElem?_eq_none (by rw [wipe_length, hl]; omega), List.getElem?_eq_none (by rw [wipe_length]; omega)]
  · rw [wipe_out m, wipe_out m, h i m]
end
end PV

/-! Comprehensions. -/
namespace PV
open PySem PySem.Spec PyProof.Rows L2
section
variable {X : Cx} {E : WX} {k : Nat} {R : Rn} {G : List D} {C : CK} {p0 : Option V} {T : Fx} {p pur q : Bool} {B F H B1 F1 H1 : Hp} {σ : Sl} {Q : VK} {c : CT} {v : V} {u U : List Addr}
/-- no exception is wanted -/
def lcBody (R : Rn) (G : List D) (own : List (Str × Nat)) (elt : ME) (t : Tgt) (cs : List ME) : D → Env → Res (List CT × Env) := fun x e => match asgC t (.d x) e with
  | some e1 => (evC R G cs e1).bd fun b => if b.1 = true then (ev R G false elt b.2).bd fun q => .ok ([q.1], clr own q.2) else .ok ([], clr own b.2)
  | none => .bad
theorem ev_lc {own : List (Str × Nat)} {elt : ME} {t : Tgt} {src : ME} {cs : List ME} {env : Env} : ev R G p (.lc own elt t src cs) env = (ev R G (elt.pu && (src.pu && ME.pus cs)) src env).bd fun r => match r.1.lels with
    | some xs => (forE (lcBody R G own elt t cs) xs (clr own r.2)).cut.bd fun q => if q.1.length ≤ lmax then .ok (.l q.1, back r.2 own q.2) else .bad
    | none => .bad := by
  rw [ev]
  rfl
structure LcW (K : PySem.W.Frag) (B F1 H1 : Hp) (σ : Sl) (own : List (Str × Nat)) (pre : List CT) (f : D → Env → Res (List CT × Env)) (tot : List CT × Env) (pu : Bool) (A : Addr) (xs : List D) (H2 : Hp) (done : List CT) (rest : List CT) (acc : List V) (envi : Env) (F2 : Hp) (u2 U2 : List Addr) : Prop where
  run : forE f xs envi = .ok (rest, tot.2)
  sum : done ++ rest = tot.1
  at_ : H2 A = some (.lst acc)
  rc : RCs K H2 F2 (pre ++ done) acc u2
  sr : SR K H2 F2 envi (wipe σ (own.map (·.2))) U2
  wr : WR B F2 H2 ((A :: u2) ++ U2)
  gr : Gr B F1 F2
  pu : pu = true → Same H1 H2
theorem forE_cons {f : D → Env → Res (List CT × Env)} {x : D} {xs : List D} {env : Env} {r : List CT × Env} (h : forE f (x :: xs) env = .ok r) : ∃ a b, f x env = .ok a ∧ forE f xs a.2 = .ok b ∧ r = (a.1 ++ b.1, b.2) := by
  rw [forE] at h
  cases e : f x env with
  | ok a =>
    rw [e] at h
    have h : ((forE f xs a.2).bd fun q => .ok (a.1 ++ q.1, q.2)) = .ok r := h
    cases e2 : forE f xs a.2 with
    | ok b => rw [e2] at h; exact ⟨a, b, rfl, e2, (Res.ok.inj h).symm⟩
    | exc c x => rw [e2] at h; cases h
    | bad => rw [e2] at h; cases h
  | exc c x => rw [e] at h; cases h
  | bad => rw [e] at h; cases h
theorem RCs.app {K : PySem.W.Frag} : ∀ {cs ds : List CT} {vs ws : List V} {u w : List Addr}, RCs K H F cs vs u → RCs K H F ds ws w → RCs K H F (cs ++ ds) (vs ++ ws) (u ++ w)
  | _, _, _, _, _, _, .nil, r => r
  | _, _, _, _, _, _, .cons a b, r => by
    rw [List.append_assoc]
    exact .cons a (RCs.app b r)
/-- one turn of the innermost loop -/
theorem lc_turn {own : List (Str × Nat)} {elt : ME} {t : Tgt} {cs : List ME} {pre : List CT} {tot : List CT × Env} {pu : Bool} {A : Addr} {d : D} {xs : List D} {H2 H' : Hp} {done rest : List CT} {acc : List V} {envi : Env} {F2 F3 : Hp} {u2 U2 : List Addr} {x : V}
    (sub : ∀ i ∈ t.slots, i ∈ own.map (·.2)) (hA : H1 A = none) (hl : pre.length + tot.1.length ≤ lmax) (hpu : pu = true → elt.pu = true ∧ ME.pus cs = true)
    (L : LcW X.K B F1 H1 σ own pre (lcBody R G own elt t cs) tot pu A (d :: xs) H2 done rest acc envi F2 u2 U2) (n : NewR X.K H2 F2 H' F3 (.d d) x []) :
    tG (rd X E0W none) t x (wipe σ (own.map (·.2))) H' fun σ2 H3 => wipe σ2 (own.map (·.2)) = wipe σ (own.map (·.2)) ∧ tT (rd X E0W none) (ME.pus cs) (evC R G cs) σ2 H3 fun b H4 =>
      if b = true then tE (rd X E0W none) false elt.pu (ev R G false elt) σ2 H4 fun y H5 => ∃ acc, H5 A = some (.lst acc) ∧ acc.length < sizeLine ∧ (∃ done rest acc2 envi F2 u2 U2, LcW X.K B F1 H1 σ own pre (lcBody R G own elt t cs) tot pu A xs (upd H5 A (.lst (acc ++ [y]))) done rest acc2 envi F2 u2 U2)
      else ∃ done rest acc envi F2 u2 U2, LcW X.K B F1 H1 σ own pre (lcBody R G own elt t cs) tot pu A xs H4 done rest acc envi F2 u2 U2 := by
  obtain ⟨w3, g3, eq3⟩ := L.wr.newR n
  have w3 : WR B F3 H' ((A :: u2) ++ U2) := w3
  obtain ⟨fa, fb, r1, r2, r3⟩ := forE_cons L.run
  obtain ⟨r3a, r3b⟩ := Prod.mk.inj r3
  unfold lcBody at r1
  cases ha : asgC t (.d d) envi with
  | none => rw [ha] at r1; cases r1
  | some e1 =>
    rw [ha] at r1
    have r1 : ((evC R G cs e1).bd fun b => if b.1 = true then (ev R G false elt b.2).bd fun q => .ok ([q.1], clr own q.2) else .ok ([], clr own b.2)) = .ok fa := r1
    have s3 : SR X.K H' F3 envi (wipe σ (own.map (·.2))) U2 := SR.mono n.gr.s L.sr fun a m => eq3 a (List.mem_append_right _ m)
    refine ⟨envi, lesser H' U2, F3, U2, .d d, [], e1, s3, w3.lesser, n.rc, (fun v e => by cases e), ha, fun σ' U' s' w' _ ag => ?_⟩
    have wa : wipe σ' (own.map (·.2)) = wipe σ (own.map (·.2)) := by
      have := wipe_agree (vs := own.map (·.2)) ag.1 fun j hj => ag.2 j fun z => hj (sub j z)
      rw [this]
      exact wipe_agree (wipe_length _ _) fun j hj => wipe_out hj
    refine ⟨wa, e1, lesser H' U2, F3, U', s', w', ?_⟩
    cases ec : evC R G cs e1 with
    | exc c x => rw [ec] at r1; cases r1
    | bad => rw [ec] at r1; cases r1
    | ok b =>
      rw [ec] at r1
      have r1 : (if b.1 = true then (ev R G false elt b.2).bd fun q => .ok ([q.1], clr own q.2) else .ok ([], clr own b.2)) = .ok fa := r1
      intro H4 F4 U4 g4 w4 s4 k4
      by_cases hb : b.1 = true
      · rw [if_pos hb]
        rw [if_pos hb] at r1
        refine ⟨b.2, lesser H' U2, F4, U4, s4, w4, ?_⟩
        cases ee : ev R G false elt b.2 with
        | exc c x => rw [ee] at r1; cases r1
        | bad => rw [ee] at r1; cases r1
        | ok z =>
          rw [ee] at r1
          have r1 := Res.ok.inj (show Res.ok ([z.1], clr own z.2) = .ok fa from r1)
          intro v H5 F5 U5 u5 g5 w5 s5 rv5 k5
          obtain ⟨w6, g6, eq6⟩ := w3.keep (g4.trans g5) w5
          have hA5 : H5 A = some (.lst acc) := by
            rw [eq6 A List.mem_cons_self, eq3 A (List.mem_append_left _ List.mem_cons_self)]; exact L.at_
          have lacc : acc.length = pre.length + done.length := by rw [← L.rc.rp.length, List.length_append]
          have ltot : done.length + rest.length = tot.1.length := by rw [← L.sum, List.length_append]
          have lrest : rest.length = 1 + fb.1.length := by rw [r3a, ← r1, List.length_append]; rfl
          refine ⟨acc, hA5, ?_, done ++ [z.1], fb.1, acc ++ [v], clr own z.2, F5, u2 ++ u5, ?_⟩
          · have : (lmax : Nat) < sizeLine := by decide
            omega
          obtain ⟨W0, sc, hs⟩ := SR.clr (own := own) s5
          have nin : ∀ a ∈ u2 ++ (u5 ++ U5), a ≠ A := fun a m e => by
            have := w6.nd
            rw [List.cons_append] at this
            exact (List.nodup_cons.mp this).1 (e ▸ m)
          have eqA : ∀ a ∈ u2 ++ (u5 ++ U5), upd H5 A (.lst (acc ++ [v])) a = H5 a := fun a m => upd_ne (nin a m)
          rw [wa] at sc
          refine ⟨W0, ?_, ?_, upd_same, ?_, ?_, ?_, ?_, ?_⟩
          · rw [← r1] at r2; rw [r3b]; exact r2
          · rw [List.append_assoc, ← L.sum, r3a, ← r1]
          · rw [← List.append_assoc]
            refine RCs.app ?_ ?_
            · refine RCs.mono (Same.refl _) (RCs.mono (H' := H5) g6.s (RCs.mono (H' := H') n.gr.s L.rc fun a m => eq3 a (List.mem_append_left _ (List.mem_cons_of_mem _ m))) fun a m => eq6 a (List.mem_cons_of_mem _ m)) fun a m => eqA a (List.mem_append_left _ m)
            · have rc5 := RC.mono (H' := upd H5 A (.lst (acc ++ [v]))) (Same.refl _) rv5.cc fun a m => eqA a (List.mem_append_right _ (List.mem_append_left _ m))
              have := RCs.cons rc5 .nil
              rw [List.append_nil] at this
              exact this
          · exact SR.mono (Same.refl _) sc fun a m => eqA a (List.mem_append_right _ (List.mem_append_right _ (hs.subset m)))
          · have w7 : WR B F5 (upd H5 A (.lst (acc ++ [v]))) ((A :: u2) ++ (u5 ++ U5)) := w6.write List.mem_cons_self
            refine w7.sub ?_
            rw [List.cons_append, List.cons_append, List.append_assoc]
            exact List.Sublist.cons_cons A (List.Sublist.append_left (List.Sublist.append_left hs u5) u2)
          · exact L.gr.trans (g3.trans g6)
          · intro z
            have zz := hpu z
            have sm : Same H1 H5 := (L.pu z).trans (n.same.trans ((k4 zz.2).trans (k5 zz.1)))
            intro a o ho
            have na : a ≠ A := fun e => by rw [e, hA] at ho; cases ho
            rw [upd_ne na]
            exact sm a o ho
      · rw [if_neg hb]
        rw [if_neg hb] at r1
        have r1 := Res.ok.inj r1
        obtain ⟨w6, g6, eq6⟩ := w3.keep g4 w4
        obtain ⟨W0, sc, hs⟩ := SR.clr (own := own) s4
        rw [wa] at sc
        refine ⟨done, fb.1, acc, clr own b.2, F4, u2, W0, ?_, ?_, ?_, ?_, sc, ?_, L.gr.trans (g3.trans g6), ?_⟩
        · rw [← r1] at r2; rw [r3b]; exact r2
        · rw [← L.sum, r3a, ← r1]; rfl
        · rw [eq6 A List.mem_cons_self, eq3 A (List.mem_append_left _ List.mem_cons_self)]; exact L.at_
        · exact RCs.mono (H' := H4) g6.s (RCs.mono (H' := H') n.gr.s L.rc fun a m => eq3 a (List.mem_append_left _ (List.mem_cons_of_mem _ m))) fun a m => eq6 a (List.mem_cons_of_mem _ m)
        · exact w6.sub (List.Sublist.append_left hs _)
        · intro z
          exact (L.pu z).trans (n.same.trans (k4 (hpu z).2))
theorem lc_ok {own : List (Str × Nat)} {elt : ME} {t : Tgt} {src : ME} {cs : List ME} (nd : (own.map (·.2)).Nodup) (sub : ∀ i ∈ t.slots, i ∈ own.map (·.2))
    (h : tE (rd X E p0) p (ME.lc own elt t src cs).pu (ev R G p (.lc own elt t src cs)) σ H Q) :
    tLc (tI (rd X E p0) (elt.pu && (src.pu && ME.pus cs)) src.pu (ev R G (elt.pu && (src.pu && ME.pus cs)) src)) (tG (rd X E0W none) t) (tT (rd X E0W none) (ME.pus cs) (evC R G cs)) (tE (rd X E0W none) false elt.pu (ev R G false elt)) (own.map (·.2)) σ H Q := by
  obtain ⟨env, B, F, U, s, w, h⟩ := h
  rw [ev_lc] at h
  have epu : (ME.lc own elt t src cs).pu = (elt.pu && (src.pu && ME.pus cs)) := by rw [ME.pu]
  rw [epu] at h
  generalize eq : (elt.pu && (src.pu && ME.pus cs)) = qq at h ⊢
  refine ⟨env, B, F, U, s, w, ?_⟩
  cases e : ev R G qq src env with
  | exc c x => rw [e] at h; exact h
  | bad => rw [e] at h; exact h
  | ok r =>
    rw [e] at h
    have h : Cont (rd X E p0) p qq B F H σ (match r.1.lels with
      | some xs => (forE (lcBody R G own elt t cs) xs (clr own r.2)).cut.bd fun q => if q.1.length ≤ lmax then .ok (.l q.1, back r.2 own q.2) else .bad
      | none => .bad) Q := h
    cases hx : r.1.lels with
    | none => rw [hx] at h; exact h.elim
    | some xs =>
      rw [hx] at h
      have h : Cont (rd X E p0) p qq B F H σ ((forE (lcBody R G own elt t cs) xs (clr own r.2)).cut.bd fun q => if q.1.length ≤ lmax then .ok (.l q.1, back r.2 own q.2) else .bad) Q := h
      refine ⟨xs, hx, fun J H1 F1 U1 g1 w1 s1 yl k1 => ?_⟩
      intro A hA
      cases ef : forE (lcBody R G own elt t cs) xs (clr own r.2) with
      | exc c x => rw [ef] at h; exact h.elim
      | bad => rw [ef] at h; exact h.elim
      | ok tot =>
        rw [ef] at h
        have h : Cont (rd X E p0) p qq B F H σ (if tot.1.length ≤ lmax then .ok (.l tot.1, back r.2 own tot.2) else .bad) Q := h
        by_cases hl : tot.1.length ≤ lmax
        · rw [if_pos hl] at h
          have sY : ∀ {F2 H2 : Hp} {U2 : List Addr}, Gr B F1 F2 → WR B F2 H2 U2 → (qq = true → Same H1 H2) → Same (if qq = true then H1 else F1) H2 := fun g2 w2 k2 => by
            cases qq with
            | true => exact k2 rfl
            | false => exact g2.s.trans w2.f
          refine ⟨fun i m H2 => m = xs.length - i ∧ i ≤ xs.length ∧ ∃ done rest acc envi F2 u2 U2, LcW X.K B F1 H1 σ own [] (lcBody R G own elt t cs) tot qq A (xs.drop i) H2 done rest acc envi F2 u2 U2, ⟨xs.length - 0, rfl, Nat.zero_le _, ?_⟩, ?_⟩
          · obtain ⟨W0, sc, hs⟩ := SR.clr (own := own) s1
            have wn := w1.new (o := .lst []) hA
            have eqn := new_eq (o := .lst []) w1 hA
            exact ⟨[], tot.1, [], clr own r.2, F1, [], W0, by rw [List.drop_zero]; exact ef, rfl, upd_same, .nil, SR.mono (Same.refl _) sc fun a m => eqn a (hs.subset m), wn.sub (List.Sublist.cons_cons A hs), Gr.refl, fun _ => new_same hA⟩
          · rintro i m H2 ⟨rfl, hi, done, rest, acc, envi, F2, u2, U2, L⟩
            have sy := sY L.gr L.wr L.pu
            by_cases hlt : i < xs.length
            · refine .inr ⟨yl.go i H2 sy hlt, fun H' => ∃ done rest acc envi F2 u2 U2, LcW X.K B F1 H1 σ own [] (lcBody R G own elt t cs) tot qq A (xs.drop (i + 1)) H' done rest acc envi F2 u2 U2, fun H' p' => ⟨xs.length - (i + 1), by omega, rfl, hlt, p'⟩, fun x H' hy => ?_⟩
              have hd : xs[i]? = some xs[i] := List.getElem?_eq_getElem hlt
              have hdrop : xs.drop i = xs[i] :: xs.drop (i + 1) := List.drop_eq_getElem_cons hlt
              obtain ⟨F3, n⟩ := yl.yld i H2 F2 x H' xs[i] sy L.gr.s L.wr.f hd hy
              rw [hdrop] at L
              exact lc_turn sub hA (by simpa using hl) (fun z => ⟨and_l (eq.trans z), and_r (and_r (eq.trans z))⟩) L n
            · have ei : i = xs.length := by omega
              subst ei
              refine .inl ⟨yl.stop H2 sy, ?_⟩
              have run := L.run
              rw [List.drop_length] at run
              have run := Res.ok.inj (show Res.ok ([], envi) = .ok (rest, tot.2) from run)
              obtain ⟨ra, rb⟩ := Prod.mk.inj run
              have sum := L.sum
              rw [← ra, List.append_nil] at sum
              rw [← sum, ← rb] at h
              have sb := SR.back (T := rd X E p0) (H := H2) L.gr.s s1 nd L.sr
              obtain ⟨u', r', w''⟩ := RV.mk (T := rd X E p0) (p := p) L.wr (RC.l L.at_ L.rc)
              exact h (.ref A) H2 F2 U2 u' (g1.trans L.gr) w'' sb r' fun z => (k1 (and_l (and_r (eq.trans z)))).trans (L.pu z)
        · rw [if_neg hl] at h; exact h.elim
/-! ### two loops -/
def lc2Body (R : Rn) (G : List D) (own own1 : List (Str × Nat)) (elt : ME) (t : Tgt) (t2 : Tgt) (src2 : ME) (cs : List ME) : D → Env → Res (List CT × Env) := fun x e => match asgC t (.d x) e with
  | some e1 => (ev R G false src2 e1).bd fun z => match z.1.lels with
    | some ys => (forE (lcBody R G own1 elt t2 cs) ys (clr own1 z.2)).bd fun w => .ok (w.1, clr own w.2)
    | none => .bad
  | none => .bad
theorem ev_lc2 {own own1 : List (Str × Nat)} {elt : ME} {t t2 : Tgt} {src src2 : ME} {cs : List ME} {env : Env} : ev R G p (.lc2 own own1 elt t src t2 src2 cs) env = (ev R G (elt.pu && (src.pu && (src2.pu && ME.pus cs))) src env).bd fun r => match r.1.lels with
    | some xs => (forE (lc2Body R G own own1 elt t t2 src2 cs) xs (clr own r.2)).cut.bd fun q => if q.1.length ≤ lmax then .ok (.l q.1, back r.2 own q.2) else .bad
    | none => .bad := by
  rw [ev]
  rfl
theorem lc2_ok {own own1 : List (Str × Nat)} {elt : ME} {t t2 : Tgt} {src src2 : ME} {cs : List ME} (nd : (own.map (·.2)).Nodup) (sub : ∀ i ∈ t.slots, i ∈ own.map (·.2)) (sub2 : ∀ i ∈ t2.slots, i ∈ own1.map (·.2)) (sub1 : ∀ i ∈ own1.map (·.2), i ∈ own.map (·.2))
    (h : tE (rd X E p0) p (ME.lc2 own own1 elt t src t2 src2 cs).pu (ev R G p (.lc2 own own1 elt t src t2 src2 cs)) σ H Q) :
    tLc2 (tI (rd X E p0) (elt.pu && (src.pu && (src2.pu && ME.pus cs))) src.pu (ev R G (elt.pu && (src.pu && (src2.pu && ME.pus cs))) src)) (tG (rd X E0W none) t) tYes (tI (rd X E0W none) false src2.pu (ev R G false src2)) (tG (rd X E0W none) t2) (tT (rd X E0W none) (ME.pus cs) (evC R G cs)) (tE (rd X E0W none) false elt.pu (ev R G false elt)) (own.map (·.2)) (own1.map (·.2)) σ H Q := by
  obtain ⟨env, B, F, U, s, w, h⟩ := h
  rw [ev_lc2] at h
  have epu : (ME.lc2 own own1 elt t src t2 src2 cs).pu = (elt.pu && (src.pu && (src2.pu && ME.pus cs))) := by rw [ME.pu]
  rw [epu] at h
  generalize eq : (elt.pu && (src.pu && (src2.pu && ME.pus cs))) = qq at h ⊢
  refine ⟨env, B, F, U, s, w, ?_⟩
  cases e : ev R G qq src env with
  | exc c x => rw [e] at h; exact h
  | bad => rw [e] at h; exact h
  | ok r =>
    rw [e] at h
    have h : Cont (rd X E p0) p qq B F H σ (match r.1.lels with
      | some xs => (forE (lc2Body R G own own1 elt t t2 src2 cs) xs (clr own r.2)).cut.bd fun q => if q.1.length ≤ lmax then .ok (.l q.1, back r.2 own q.2) else .bad
      | none => .bad) Q := h
    cases hx : r.1.lels with
    | none => rw [hx] at h; exact h.elim
    | some xs =>
      rw [hx] at h
      have h : Cont (rd X E p0) p qq B F H σ ((forE (lc2Body R G own own1 elt t t2 src2 cs) xs (clr own r.2)).cut.bd fun q => if q.1.length ≤ lmax then .ok (.l q.1, back r.2 own q.2) else .bad) Q := h
      refine ⟨xs, hx, fun J H1 F1 U1 g1 w1 s1 yl k1 => ?_⟩
      intro A hA
      cases ef : forE (lc2Body R G own own1 elt t t2 src2 cs) xs (clr own r.2) with
      | exc c x => rw [ef] at h; exact h.elim
      | bad => rw [ef] at h; exact h.elim
      | ok tot =>
        rw [ef] at h
        have h : Cont (rd X E p0) p qq B F H σ (if tot.1.length ≤ lmax then .ok (.l tot.1, back r.2 own tot.2) else .bad) Q := h
        by_cases hl : tot.1.length ≤ lmax
        · rw [if_pos hl] at h
          have sY : ∀ {F2 H2 : Hp} {U2 : List Addr}, Gr B F1 F2 → WR B F2 H2 U2 → (qq = true → Same H1 H2) → Same (if qq = true then H1 else F1) H2 := fun g2 w2 k2 => by
            cases qq with
            | true => exact k2 rfl
            | false => exact g2.s.trans w2.f
          refine ⟨fun i m H2 => m = xs.length - i ∧ i ≤ xs.length ∧ ∃ done rest acc envi F2 u2 U2, LcW X.K B F1 H1 σ own [] (lc2Body R G own own1 elt t t2 src2 cs) tot qq A (xs.drop i) H2 done rest acc envi F2 u2 U2, ⟨xs.length - 0, rfl, Nat.zero_le _, ?_⟩, ?_⟩
          · obtain ⟨W0, sc, hs⟩ := SR.clr (own := own) s1
            have wn := w1.new (o := .lst []) hA
            have eqn := new_eq (o := .lst []) w1 hA
            exact ⟨[], tot.1, [], clr own r.2, F1, [], W0, by rw [List.drop_zero]; exact ef, rfl, upd_same, .nil, SR.mono (Same.refl _) sc fun a m => eqn a (hs.subset m), wn.sub (List.Sublist.cons_cons A hs), Gr.refl, fun _ => new_same hA⟩
          · rintro i m H2 ⟨rfl, hi, done, rest, acc, envi, F2, u2, U2, L⟩
            have sy := sY L.gr L.wr L.pu
            by_cases hlt : i < xs.length
            · refine .inr ⟨yl.go i H2 sy hlt, fun H' => ∃ done rest acc envi F2 u2 U2, LcW X.K B F1 H1 σ own [] (lc2Body R G own own1 elt t t2 src2 cs) tot qq A (xs.drop (i + 1)) H' done rest acc envi F2 u2 U2, fun H' p' => ⟨xs.length - (i + 1), by omega, rfl, hlt, p'⟩, fun x H' hy => ?_⟩
              have hd : xs[i]? = some xs[i] := List.getElem?_eq_getElem hlt
              have hdrop : xs.drop i = xs[i] :: xs.drop (i + 1) := List.drop_eq_getElem_cons hlt
              obtain ⟨F3, n⟩ := yl.yld i H2 F2 x H' xs[i] sy L.gr.s L.wr.f hd hy
              obtain ⟨w3, g3, eq3⟩ := L.wr.newR n
              have w3 : WR B F3 H' ((A :: u2) ++ U2) := w3
              have run := L.run
              rw [hdrop] at run
              obtain ⟨fa, fb, r1, r2, r3⟩ := forE_cons run
              obtain ⟨r3a, r3b⟩ := Prod.mk.inj r3
              unfold lc2Body at r1
              cases ha : asgC t (.d xs[i]) envi with
              | none => rw [ha] at r1; cases r1
              | some e1 =>
                rw [ha] at r1
                have r1 : ((ev R G false src2 e1).bd fun z => match z.1.lels with
                  | some ys => (forE (lcBody R G own1 elt t2 cs) ys (clr own1 z.2)).bd fun w => .ok (w.1, clr own w.2)
                  | none => .bad) = .ok fa := r1
                have s3 : SR X.K H' F3 envi (wipe σ (own.map (·.2))) U2 := SR.mono n.gr.s L.sr fun a m => eq3 a (List.mem_append_right _ m)
                refine ⟨envi, lesser H' U2, F3, U2, .d xs[i], [], e1, s3, w3.lesser, n.rc, (fun v e => by cases e), ha, fun σ' U' s' w' _ ag => ?_⟩
                have wa : wipe σ' (own.map (·.2)) = wipe σ (own.map (·.2)) := by
                  have := wipe_agree (vs := own.map (·.2)) ag.1 fun j hj => ag.2 j fun z => hj (sub j z)
                  rw [this]
                  exact wipe_agree (wipe_length _ _) fun j hj => wipe_out hj
                refine ⟨wa, ?_⟩
                unfold tYes
                simp only [↓reduceIte]
                refine ⟨e1, lesser H' U2, F3, U', s', w', ?_⟩
                cases es : ev R G false src2 e1 with
                | exc c x => rw [es] at r1; cases r1
                | bad => rw [es] at r1; cases r1
                | ok z =>
                  rw [es] at r1
                  have r1 : (match z.1.lels with
                    | some ys => (forE (lcBody R G own1 elt t2 cs) ys (clr own1 z.2)).bd fun w => .ok (w.1, clr own w.2)
                    | none => .bad) = .ok fa := r1
                  cases hy2 : z.1.lels with
                  | none => rw [hy2] at r1; cases r1
                  | some ys =>
                    rw [hy2] at r1
                    have r1 : ((forE (lcBody R G own1 elt t2 cs) ys (clr own1 z.2)).bd fun w => .ok (w.1, clr own w.2)) = .ok fa := r1
                    cases ew : forE (lcBody R G own1 elt t2 cs) ys (clr own1 z.2) with
                    | exc c x => rw [ew] at r1; cases r1
                    | bad => rw [ew] at r1; cases r1
                    | ok tot1 =>
                      rw [ew] at r1
                      have r1 := Res.ok.inj (show Res.ok (tot1.1, clr own tot1.2) = .ok fa from r1)
                      refine ⟨ys, hy2, fun J1 H4 F4 U4 g4 w4 s4 yl1 k4 => ?_⟩
                      obtain ⟨w6, g6, eq6⟩ := w3.keep g4 w4
                      have llen : done.length + tot1.1.length ≤ lmax := by
                        have h1 : done.length + rest.length = tot.1.length := by rw [← L.sum, List.length_append]
                        have h2 : rest.length = tot1.1.length + fb.1.length := by rw [r3a, ← r1, List.length_append]
                        omega
                      refine ⟨fun j m H5 => m = ys.length - j ∧ j ≤ ys.length ∧ ∃ done1 rest1 acc1 envj F5 u5 U5, LcW X.K B F4 H1 σ' own1 done (lcBody R G own1 elt t2 cs) tot1 qq A (ys.drop j) H5 done1 rest1 acc1 envj F5 u5 U5, ⟨ys.length - 0, rfl, Nat.zero_le _, ?_⟩, ?_⟩
                      · obtain ⟨W0, sc, hs⟩ := SR.clr (own := own1) s4
                        refine ⟨[], tot1.1, acc, clr own1 z.2, F4, u2, W0, by rw [List.drop_zero]; exact ew, rfl, ?_, ?_, sc, w6.sub (List.Sublist.append_left hs _), Gr.refl, fun zz => ?_⟩
                        · rw [eq6 A List.mem_cons_self, eq3 A (List.mem_append_left _ List.mem_cons_self)]; exact L.at_
                        · rw [List.append_nil]
                          have := L.rc
                          rw [List.nil_append] at this
                          exact RCs.mono (H' := H4) g6.s (RCs.mono (H' := H') n.gr.s this fun a m => eq3 a (List.mem_append_left _ (List.mem_cons_of_mem _ m))) fun a m => eq6 a (List.mem_cons_of_mem _ m)
                        · exact (L.pu zz).trans (n.same.trans (k4 (and_l (and_r (and_r (eq.trans zz))))))
                      · rintro j m H5 ⟨rfl, hj, done1, rest1, acc1, envj, F5, u5, U5, L1⟩
                        have sy1 : Same F4 H5 := L1.gr.s.trans L1.wr.f
                        by_cases hlt1 : j < ys.length
                        · refine .inr ⟨yl1.go j H5 sy1 hlt1, fun H' => ∃ done1 rest1 acc1 envj F5 u5 U5, LcW X.K B F4 H1 σ' own1 done (lcBody R G own1 elt t2 cs) tot1 qq A (ys.drop (j + 1)) H' done1 rest1 acc1 envj F5 u5 U5, fun H' p' => ⟨ys.length - (j + 1), by omega, rfl, hlt1, p'⟩, fun x2 H6 hy6 => ?_⟩
                          have hd1 : ys[j]? = some ys[j] := List.getElem?_eq_getElem hlt1
                          have hdrop1 : ys.drop j = ys[j] :: ys.drop (j + 1) := List.drop_eq_getElem_cons hlt1
                          obtain ⟨F6, n6⟩ := yl1.yld j H5 F5 x2 H6 ys[j] sy1 L1.gr.s L1.wr.f hd1 hy6
                          rw [hdrop1] at L1
                          exact lc_turn sub2 hA llen (fun zz => ⟨and_l (eq.trans zz), and_r (and_r (and_r (eq.trans zz)))⟩) L1 n6
                        · have ej : j = ys.length := by omega
                          subst ej
                          refine .inl ⟨yl1.stop H5 sy1, ?_⟩
                          have run1 := L1.run
                          rw [List.drop_length] at run1
                          have run1 := Res.ok.inj (show Res.ok ([], envj) = .ok (rest1, tot1.2) from run1)
                          obtain ⟨ra, rb⟩ := Prod.mk.inj run1
                          have sum1 := L1.sum
                          rw [← ra, List.append_nil] at sum1
                          obtain ⟨W0, sc, hs⟩ := SR.clr (T := rd X E p0) (own := own) L1.sr
                          have wb : wipe (wipe σ' (own1.map (·.2))) (own.map (·.2)) = wipe σ (own.map (·.2)) := by
                            rw [← wa]
                            exact wipe_agree (wipe_length _ _) fun j hj => wipe_out fun z => hj (sub1 j z)
                          rw [wb] at sc
                          refine ⟨done ++ done1, fb.1, acc1, clr own envj, F5, u5, W0, ?_, ?_, L1.at_, ?_, sc, ?_, L.gr.trans (g3.trans (g6.trans L1.gr)), L1.pu⟩
                          · rw [← r1] at r2; rw [rb, r3b]; exact r2
                          · rw [List.append_assoc, ← L.sum, r3a, ← r1, sum1]
                          · exact L1.rc
                          · exact L1.wr.sub (List.Sublist.append_left hs _)
            · have ei : i = xs.length := by omega
              subst ei
              refine .inl ⟨yl.stop H2 sy, ?_⟩
              have run := L.run
              rw [List.drop_length] at run
              have run := Res.ok.inj (show Res.ok ([], envi) = .ok (rest, tot.2) from run)
              obtain ⟨ra, rb⟩ := Prod.mk.inj run
              have sum := L.sum
              rw [← ra, List.append_nil] at sum
              rw [← sum, ← rb] at h
              have sb := SR.back (T := rd X E p0) (H := H2) L.gr.s s1 nd L.sr
              obtain ⟨u', r', w''⟩ := RV.mk (T := rd X E p0) (p := p) L.wr (RC.l L.at_ L.rc)
              exact h (.ref A) H2 F2 U2 u' (g1.trans L.gr) w'' sb r' fun z => (k1 (and_l (and_r (eq.trans z)))).trans (L.pu z)
        · rw [if_neg hl] at h; exact h.elim
end
end PV

set_option maxHeartbeats 1000000
set_option maxRecDepth 20000
/-! All expressions. -/
namespace PV
open PySem PySem.Spec PyProof.Rows L2
section
variable {k : Nat} {R : Rn} {G : List D} {C : CK}
theorem Good.blk {X : Cx} {E : WX} (g : Good X E k R G C) (s : Shared) (H : Hp) (scope : Scope) (cenv : PySem.Env) (fp : List Addr) : Good (X.blk s H scope cenv fp) E0W k R G C :=
  ⟨g.calm, g.nd, g.room, g.gd, fun u s' ⟨_, _, _, _, _, _, _, _, _, _, _, _, _, _, _, _, w⟩ => w.elim, g.bl, g.con, g.err, g.fn⟩
theorem notSet {it : Expr} (h : (!(isSet it)) = true) : ∀ (env : PySem.Env) x, foldedSetIterable it env x = pure x := by
  intro env x
  cases it <;> first | rfl | exact Bool.noConfusion h
theorem and2 {a b : Bool} (h : (a && b) = true) : a = true ∧ b = true := Bool.and_eq_true_iff.mp h
theorem lit_con {X : Cx} {E : WX} {p0 : Option V} {d : D} {v : V} {e : Expr} (he : PE X e (tC v)) (hd : ∀ F, RD X.K F d v) : SE X (rd X E p0) R G (.lit d) e := fun p _ =>
  he.imp fun σ H Q z => tE.const (T := rd X E p0) (d := d) (fun e => by rw [ev]) hd z
theorem lit_ok {X : Cx} {E : WX} {p0 : Option V} : ∀ {d : D} {e : Expr}, litC d e = true → SE X (rd X E p0) R G (.lit d) e ∧ notStar e = true
  | .non, .Constant .none _ _, _ => ⟨lit_con pe_non fun _ => .non, rfl⟩
  | .bl b, .Constant (.bool c) _ _, h => by
    have e : b = c := by simpa [litC] using h
    subst e
    exact ⟨lit_con pe_bl fun _ => .bl _, rfl⟩
  | .int i, .Constant (.int j) _ _, h => by
    have e : i = j := by simpa [litC] using h
    subst e
    exact ⟨lit_con pe_int fun _ => .int _, rfl⟩
  | .str i, .Constant (.str j) _ _, h => by
    have e : i = j := by simpa [litC] using h
    subst e
    exact ⟨lit_con pe_str fun _ => .str _, rfl⟩
theorem glob_ok {X : Cx} {E : WX} {p0 : Option V} (g : Good X E k R G C) {i : Nat} {e : Expr} (h : glbC X.env.scope C.gs i e = true) : SE X (rd X E p0) R G (.glob i) e := fun p _ => by
  cases e <;> first | exact Bool.noConfusion h | skip
  rename_i x pos
  have h : (decide (C.gs[i]? = some x) && (glC X.env.scope x && plainName x)) = true := h
  rw [Bool.and_eq_true, Bool.and_eq_true] at h
  have h1 := of_decide_eq_true h.1
  cases eg : G[i]? with
  | none =>
    exact ⟨fun pins s σ H Q I z => by obtain ⟨env, B, F, U, sr, w, z⟩ := z; rw [ev, eg] at z; exact z.elim⟩
  | some d =>
    obtain ⟨u, v, m1, m2, m3⟩ := g.con i x d h1 eg
    exact (pe_glob (glC_ok h.2.1) m1 m2 (plainName_ok h.2.2).1).imp fun σ H Q z => tE.const (T := rd X E p0) (d := d) (fun e => by rw [ev, eg]) m3 z
theorem bad_ok {X : Cx} {E : WX} {p0 : Option V} {e : Expr} : SE X (rd X E p0) R G .bad e := fun p _ =>
  ⟨fun pins s σ H Q I z => by obtain ⟨env, B, F, U, sr, w, z⟩ := z; rw [ev] at z; exact z.elim⟩
theorem SE.st {X : Cx} {T : Fx} {m : ME} {e : Expr} (h : SE X T R G m e) (he : ∀ env whole, isTrue e env whole = (do let v ← whole; standAt e.pos; holding [v] (truthy v))) : ST X T R G m e := pt_val h.self fun w => he X.env w
mutual
/-- an error's value -/
theorem snd_attr {X : Cx} {E : WX} {p0 : Option V} {all : List Str} {a : ME} {o n : Str} {op pos : Pos} (g : Good X E k R G C) (ha : SE X (rd X E p0) R G a (.Name o op)) (hn : n = "value") (hall : ∀ c ∈ all, c ∈ C.es) : SE X (rd X E p0) R G (.attr all a) (.Attribute (.Name o op) n pos) := by
  subst hn
  intro p hp
  refine (pe_xv (X := X) (T := fun Ca => ∃ c ∈ C.es, Ca = He.ga X.K c) (fun Ca ⟨c, hc, e⟩ => e ▸ (g.err c hc).t) (ha a.pu fun e => e) (by first | rfl | (unfold attributeBase; rfl))).imp fun σ H Q z => ?_
  refine tE.post (tE.one (q := a.pu) (g := xval all) (fun e => by rw [ev] <;> rfl) (fun e => by rw [ME.pu] at e; exact e) z) fun x H1 ⟨c, F, d, hf, rp, hx, q⟩ => ?_
  unfold xval at hx
  split at hx
  · rename_i cn v
    split at hx
    · rename_i hc
      obtain rfl := Option.some.inj hx
      cases rp with
      | d rd =>
        cases rd with
        | exn h1 h2 r => exact ⟨_, _, _, _, rfl, ⟨cn, hall cn hc, rfl⟩, hf _ _ h1, hf _ _ h2, q _ r⟩
    · cases hx
  · cases hx
theorem sndE (m : ME) (X : Cx) (E : WX) (p0 : Option V) (e : Expr) (g : Good X E k R G C) (h : chkE C X.N m X.env.scope e = true) : SE X (rd X E p0) R G m e := by
  cases m with
  | bad => exact bad_ok
  | lit d => exact (lit_ok (by rw [chkE] at h; exact h)).1
  | glob i => exact glob_ok g (by rw [chkE] at h; exact h)
  | var i => exact snd_var (by rw [chkE] at h; exact h)
  | take i => exact snd_take (by rw [chkE] at h; exact h)
  | fr a => exact snd_fr (sndE a X E p0 e g (by rw [chkE] at h; exact h))
  | tup es =>
    unfold chkE at h
    split at h <;> first | contradiction | skip
    rename_i z; cases z
    obtain ⟨h1, h2⟩ := and2 h
    have a := sndEs es X E p0 _ g h1
    exact fun p hp => snd_tup (a.pa (p := p) (fun e => by have := hp e; rw [ME.pu] at this; exact this)) rfl (of_decide_eq_true h2) a.len
  | lst es =>
    unfold chkE at h
    split at h <;> first | contradiction | skip
    rename_i z; cases z
    obtain ⟨h1, h2⟩ := and2 h
    have a := sndEs es X E p0 _ g h1
    exact fun p hp => snd_lst (a.pa (p := p) (fun e => by have := hp e; rw [ME.pu] at this; exact this)) (of_decide_eq_true h2) a.len
  | op o a b =>
    unfold chkE at h
    split at h <;> first | contradiction | skip
    all_goals rename_i z; cases z
    · obtain ⟨h1, h2⟩ := and2 h
      obtain ⟨h2, h3⟩ := and2 h2
      exact snd_bin (sndE a X E p0 _ g h2) (sndE b X E p0 _ g h3) h1
    · obtain ⟨h1, h2⟩ := and2 h
      obtain ⟨h2, h3⟩ := and2 h2
      obtain ⟨h3, h4⟩ := and2 h3
      exact snd_cmp g.hu (sndE a X E p0 _ g h3) (sndE b X E p0 _ g h4) h1 (by simpa using h2)
  | attr all a =>
    unfold chkE at h
    split at h <;> first | contradiction | skip
    rename_i z; cases z
    obtain ⟨h1, h2⟩ := and2 h
    obtain ⟨h2, h3⟩ := and2 h2
    exact snd_attr g (sndE a X E p0 _ g h3) (of_decide_eq_true h1) (of_decide_eq_true h2)
  | neg a =>
    unfold chkE at h
    split at h <;> first | contradiction | skip
    rename_i z; cases z
    exact snd_neg (sndE a X E p0 _ g h)
  | not a =>
    unfold chkE at h
    split at h <;> first | contradiction | skip
    rename_i z; cases z
    exact snd_not (sndE a X E p0 _ g h)
  | and es =>
    unfold chkE at h
    split at h <;> first | contradiction | skip
    rename_i z; cases z
    have a := sndEs es X E p0 _ g h
    intro p hp
    cases es with
    | nil => exact ⟨fun pins s σ H Q I z => by obtain ⟨env, B, F, U, sr, w, z⟩ := z; rw [ev, evAnd] at z; exact z.elim⟩
    | cons m1 ms =>
      refine (snd_ands a (ME.and (m1 :: ms)).pu p (fun e => by rw [ME.pu] at e; exact e) (fun e => by have := hp e; rw [ME.pu] at this; exact this) (by simp)).imp fun σ H Q z => ?_
      have e : ev R G p (.and (m1 :: ms)) = evAnd R G (m1 :: ms) := by funext env; rw [ev]
      rw [e] at z; exact z
  | or es =>
    unfold chkE at h
    split at h <;> first | contradiction | skip
    rename_i z; cases z
    have a := sndEs es X E p0 _ g h
    intro p hp
    cases es with
    | nil => exact ⟨fun pins s σ H Q I z => by obtain ⟨env, B, F, U, sr, w, z⟩ := z; rw [ev, evOr] at z; exact z.elim⟩
    | cons m1 ms =>
      refine (snd_ors a (ME.or (m1 :: ms)).pu p (fun e => by rw [ME.pu] at e; exact e) (fun e => by have := hp e; rw [ME.pu] at this; exact this) (by simp)).imp fun σ H Q z => ?_
      have e : ev R G p (.or (m1 :: ms)) = evOr R G (m1 :: ms) := by funext env; rw [ev]
      rw [e] at z; exact z
  | chain a os es =>
    unfold chkE at h
    split at h <;> first | contradiction | skip
    rename_i z; cases z
    obtain ⟨h1, h2⟩ := and2 h
    obtain ⟨h2, h3⟩ := and2 h2
    obtain ⟨h3, h4⟩ := and2 h3
    obtain ⟨h4, h5⟩ := and2 h4
    obtain ⟨h5, h6⟩ := and2 h5
    exact snd_chain g.hu (sndE a X E p0 _ g h5) (sndEs es X E p0 _ g h6) h1 (of_decide_eq_true h2) (of_decide_eq_true h3) (by simpa using h4)
  | ife c a b =>
    unfold chkE at h
    split at h <;> first | contradiction | skip
    rename_i z; cases z
    obtain ⟨h1, h2⟩ := and2 h
    obtain ⟨h0, h1⟩ := and2 h1
    obtain ⟨h2, h3⟩ := and2 h2
    exact snd_ife (sndT c X E p0 _ g h1 h0) (sndE a X E p0 _ g h2) (sndE b X E p0 _ g h3)
  | idx a i =>
    unfold chkE at h
    split at h <;> first | contradiction | skip
    rename_i z; cases z
    obtain ⟨h1, h2⟩ := and2 h
    obtain ⟨h2, h3⟩ := and2 h2
    exact snd_idx (sndE a X E p0 _ g h2) (sndE i X E p0 _ g h3) h1
  | slc a lo hi =>
    unfold chkE at h
    split at h <;> first | contradiction | skip
    rename_i z; cases z
    obtain ⟨h1, h2⟩ := and2 h
    obtain ⟨h2, h3⟩ := and2 h2
    exact snd_slc (sndE a X E p0 _ g h1) (sndO lo X E p0 _ g h2) (sndO hi X E p0 _ g h3)
  | isi a ts =>
    unfold chkE at h
    split at h <;> first | contradiction | skip
    rename_i z; cases z
    obtain ⟨h1, h2⟩ := and2 h
    obtain ⟨h2, h3⟩ := and2 h2
    obtain ⟨h3, h4⟩ := and2 h3
    exact snd_isi g (sndE a X E p0 _ g h3) h1 h2 h4
  | call bor f es =>
    unfold chkE at h
    split at h <;> first | contradiction | skip
    rename_i z; cases z
    obtain ⟨h1, h2⟩ := and2 h
    have a := sndEs es X E p0 _ g h2
    intro p hp
    by_cases hb : (bor && ME.pus es) = true
    · exact snd_callB g (a.pa (p := true) fun _ => and_r hb) a.star h1 bor hb
    · exact snd_call g (a.pa (p := false) fun e => by cases e) a.star h1 bor (by simpa using hb)
  | callIO f i es =>
    unfold chkE at h
    split at h <;> first | contradiction | skip
    rename_i z; cases z
    obtain ⟨h1, h2⟩ := and2 h
    obtain ⟨h2, h3⟩ := and2 h2
    exact fun p hp => snd_callIO g h2 (sndEs es X E p0 _ g h3) h1
  | callK f perm ks es =>
    unfold chkE at h
    split at h <;> first | contradiction | skip
    rename_i z; cases z
    obtain ⟨h1, h2⟩ := and2 h
    obtain ⟨h2, h3⟩ := and2 h2
    exact fun p hp => snd_callK g (sndEs es X E p0 _ g h2) h1 (of_decide_eq_true h3)
  | bi b es =>
    unfold chkE at h
    split at h <;> first | contradiction | skip
    · rename_i z; cases z
      obtain ⟨h1, h2⟩ := and2 h
      obtain ⟨h2, h3⟩ := and2 h2
      exact snd_bi g (sndEs es X E p0 _ g h3) h1 h2
    · rename_i z1
      cases z1
      obtain ⟨h1, h2⟩ := and2 h
      obtain ⟨q2, q3⟩ := and2 h2
      obtain ⟨line, q4⟩ := and2 q3
      have e := of_decide_eq_true h1
      subst e
      have e2 := of_decide_eq_true q2
      subst e2
      have al := sndEs es X E p0 _ g q4
      cases al with
      | cons _ a r =>
        cases r
        exact snd_blen a line
  | sq a => unfold chkE at h; cases h
  | rg a => unfold chkE at h; cases h
  | en a => unfold chkE at h; cases h
  | zp es => unfold chkE at h; cases h
  | lc own elt t src cs =>
    unfold chkE at h
    split at h <;> first | contradiction | skip
    rename_i z; cases z
    rename_i el tg it ifs as scope pos
    obtain ⟨h0, h⟩ := and2 h
    obtain ⟨h1, h⟩ := and2 h
    obtain ⟨h2, h⟩ := and2 h
    obtain ⟨h3, h⟩ := and2 h
    obtain ⟨h4, h⟩ := and2 h
    obtain ⟨h5, h⟩ := and2 h
    obtain ⟨h6, h⟩ := and2 h
    obtain ⟨h7, h⟩ := and2 h
    obtain ⟨h8, h⟩ := and2 h
    obtain ⟨h9, h10⟩ := and2 h
    have e0 := of_decide_eq_true h0
    subst e0
    intro p hp
    refine (pe_lc g.calm g.nd (sndS src X E p0 tg it g h3 (elt.pu && (src.pu && ME.pus cs)) fun e => and_l (and_r e)) (blkOk_by h2)
      (fun s H Cc cl fp => pg_tgt (X := X.blk s H scope (compEnvC scope cl Cc X.env) fp) (io := false) (T := rd X E0W none) g.calm g.nd rfl (fun _ => rfl) t tg h4)
      (fun s H Cc cl fp => pts_of (sndTs cs (X.blk s H scope (compEnvC scope cl Cc X.env) fp) E0W none ifs (g.blk s H scope _ fp) h5 h6) (of_decide_eq_true h7))
      (fun s H Cc cl fp => sndE elt (X.blk s H scope (compEnvC scope cl Cc X.env) fp) E0W none el (g.blk s H scope _ fp) h8 false (fun e => by cases e)) (notSet h1 X.env)).imp fun σ H Q z => lc_ok (of_decide_eq_true h9) (of_decide_eq_true h10) z
  | lc2 own own1 elt t src t2 src2 cs =>
    unfold chkE at h
    split at h <;> first | contradiction | skip
    rename_i z; cases z
    rename_i el tg it as tg1 it1 ifs as1 scope pos
    obtain ⟨h0, h⟩ := and2 h
    obtain ⟨h1, h⟩ := and2 h
    obtain ⟨h1b, h⟩ := and2 h
    obtain ⟨h2, h⟩ := and2 h
    obtain ⟨h3, h⟩ := and2 h
    obtain ⟨h4, h⟩ := and2 h
    obtain ⟨h3b, h⟩ := and2 h
    obtain ⟨h4b, h⟩ := and2 h
    obtain ⟨h5, h⟩ := and2 h
    obtain ⟨h6, h⟩ := and2 h
    obtain ⟨h7, h⟩ := and2 h
    obtain ⟨h8, h⟩ := and2 h
    obtain ⟨h9, h⟩ := and2 h
    obtain ⟨h10, h⟩ := and2 h
    obtain ⟨h11, h12⟩ := and2 h
    obtain ⟨e0, e1⟩ := of_decide_eq_true h0
    subst e0 e1
    intro p hp
    refine (pe_lc2 g.calm g.nd (sndS src X E p0 tg it g h3 (elt.pu && (src.pu && (src2.pu && ME.pus cs))) fun e => and_l (and_r e)) (blkOk_by h2) (of_decide_eq_true h12)
      (fun s H Cc cl fp => pg_tgt (X := X.blk s H scope (compEnvC scope cl Cc X.env) fp) (io := false) (T := rd X E0W none) g.calm g.nd rfl (fun _ => rfl) t tg h4) (fun s H Cc cl fp => pts_nil)
      (fun s H Cc cl fp => sndS src2 (X.blk s H scope (compEnvC scope cl Cc X.env) fp) E0W none tg1 it1 (g.blk s H scope _ fp) h3b false (fun e => by cases e))
      (fun s H Cc cl fp => pg_tgt (X := X.blk s H scope (compEnvC scope cl Cc X.env) fp) (io := false) (T := rd X E0W none) g.calm g.nd rfl (fun _ => rfl) t2 tg1 h4b)
      (fun s H Cc cl fp => pts_of (sndTs cs (X.blk s H scope (compEnvC scope cl Cc X.env) fp) E0W none ifs (g.blk s H scope _ fp) h5 h6) (of_decide_eq_true h7))
      (fun s H Cc cl fp => sndE elt (X.blk s H scope (compEnvC scope cl Cc X.env) fp) E0W none el (g.blk s H scope _ fp) h8 false (fun e => by cases e)) (notSet h1 X.env) (fun env => notSet h1b env)).imp fun σ H Q z =>
        lc2_ok (of_decide_eq_true h9) (of_decide_eq_true h10) (of_decide_eq_true h11) (of_decide_eq_true h12) z
termination_by (sizeOf m, 0)
theorem sndEs (ms : List ME) (X : Cx) (E : WX) (p0 : Option V) (es : List Expr) (g : Good X E k R G C) (h : chkEs C X.N ms X.env.scope es = true) : AllE X (rd X E p0) R G ms es := by
  match ms, es with
  | [], [] => exact .nil
  | [], _ :: _ => simp [chkEs] at h
  | _ :: _, [] => simp [chkEs] at h
  | m :: ms, e :: es =>
    rw [chkEs] at h
    obtain ⟨h1, h⟩ := and2 h
    obtain ⟨h2, h3⟩ := and2 h
    exact .cons h1 (sndE m X E p0 e g h2) (sndEs ms X E p0 es g h3)
termination_by (sizeOf ms, 0)
theorem sndT (m : ME) (X : Cx) (E : WX) (p0 : Option V) (e : Expr) (g : Good X E k R G C) (h : chkE C X.N m X.env.scope e = true) (ht : tstC m e = true) : ST X (rd X E p0) R G m e := by
  have se := sndE m X E p0 e g h
  cases m with
  | bad => exact ⟨fun pins s σ H Q I z => by obtain ⟨env, B, F, U, sr, w, z⟩ := z; rw [ev] at z; exact z.elim⟩
  | fr a => exact Bool.noConfusion ht
  | not a =>
    unfold chkE at h
    split at h <;> first | contradiction | skip
    rename_i z; cases z
    exact snd_notT (sndT a X E p0 _ g h (by rw [tstC] at ht; exact ht))
  | and es =>
    unfold chkE at h
    split at h <;> first | contradiction | skip
    rename_i z; cases z
    have a := sndTs es X E p0 _ g h (by rw [tstC] at ht; exact ht)
    cases es with
    | nil => exact ⟨fun pins s σ H Q I z => by obtain ⟨env, B, F, U, sr, w, z⟩ := z; rw [ev, evAnd] at z; exact z.elim⟩
    | cons m1 ms =>
      have e : ev R G (ME.and (m1 :: ms)).pu (.and (m1 :: ms)) = evAnd R G (m1 :: ms) := by funext env; rw [ev]
      unfold ST
      rw [e]
      exact pw_pt (snd_andT a (ME.and (m1 :: ms)).pu (ME.and (m1 :: ms)).pu (fun e => by rw [ME.pu] at e; exact e) (by simp))
  | or es =>
    unfold chkE at h
    split at h <;> first | contradiction | skip
    rename_i z; cases z
    have a := sndTs es X E p0 _ g h (by rw [tstC] at ht; exact ht)
    cases es with
    | nil => exact ⟨fun pins s σ H Q I z => by obtain ⟨env, B, F, U, sr, w, z⟩ := z; rw [ev, evOr] at z; exact z.elim⟩
    | cons m1 ms =>
      have e : ev R G (ME.or (m1 :: ms)).pu (.or (m1 :: ms)) = evOr R G (m1 :: ms) := by funext env; rw [ev]
      unfold ST
      rw [e]
      exact pw_pt (snd_orT a (ME.or (m1 :: ms)).pu (ME.or (m1 :: ms)).pu (fun e => by rw [ME.pu] at e; exact e) (by simp))
  | op o a b =>
    unfold chkE at h
    split at h <;> first | contradiction | skip
    all_goals rename_i z; cases z
    · exact se.st fun _ _ => rfl
    · obtain ⟨h1, h2⟩ := and2 h
      obtain ⟨h2, h3⟩ := and2 h2
      obtain ⟨h3, h4⟩ := and2 h3
      exact snd_cmpT g.hu (sndE a X E p0 _ g h3) (sndE b X E p0 _ g h4) h1 (by simpa using h2)
  | chain a os es =>
    unfold chkE at h
    split at h <;> first | contradiction | skip
    rename_i z; cases z
    obtain ⟨h1, h2⟩ := and2 h
    obtain ⟨h2, h3⟩ := and2 h2
    obtain ⟨h3, h4⟩ := and2 h3
    obtain ⟨h4, h5⟩ := and2 h4
    obtain ⟨h5, h6⟩ := and2 h5
    exact snd_chainT g.hu (sndE a X E p0 _ g h5) (sndEs es X E p0 _ g h6) h1 (of_decide_eq_true h2) (of_decide_eq_true h3) (by simpa using h4)
  | lit d =>
    rw [chkE] at h
    unfold litC at h
    split at h <;> first | contradiction | exact se.st fun _ _ => rfl
  | glob i =>
    rw [chkE] at h
    cases e <;> first | exact Bool.noConfusion h | exact se.st fun _ _ => rfl
  | var i =>
    rw [chkE] at h
    cases e <;> first | exact Bool.noConfusion h | exact se.st fun _ _ => rfl
  | take i =>
    rw [chkE] at h
    cases e <;> first | exact Bool.noConfusion h | exact se.st fun _ _ => rfl
  | ife c a b =>
    unfold chkE at h
    split at h <;> contradiction
  | sq a => unfold chkE at h; cases h
  | rg a => unfold chkE at h; cases h
  | en a => unfold chkE at h; cases h
  | zp es => unfold chkE at h; cases h
  | _ =>
    unfold chkE at h
    split at h <;> first | contradiction | exact se.st fun _ _ => rfl
termination_by (sizeOf m, 1)
theorem sndTs (ms : List ME) (X : Cx) (E : WX) (p0 : Option V) (es : List Expr) (g : Good X E k R G C) (h : chkEs C X.N ms X.env.scope es = true) (ht : tstCs ms es = true) : AllT X (rd X E p0) R G ms es := by
  match ms, es with
  | [], [] => exact .nil
  | [], _ :: _ => simp [chkEs] at h
  | _ :: _, [] => simp [chkEs] at h
  | m :: ms, e :: es =>
    rw [chkEs] at h
    rw [tstCs] at ht
    obtain ⟨h1, h⟩ := and2 h
    obtain ⟨h2, h3⟩ := and2 h
    obtain ⟨t1, t2⟩ := and2 ht
    exact .cons (sndT m X E p0 e g h2 t1) (sndTs ms X E p0 es g h3 t2)
termination_by (sizeOf ms, 0)
theorem sndO (m : ME) (X : Cx) (E : WX) (p0 : Option V) (e : Option Expr) (g : Good X E k R G C) (h : (match e with | some y => !(nonLit m) && chkE C X.N m X.env.scope y | none => nonLit m) = true) : SO X (rd X E p0) R G m e := by
  cases e with
  | none =>
    cases m with
    | lit d => cases d <;> first | exact .inl ⟨rfl, rfl⟩ | exact Bool.noConfusion h
    | _ => exact Bool.noConfusion h
  | some x =>
    obtain ⟨h1, h2⟩ := and2 h
    refine .inr ⟨x, rfl, sndE m X E p0 x g h2, ?_⟩
    funext c
    cases m with
    | lit d => cases d <;> first | rfl | exact Bool.noConfusion h1
    | _ => rfl
termination_by (sizeOf m, 1)
theorem sndS (m : ME) (X : Cx) (E : WX) (p0 : Option V) (tg e : Expr) (g : Good X E k R G C) (h : chkS C X.N m X.env.scope tg e = true) : SI X (rd X E p0) R G m tg e := by
  cases m with
  | sq a => exact snd_sq (sndE a X E p0 e g (by rw [chkS] at h; exact h))
  | rg es =>
    unfold chkS at h
    split at h <;> first | contradiction | skip
    rename_i z; cases z
    obtain ⟨h1, h2⟩ := and2 h
    obtain ⟨h2, h3⟩ := and2 h2
    exact snd_rg g (sndEs es X E p0 _ g h2) h1 (of_decide_eq_true h3)
  | en a =>
    unfold chkS at h
    split at h <;> first | contradiction | skip
    rename_i z; cases z
    obtain ⟨h1, h2⟩ := and2 h
    obtain ⟨h2, h3⟩ := and2 h2
    exact snd_en g (sndE a X E p0 _ g h3) h1 h2
  | zp es =>
    unfold chkS at h
    split at h <;> first | contradiction | skip
    rename_i z; cases z
    obtain ⟨h1, h2⟩ := and2 h
    obtain ⟨h2, h3⟩ := and2 h2
    have e1 := of_decide_eq_true h1
    subst e1
    exact snd_zp g (sndEs es X E p0 _ g h3) h2
  | _ => unfold chkS at h; first | cases h | (split at h <;> contradiction)
termination_by (sizeOf m, 1)
end
end
end PV

/-! Statements: what stands behind. -/
namespace PV
open PySem PySem.Spec PyProof.Rows L2
section
variable {X : Cx} {E : WX} {k : Nat} {R : Rn} {G : List D} {C : CK} {p0 : Option V} {T : Fx} {p pur q : Bool} {B F H B1 F1 H1 : Hp} {σ : Sl} {Q : VK} {c : CT} {v : V} {u U : List Addr} {D : Ends}
def ContM (T : Fx) (B F : Hp) (r : SRes) (D : Ends) : Prop := match r with
  | .nx env' => ∀ σ' H' F' U', Gr B F F' → WR B F' H' U' → SR T.K H' F' env' σ' U' → IOk T σ' → D.nx σ' H'
  | .rt c env' => ∀ v H' F' u U' σ', Gr B F F' → WR B F' H' (u ++ U') → SR T.K H' F' env' σ' U' → IOk T σ' → RC T.K H' F' c v u → D.rt v H'
  | .exc c x => ∀ σ, XP T σ B F c x
  | .bad => False
theorem ContM.mono {r : SRes} (h : ContM T B F r D) (g : Gr B F F1) : ContM T B F1 r D := by
  cases r with
  | nx e => exact fun σ' H' F' U' h1 h2 h3 h4 => h σ' H' F' U' (g.trans h1) h2 h3 h4
  | rt c e => exact fun v H' F' u U' σ' h1 h2 h3 h4 h5 => h v H' F' u U' σ' (g.trans h1) h2 h3 h4 h5
  | exc c x => exact fun σ => XP.mono (h σ) (Same.refl _) g
  | bad => exact h
def tSt (T : Fx) (f : Env → SRes) : TS := fun D σ H => ∃ env B F U, SR T.K H F env σ U ∧ WR B F H U ∧ IOk T σ ∧ ContM T B F (f env) D
theorem seqM {f : Env → Res (CT × Env)} {g : CT × Env → SRes} {env : Env} (s : SR T.K H F env σ U) (w : WR B F H U) (h : ContM T B F ((f env).go g) D) :
    tE T p pur f σ H (fun v H1 => ∃ c env1 F1 u U1, SR T.K H1 F1 env1 σ U1 ∧ WR B F1 H1 (u ++ U1) ∧ RV T.K p H1 F1 c v u ∧ ContM T B F1 (g (c, env1)) D ∧ f env = .ok (c, env1)) := by
  refine ⟨env, B, F, U, s, w, ?_⟩
  cases e : f env with
  | ok r =>
    rw [e] at h
    exact fun v H' F' U' u h1 h2 h3 h4 _ => ⟨r.1, r.2, F', u, U', h3, h2, h4, ContM.mono h h1, rfl⟩
  | exc c x => rw [e] at h; exact h σ
  | bad => rw [e] at h; exact h
theorem SR.setC {i : Nat} {env : Env} {o : Option V} (s : SR T.K H F env σ U) (hi : i < env.length) (w : WR B F H (u ++ U)) (r : RC T.K H F c v u) : ∃ U', SR T.K H F (env.set i (some c)) (σ.set i (some v)) U' ∧ WR B F H U' := by
  obtain ⟨W, d1, d2, d3⟩ := s.drop i (some v)
  obtain ⟨U', q1, q2⟩ := d3 H F c v u W hi r d1
  exact ⟨U', q1, (w.sub (List.Sublist.append_left d2 u)).perm q2.symm⟩
/-- name = value -/
theorem st_asg {i : Nat} {e : ME} {W : Nat} (hp : ∀ j, i = j → (T.p0 ≠ none → j ≠ 0)) {te : TE} (h : tSt T (evS R G W (.asg i e)) D σ H) : tAsg (tE T false e.pu (ev R G false e)) (gName i) D σ H := by
  obtain ⟨env, B, F, U, s, w, o, h⟩ := h
  rw [evS] at h
  refine tE.post (seqM s w h) fun v H1 ⟨c, env1, F1, u, U1, s1, w1, r1, k1, _⟩ => ?_
  have k1 : ContM T B F1 (if i < env1.length then .nx (env1.set i (some c)) else .bad) D := k1
  by_cases hi : i < env1.length
  · rw [if_pos hi] at k1
    obtain ⟨U', q1, q2⟩ := SR.setC (o := none) s1 hi w1 r1.cc
    refine k1 _ _ _ U' Gr.refl q2 q1 fun v0 e => ?_
    rw [List.getElem?_set_ne (hp i rfl (by rw [e]; simp))]
    exact o v0 e
  · rw [if_neg hi] at k1; exact k1.elim
/-- unpacking -/
theorem st_unp {ts : List Tgt} {e : ME} {W : Nat} (h : tSt T (evS R G W (.unp ts e)) D σ H) : tAsg (tE T false e.pu (ev R G false e)) (tG T (.tp ts)) D σ H := by
  obtain ⟨env, B, F, U, s, w, o, h⟩ := h
  rw [evS] at h
  refine tE.post (seqM s w h) fun v H1 ⟨c, env1, F1, u, U1, s1, w1, r1, k1, _⟩ => ?_
  have k1 : ContM T B F1 (match asgC (.tp ts) c env1 with
    | some e => .nx e
    | none => .bad) D := k1
  cases ha : asgC (.tp ts) c env1 with
  | none => rw [ha] at k1; exact k1.elim
  | some e2 =>
    rw [ha] at k1
    exact ⟨env1, B, F1, U1, c, u, e2, s1, w1, r1.cc, o, ha, fun σ' U' a1 a2 a3 _ => k1 σ' H1 F1 U' Gr.refl a2 a1 a3⟩
theorem st_expr {e : ME} {W : Nat} (h : tSt T (evS R G W (.expr e)) D σ H) : tE T false e.pu (ev R G false e) σ H fun _ H1 => D.nx σ H1 := by
  obtain ⟨env, B, F, U, s, w, o, h⟩ := h
  rw [evS] at h
  exact tE.post (seqM s w h) fun v H1 ⟨c, env1, F1, u, U1, s1, w1, r1, k1, _⟩ => k1 σ H1 F1 U1 Gr.refl w1.right s1 o
theorem st_ret {e : ME} {W : Nat} (h : tSt T (evS R G W (.ret e)) D σ H) : tE T false e.pu (ev R G false e) σ H D.rt := by
  obtain ⟨env, B, F, U, s, w, o, h⟩ := h
  rw [evS] at h
  exact tE.post (seqM s w h) fun v H1 ⟨c, env1, F1, u, U1, s1, w1, r1, k1, _⟩ => k1 v H1 F1 u U1 σ Gr.refl w1 s1 o r1.cc
theorem st_retN {W : Nat} (h : tSt T (evS R G W (.ret (.lit .non))) D σ H) : D.rt .non H := by
  obtain ⟨env, B, F, U, s, w, o, h⟩ := h
  rw [evS, ev] at h
  exact h .non H F [] U σ Gr.refl w s o (.d .non)
/-- a test, then the rest -/
theorem seqT {f : Env → Res (Bool × Env)} {g : Bool × Env → SRes} {env : Env} (s : SR T.K H F env σ U) (w : WR B F H U) (h : ContM T B F ((f env).go g) D) :
    tT T pur f σ H (fun b H1 => ∃ env1 F1 U1, SR T.K H1 F1 env1 σ U1 ∧ WR B F1 H1 U1 ∧ Gr B F F1 ∧ ContM T B F1 (g (b, env1)) D ∧ f env = .ok (b, env1)) := by
  refine ⟨env, B, F, U, s, w, ?_⟩
  cases e : f env with
  | ok r =>
    rw [e] at h
    exact fun H' F' U' h1 h2 h3 _ => ⟨r.2, F', U', h3, h2, h1, ContM.mono h h1, rfl⟩
  | exc c x => rw [e] at h; exact h σ
  | bad => rw [e] at h; exact h
theorem tT.post {f : Env → Res (Bool × Env)} {Q Q' : Bool → Hp → Prop} (h : tT T pur f σ H Q) (i : ∀ b H, Q b H → Q' b H) : tT T pur f σ H Q' := by
  obtain ⟨env, B, F, U, s, w, h⟩ := h
  refine ⟨env, B, F, U, s, w, ?_⟩
  revert h
  cases f env with
  | ok r => exact fun h H' F' U' h1 h2 h3 h5 => i _ _ (h H' F' U' h1 h2 h3 h5)
  | exc c x => exact id
  | bad => exact id
theorem st_ite {c : ME} {a b : List MS} {W : Nat} (h : tSt T (evS R G W (.ite c a b)) D σ H) : tIfS (tT T c.pu (evT R G c)) (tSt T (evSs R G W a)) (tSt T (evSs R G W b)) D σ H := by
  obtain ⟨env, B, F, U, s, w, o, h⟩ := h
  rw [evS] at h
  refine tT.post (seqT s w h) fun d H1 ⟨env1, F1, U1, s1, w1, g1, k1, _⟩ => ?_
  have k1 : ContM T B F1 (if d = true then evSs R G W a env1 else evSs R G W b env1) D := k1
  cases d with
  | true => exact ⟨env1, B, F1, U1, s1, w1, o, k1⟩
  | false => exact ⟨env1, B, F1, U1, s1, w1, o, k1⟩
theorem st_seq {m : MS} {ms : List MS} {W : Nat} (h : tSt T (evSs R G W (m :: ms)) D σ H) : tSeq (tSt T (evS R G W m)) (tSt T (evSs R G W ms)) D σ H := by
  obtain ⟨env, B, F, U, s, w, o, h⟩ := h
  rw [evSs] at h
  refine ⟨env, B, F, U, s, w, o, ?_⟩
  cases e : evS R G W m env with
  | nx e2 => rw [e] at h; exact fun σ' H' F' U' g1 w1 s1 o1 => ⟨e2, B, F', U', s1, w1, o1, ContM.mono h g1⟩
  | rt c e2 => rw [e] at h; exact h
  | exc c x => rw [e] at h; exact h
  | bad => rw [e] at h; exact h
/-- the rest behind a body -/
theorem ContM.body {r : SRes} {g : Env → SRes} {N : Sl → Hp → Prop} (h : ContM T B F (r.go g) D) (hN : ∀ e σ' H' F' U', r = .nx e → Gr B F F' → WR B F' H' U' → SR T.K H' F' e σ' U' → IOk T σ' → ContM T B F' (g e) D → N σ' H') : ContM T B F r { D with nx := N, ct := N, bk := D.nx } := by
  cases r with
  | nx e => exact fun σ' H' F' U' g1 w1 s1 o1 => hN e σ' H' F' U' rfl g1 w1 s1 o1 (ContM.mono h g1)
  | rt c e => exact h
  | exc c x => exact h
  | bad => exact h
theorem st_while {c : ME} {b : List MS} {W : Nat} (h : tSt T (evS R G W (.while_ c b)) D σ H) : tWhile (tT T c.pu (evT R G c)) (tSt T (evSs R G W b)) D σ H := by
  obtain ⟨env, B, F, U, s, w, o, h⟩ := h
  rw [evS] at h
  refine ⟨fun m σ H => ∃ env F U, SR T.K H F env σ U ∧ WR B F H U ∧ IOk T σ ∧ ContM T B F (whS (fun e => evT R G c e) (fun e => evSs R G W b e) m env) D, ⟨W, env, F, U, s, w, o, h⟩, ?_⟩
  rintro m σ H ⟨env, F, U, s, w, o, h⟩
  cases m with
  | zero => rw [whS] at h; exact h.elim
  | succ n =>
    rw [whS] at h
    refine tT.post (seqT s w h) fun d H1 ⟨env1, F1, U1, s1, w1, g1, k1, _⟩ => ?_
    have k1 : ContM T B F1 (if d = true then (evSs R G W b env1).go fun e => whS (fun e => evT R G c e) (fun e => evSs R G W b e) n e else .nx env1) D := k1
    cases d with
    | true =>
      refine ⟨_, fun σ' H' z => ⟨n, Nat.lt_succ_self n, z⟩, env1, B, F1, U1, s1, w1, o, ContM.body k1 fun e σ' H' F' U' _ _ w2 s2 o2 k2 => ⟨e, F', U', s2, w2, o2, k2⟩⟩
    | false => exact k1 σ H1 F1 U1 Gr.refl w1 s1 o
theorem st_for {t : Tgt} {src : ME} {b : List MS} {W : Nat} (h : tSt T (evS R G W (.for_ t src b)) D σ H) : tFor (tI T false src.pu (ev R G false src)) (tG T t) (tSt T (evSs R G W b)) D σ H := by
  obtain ⟨env, B, F, U, s, w, o, h⟩ := h
  rw [evS] at h
  refine ⟨env, B, F, U, s, w, ?_⟩
  cases e : ev R G false src env with
  | exc c x => rw [e] at h; exact h σ
  | bad => rw [e] at h; exact h
  | ok r =>
    rw [e] at h
    have h : ContM T B F (match r.1.lels with
      | some xs => forS (fun x e => match asgC t (.d x) e with
        | some e1 => evSs R G W b e1
        | none => .bad) xs r.2
      | none => .bad) D := h
    cases hx : r.1.lels with
    | none => rw [hx] at h; exact h.elim
    | some xs =>
      rw [hx] at h
      have h : ContM T B F (forS (fun x e => match asgC t (.d x) e with
        | some e1 => evSs R G W b e1
        | none => .bad) xs r.2) D := h
      refine ⟨xs, hx, fun J H1 F1 U1 g1 w1 s1 yl k1 => ?_⟩
      have yl : Yld T.K J F1 F1 xs := yl
      refine ⟨fun i m σ H => m = xs.length - i ∧ i ≤ xs.length ∧ ∃ env F U, SR T.K H F env σ U ∧ WR B F H U ∧ IOk T σ ∧ Same F1 F ∧ ContM T B F (forS (fun x e => match asgC t (.d x) e with
        | some e1 => evSs R G W b e1
        | none => .bad) (xs.drop i) env) D, ⟨xs.length - 0, rfl, Nat.zero_le _, r.2, F1, U1, s1, w1, o, Same.refl _, ContM.mono (by rw [List.drop_zero]; exact h) g1⟩, ?_⟩
      rintro i m σ H ⟨rfl, hi, env, F2, U, s, w, o, f, h⟩
      have sy : Same F1 H := f.trans w.f
      by_cases hlt : i < xs.length
      · refine .inr ⟨yl.go i H sy hlt, _, fun σ' H' p' => ⟨xs.length - (i + 1), by omega, rfl, hlt, p'⟩, fun x H' hy => ?_⟩
        have hd : xs[i]? = some xs[i] := List.getElem?_eq_getElem hlt
        have hdrop : xs.drop i = xs[i] :: xs.drop (i + 1) := List.drop_eq_getElem_cons hlt
        obtain ⟨F3, n⟩ := yl.yld i H F2 x H' xs[i] sy f w.f hd hy
        obtain ⟨w3, g3, eq3⟩ := w.newR n
        rw [hdrop, forS] at h
        have h : ContM T B F2 (SRes.go (match asgC t (.d xs[i]) env with
          | some e1 => evSs R G W b e1
          | none => .bad) fun e => forS (fun x e => match asgC t (.d x) e with
            | some e1 => evSs R G W b e1
            | none => .bad) (xs.drop (i + 1)) e) D := h
        cases ha : asgC t (.d xs[i]) env with
        | none => rw [ha] at h; exact h.elim
        | some e1 =>
          rw [ha] at h
          refine ⟨env, B, F3, U, .d xs[i], [], e1, SR.mono n.gr.s s eq3, w3, n.rc, o, ha, fun σ' U' s' w' o' _ => ?_⟩
          refine ⟨e1, B, F3, U', s', w', o', ContM.body (ContM.mono h g3) fun e σ'' H'' F'' U'' _ gg w2 s2 o2 k2 => ⟨e, F'', U'', s2, w2, o2, f.trans (n.gr.s.trans gg.s), k2⟩⟩
      · have ei : i = xs.length := by omega
        subst ei
        refine .inl ⟨yl.stop H sy, ?_⟩
        rw [List.drop_length, forS] at h
        exact h σ H F2 U Gr.refl w s o
end
end PV

/-! Statements that change a list; parallel stores. -/
namespace PV
open PySem PySem.Spec PyProof.Rows L2
section
variable {X : Cx} {E : WX} {k : Nat} {R : Rn} {G : List D} {C : CK} {p0 : Option V} {T : Fx} {p pur q : Bool} {B F H B1 F1 H1 : Hp} {σ : Sl} {Q : VK} {c : CT} {v : V} {u U : List Addr} {D : Ends}
/-- a name's own list -/
theorem SR.lst {i : Nat} {cs : List CT} {env : Env} (s : SR T.K H F env σ U) (h : env.get i = some (.l cs)) : ∃ a vs u W, σ[i]? = some (some (.ref a)) ∧ H a = some (.lst vs) ∧ RCs T.K H F cs vs u ∧ U.Perm ((a :: u) ++ W) ∧ SR T.K H F (env.set i none) σ W ∧
    (∀ (H' F' : Hp) (c' : CT) (u' W' : List Addr), RC T.K H' F' c' (.ref a) u' → SR T.K H' F' (env.set i none) σ W' → ∃ U', SR T.K H' F' (env.set i (some c')) σ U' ∧ U'.Perm (u' ++ W')) := by
  obtain ⟨v, u, W, h1, h2, h3, h4, h5⟩ := s.get h
  cases h2 with
  | l h6 h7 => exact ⟨_, _, _, W, h1, h6, h7, h3, h4, h5⟩
theorem RCs.set {K : PySem.W.Frag} : ∀ {cs : List CT} {vs : List V} {u w : List Addr} {j : Nat}, RCs K H F cs vs u → RC K H F c v w → j < cs.length → ∃ u' W, RCs K H F (cs.set j c) (vs.set j v) u' ∧ u'.Perm (w ++ W) ∧ W.Sublist u
  | _, _, _, _, j, .nil, _, h => by simp at h
  | _, _, _, w, 0, .cons (u := u1) (w := w1) a b, r, _ => ⟨w ++ w1, w1, .cons r b, List.Perm.refl _, List.sublist_append_right _ _⟩
  | _, _, _, w, j + 1, .cons (u := u1) (w := w1) a b, r, h => by
    obtain ⟨u', W, h1, h2, h3⟩ := RCs.set (j := j) b r (by simpa using h)
    refine ⟨u1 ++ u', u1 ++ W, .cons a h1, ?_, List.Sublist.append_left h3 u1⟩
    exact (List.Perm.append_left u1 h2).trans (by rw [← List.append_assoc, ← List.append_assoc]; exact List.Perm.append_right W List.perm_append_comm)
theorem st_app {i : Nat} {e : ME} {W : Nat} (h : tSt T (evS R G W (.app i e)) D σ H) : tBM T.K "list" rAppend (tVar i) (tCons (tE T false e.pu (ev R G false e)) tNil) σ H fun _ H1 => D.nx σ H1 := by
  obtain ⟨env, B, F, U, s, w, o, h⟩ := h
  rw [evS] at h
  cases eg : env.get i with
  | none => rw [eg] at h; exact h.elim
  | some c0 =>
    rw [eg] at h
    cases c0 with
    | d _ => exact h.elim
    | t _ => exact h.elim
    | l cs0 =>
      have h : ContM T B F ((ev R G false e env).go fun r => match r.2.get i with
        | some (.l xs) => if xs.length < lmax then .nx (r.2.set i (some (.l (xs ++ [r.1])))) else .bad
        | _ => .bad) D := h
      obtain ⟨a, vs, u, W0, h1, h2, h3, _⟩ := s.lst eg
      refine ⟨.ref a, h1, .inl ⟨rfl, vs, SqL.of h2⟩, ?_⟩
      refine tE.post (seqM s w h) fun y H1 ⟨c, env1, F1, u, U1, s1, w1, r1, k1, _⟩ => ?_
      have k1 : ContM T B F1 (match env1.get i with
        | some (.l xs) => if xs.length < lmax then .nx (env1.set i (some (.l (xs ++ [c])))) else .bad
        | _ => .bad) D := k1
      cases eg1 : env1.get i with
      | none => rw [eg1] at k1; exact k1.elim
      | some c1 =>
        rw [eg1] at k1
        cases c1 with
        | d _ => exact k1.elim
        | t _ => exact k1.elim
        | l xs =>
          have k1 : ContM T B F1 (if xs.length < lmax then .nx (env1.set i (some (.l (xs ++ [c])))) else .bad) D := k1
          by_cases hl : xs.length < lmax
          · rw [if_pos hl] at k1
            obtain ⟨a', vs', u', W1, g1, g2, g3, g4, g5, g6⟩ := s1.lst eg1
            have e1 : a' = a := by have := g1.symm.trans h1; cases this; rfl
            subst e1
            have lv : vs'.length = xs.length := g3.rp.length.symm
            have wp : WR B F1 H1 (a' :: (u' ++ (u ++ W1))) := w1.perm (by
              refine (List.Perm.append_left u g4).trans ?_
              rw [List.cons_append]
              refine List.perm_middle.trans ?_
              rw [← List.append_assoc, ← List.append_assoc]
              exact List.Perm.cons a' (List.Perm.append_right W1 List.perm_append_comm))
            have nin : ∀ b ∈ u' ++ (u ++ W1), b ≠ a' := fun b m e => (List.nodup_cons.mp wp.nd).1 (e ▸ m)
            have eqA : ∀ b ∈ u' ++ (u ++ W1), upd H1 a' (.lst (vs' ++ [y])) b = H1 b := fun b m => upd_ne (nin b m)
            refine ⟨a', vs', y, rfl, rfl, g2, ?_, ?_⟩
            · have : (lmax : Nat) < sizeLine := by decide
              omega
            · have r2 : RC T.K (upd H1 a' (.lst (vs' ++ [y]))) F1 (.l (xs ++ [c])) (.ref a') (a' :: (u' ++ u)) := by
                refine .l upd_same (RCs.app (RCs.mono (Same.refl _) g3 fun b m => eqA b (List.mem_append_left _ m)) ?_)
                have := RCs.cons (RC.mono (H' := upd H1 a' (.lst (vs' ++ [y]))) (Same.refl _) r1.cc fun b m => eqA b (List.mem_append_right _ (List.mem_append_left _ m))) .nil
                rw [List.append_nil] at this
                exact this
              obtain ⟨U', q1, q2⟩ := g6 _ F1 _ _ W1 r2 (SR.mono (Same.refl _) g5 fun b m => eqA b (List.mem_append_right _ (List.mem_append_right _ m)))
              have w2 : WR B F1 (upd H1 a' (.lst (vs' ++ [y]))) (a' :: (u' ++ (u ++ W1))) := wp.write List.mem_cons_self
              exact k1 σ _ F1 U' Gr.refl (w2.perm (by refine List.Perm.trans ?_ q2.symm; rw [List.cons_append, List.append_assoc])) q1 o
          · rw [if_neg hl] at k1; exact k1.elim
theorem setI_some {q c' : CT} {o : Option CT} (h : setI c q o = some c') : ∃ n xs j, q = .d (.int n) ∧ o = some (.l xs) ∧ ixN xs.length n = some j ∧ c' = .l (xs.set j c) := by
  unfold setI at h
  split at h
  · rename_i n xs
    cases e : ixN xs.length n with
    | none => rw [e] at h; cases h
    | some j =>
      rw [e] at h
      exact ⟨n, xs, j, rfl, rfl, e, (Option.some.inj h).symm⟩
  · cases h
theorem st_seti {i : Nat} {kk e : ME} {W : Nat} (h : tSt T (evS R G W (.seti i kk e)) D σ H) : tAsg (tE T false e.pu (ev R G false e)) (gSub (tVar i) (tE T false kk.pu (ev R G false kk)) rSetL) D σ H := by
  obtain ⟨env, B, F, U, s, w, o, h⟩ := h
  rw [evS] at h
  refine tE.post (seqM s w h) fun y H1 ⟨c, env1, F1, u, U1, s1, w1, r1, k1, _⟩ => ?_
  have k1 : ContM T B F1 ((Res.of (env1.get i)).go fun _ => (ev R G false kk env1).go fun q => (Res.of (setI c q.1 (q.2.get i))).go fun c => .nx (q.2.set i (some c))) D := k1
  cases eg : env1.get i with
  | none => rw [eg] at k1; exact k1.elim
  | some c0 =>
    rw [eg] at k1
    have k1 : ContM T B F1 ((ev R G false kk env1).go fun q => (Res.of (setI c q.1 (q.2.get i))).go fun c => .nx (q.2.set i (some c))) D := k1
    obtain ⟨x, _, _, hx, _⟩ := s1.get eg
    refine ⟨x, hx, env1, lesser H1 U1, F1, U1, s1, w1.lesser, ?_⟩
    cases ek : ev R G false kk env1 with
    | exc cc z => rw [ek] at k1; exact XP.mono (k1 σ) w1.base Gr.refl
    | bad => rw [ek] at k1; exact k1
    | ok q =>
      rw [ek] at k1
      intro n H2 F2 U2 u2 g2 w2 s2 r2 _
      obtain ⟨w3, g3, eq3⟩ := w1.keep g2 w2
      obtain ⟨qc, env2⟩ := q
      have k1 : ContM T B F1 ((Res.of (setI c qc (env2.get i))).go fun c => .nx (env2.set i (some c))) D := k1
      have s2 : SR T.K H2 F2 env2 σ U2 := s2
      cases es : setI c qc (env2.get i) with
      | none => rw [es] at k1; exact k1.elim
      | some c' =>
        rw [es] at k1
        obtain ⟨m, xs, j, rfl, eg2, hj, rfl⟩ := setI_some es
        obtain ⟨a, vs, u', W1, g1, g4, g5, g6, g7, g8⟩ := s2.lst eg2
        have e1 : x = .ref a := Option.some.inj (Option.some.inj (hx.symm.trans g1))
        have lv : vs.length = xs.length := g5.rp.length.symm
        have en : n = .int m := r2.rp.int
        have jl : j < xs.length := by
          have := (ixN_seq hj).2.1
          omega
        have w4 : WR B F2 H2 (a :: (u' ++ (u ++ W1))) := by
          have w4 : WR B F2 H2 (u ++ U2) := w3.sub (List.Sublist.append_left (List.sublist_append_right u2 U2) u)
          refine w4.perm ?_
          refine (List.Perm.append_left u g6).trans ?_
          rw [List.cons_append]
          refine List.perm_middle.trans ?_
          rw [← List.append_assoc, ← List.append_assoc]
          exact List.Perm.cons a (List.Perm.append_right W1 List.perm_append_comm)
        have nin : ∀ b ∈ u' ++ (u ++ W1), b ≠ a := fun b m e => (List.nodup_cons.mp w4.nd).1 (e ▸ m)
        have eqA : ∀ b ∈ u' ++ (u ++ W1), upd H2 a (.lst (vs.set j y)) b = H2 b := fun b m => upd_ne (nin b m)
        refine ⟨a, vs, m, j, e1, en, g4, by rw [lv]; exact hj, ?_⟩
        have rc : RC T.K H2 F2 c y u := RC.mono g2.s r1.cc eq3
        have g5' := RCs.mono (H' := upd H2 a (.lst (vs.set j y))) (Same.refl _) g5 fun b m => eqA b (List.mem_append_left _ m)
        have rc' := RC.mono (H' := upd H2 a (.lst (vs.set j y))) (Same.refl _) rc fun b m => eqA b (List.mem_append_right _ (List.mem_append_left _ m))
        obtain ⟨u3, W3, h1, h2, h3⟩ := RCs.set g5' rc' jl
        obtain ⟨U', q1, q2⟩ := g8 _ F2 _ _ W1 (.l upd_same h1) (SR.mono (Same.refl _) g7 fun b m => eqA b (List.mem_append_right _ (List.mem_append_right _ m)))
        have w5 : WR B F2 (upd H2 a (.lst (vs.set j y))) (a :: (u' ++ (u ++ W1))) := w4.write List.mem_cons_self
        refine k1 σ _ F2 U' g3 ?_ q1 o
        refine (w5.sub (W := a :: (W3 ++ (u ++ W1))) (List.Sublist.cons_cons a (List.Sublist.append_right h3 _))).perm ?_
        refine List.Perm.trans ?_ q2.symm
        rw [List.cons_append]
        refine List.Perm.cons a ?_
        refine List.Perm.trans ?_ (List.Perm.append_right W1 h2.symm)
        rw [← List.append_assoc]
        exact List.Perm.append_right W1 List.perm_append_comm
/-! ### parallel stores -/
def setsV : List Nat → List V → Sl → Sl
  | i :: is, v :: vs, σ => setsV is vs (σ.set i (some v))
  | _, _, σ => σ
theorem SR.sets : ∀ {is : List Nat} {cs : List CT} {vs : List V} {u U : List Addr} {env env' : Env} {σ : Sl}, SR T.K H F env σ U → RCs T.K H F cs vs u → WR B F H (u ++ U) → sets is cs env = some env' → ∃ U', SR T.K H F env' (setsV is vs σ) U' ∧ WR B F H U'
  | [], [], _, _, U, env, env', σ, s, .nil, w, h => by
    have e := Option.some.inj (show some env = some env' from h)
    subst e
    exact ⟨U, s, w⟩
  | i :: is, c :: cs, _, _, U, env, env', σ, s, .cons (v := v) (u := u1) (w := u2) a b, w, h => by
    have h : (if i < env.length then PV.sets is cs (env.set i (some c)) else none) = some env' := h
    by_cases hi : i < env.length
    · rw [if_pos hi] at h
      obtain ⟨W, d1, d2, d3⟩ := s.drop i (some v)
      obtain ⟨U', q1, q2⟩ := d3 H F c v u1 W hi a d1
      have go : WR B F H (u2 ++ U') → _ := fun w2 => SR.sets (is := is) q1 b w2 h
      refine go ((w.sub (List.Sublist.append_left d2 (u1 ++ u2))).perm ?_)
      refine List.Perm.trans ?_ (List.Perm.append_left u2 q2.symm)
      rw [← List.append_assoc]
      exact List.Perm.append_right W List.perm_append_comm
    · rw [if_neg hi] at h; cases h
  | [], _ :: _, _, _, _, _, _, _, _, _, _, h => by cases h
  | _ :: _, [], _, _, _, _, _, _, _, _, _, h => by cases h
theorem setsV_io : ∀ {is : List Nat} {vs : List V} {σ : Sl}, (∀ v, T.p0 = some v → 0 ∉ is) → IOk T σ → IOk T (setsV is vs σ)
  | [], _, _, _, o => o
  | _ :: _, [], _, _, o => o
  | i :: is, v :: vs, σ, h, o => setsV_io (is := is) (fun v e m => h v e (List.mem_cons_of_mem _ m)) fun v0 e => by
    rw [List.getElem?_set_ne (show i ≠ 0 from fun z => h v0 e (by rw [z]; exact List.mem_cons_self))]
    exact o v0 e
theorem st_par {is : List Nat} {es : List ME} {W : Nat} (hio : ∀ v, T.p0 = some v → 0 ∉ is) (h : tSt T (evS R G W (.par is es)) D σ H) : tEs T false (ME.pus es) (evs R G false es) σ H fun vs H1 => vs.length = es.length ∧ D.nx (setsV is vs σ) H1 := by
  obtain ⟨env, B, F, U, s, w, o, h⟩ := h
  rw [evS] at h
  refine ⟨env, B, F, U, s, w, ?_⟩
  cases e : evs R G false es env with
  | exc c x => rw [e] at h; exact h σ
  | bad => rw [e] at h; exact h
  | ok r =>
    rw [e] at h
    intro vs H1 F1 U1 u1 g1 w1 s1 r1 _
    have h : ContM T B F (match sets is r.1 r.2 with
      | some e => .nx e
      | none => .bad) D := h
    cases hs : sets is r.1 r.2 with
    | none => rw [hs] at h; exact h.elim
    | some e2 =>
      rw [hs] at h
      obtain ⟨U', q1, q2⟩ := SR.sets s1 r1.cc w1 hs
      exact ⟨by rw [← r1.rp.length, evs_len false e], h _ H1 F1 U' g1 q2 q1 (setsV_io hio o)⟩
end
end PV

/-! raise; try that keeps its error. -/
namespace PV
open PySem PySem.Spec PyProof.Rows L2
section
variable {X : Cx} {E : WX} {k : Nat} {R : Rn} {G : List D} {C : CK} {p0 : Option V} {T : Fx} {B F H : Hp} {σ : Sl} {D : Ends} {U : List Addr}
/-- raise X(e) -/
theorem st_raise {c : Str} {e : ME} {W : Nat} {Ca : Addr} (hg : T.mg c = some (.ref Ca)) (h : tSt T (evS R G W (.raise_ c e)) D σ H) :
    tMkErr Ca (tCons (tE T false e.pu (ev R G false e)) tNil) σ H fun cls d H' => T.E cls d σ H' := by
  obtain ⟨env, B, F, U, s, w, o, h⟩ := h
  rw [evS] at h
  refine tE.post (seqM s w h) fun v H1 ⟨c1, env1, F1, u, U1, s1, w1, r1, k1, _⟩ => ?_
  show ∃ x, [v] = [x] ∧ ∀ d, H1 d = none → T.E (.ref Ca) (some d) σ (upd H1 d (.xd [(("value" : Str), x)]))
  refine ⟨v, rfl, fun d hd => ?_⟩
  have k1 : ∀ σ, XP T σ B F1 c c1.frz := k1
  obtain ⟨wg, gg⟩ := w1.grown
  have rd := RC.freeze w1 r1.cc
  have sm : Same H1 (upd H1 d (.xd [(("value" : Str), v)])) := new_same hd
  refine k1 σ (upd H1 d (.xd [(("value" : Str), v)])) (grown F1 H1 u) Ca d v hg upd_same ?_ rd gg (wg.f.trans sm) (w1.b.trans sm)
  cases e : B d with
  | none => rfl
  | some o => have := w1.b d o e; rw [hd] at this; cases this
theorem dEnv_sr : ∀ {env : Env} {σ : Sl} {U : List Addr}, SR T.K H F env σ U → SR T.K H F (dEnv env) σ []
  | _, _, _, .nil => .nil
  | _, _, _, .ns r => .ns (dEnv_sr r)
  | _, _, _, .sm (c := c) r q => by
    cases r with
    | d rd => exact SR.sm (u := []) (w := []) (.d rd) (dEnv_sr q)
    | l _ _ => exact SR.ns (dEnv_sr q)
    | t _ _ => exact SR.ns (dEnv_sr q)
theorem sr_len : ∀ {env : Env} {σ : Sl} {U : List Addr}, SR T.K H F env σ U → env.length = σ.length
  | _, _, _, .nil => rfl
  | _, _, _, .ns r => congrArg Nat.succ (sr_len r)
  | _, _, _, .sm _ r => congrArg Nat.succ (sr_len r)
/-- an error that is caught and kept -/
theorem st_try {all : List Str} {e : ME} {cn : Str} {i x W : Nat} (es : List Str) (cv : Value) (hall : ∀ c ∈ all, c ∈ es) (hgc : ∀ c ∈ es, T.mg c = some (.ref (He.ga T.K c))) (hown : ∀ c ∈ es, c = cn ∨ cn = "GameError" → PySem.W.exmOne T.K (.ref (He.ga T.K c)) cv = some true)
    (hix : i ≠ x) (hi0 : T.p0 ≠ none → i ≠ 0) (hx0 : T.p0 ≠ none → x ≠ 0) (Wout : WX)
    (h : tSt T (evS R G W (.tryE all e cn i x)) D σ H) :
    tE { T with E := wKeep T.K cv i (fun _ _ _ => tAsg (tVar i) (gName x)) Wout D } false e.pu (ev R G false e) σ H (fun _ H1 => D.nx σ H1) := by
  obtain ⟨env, B, F, U, s, w, o, h⟩ := h
  rw [evS] at h
  refine ⟨dEnv env, H, F, [], dEnv_sr s, ⟨w.f, Same.refl _, List.nodup_nil, fun _ m => by cases m⟩, ?_⟩
  have eqU : ∀ {H' : Hp}, Same H H' → ∀ a ∈ U, H' a = H a := fun {H'} sm a m => by
    cases z : H a with
    | none => exact absurd z (w.own a m).2.2
    | some o => exact sm a o z
  have noU : ∀ {F' : Hp}, Gr H F F' → ∀ a ∈ U, F' a = none := fun {F'} g a m => by
    cases z : F' a with
    | none => rfl
    | some o =>
      rcases g.g a o z with q | q
      · rw [(w.own a m).1] at q; cases q
      · exact absurd q (w.own a m).2.2
  cases ee : ev R G false e (dEnv env) with
  | bad => rw [ee] at h; exact h.elim
  | ok r =>
    rw [ee] at h
    intro v H' F' U' u g1 w1 s1 r1 _
    have sm : Same H H' := w1.b
    exact h σ H' F' U (g1.sub w.b) ⟨w1.f, w.b.trans sm, w.nd, fun a m => ⟨noU g1 a m, (w.own a m).2.1, by rw [eqU sm a m]; exact (w.own a m).2.2⟩⟩ (SR.mono g1.s s (eqU sm)) o
  | exc c y =>
    rw [ee] at h
    intro H' F' Ca d v hm hd h0 rd g1 f1 sm
    by_cases hc : c ∈ all ∧ (c = cn ∨ cn = "GameError") ∧ i < env.length ∧ x < env.length
    · have h : ContM T B F (if c ∈ all ∧ (c = cn ∨ cn = "GameError") ∧ i < env.length ∧ x < env.length then .nx ((env.set i none).set x (some (.d (.exn c y)))) else .bad) D := h
      rw [if_pos hc] at h
      obtain ⟨ha, hcn, li, lx⟩ := hc
      have hces := hall c ha
      have eC : Ca = He.ga T.K c := by
        have := (hgc c hces).symm.trans hm
        cases this
        rfl
      subst eC
      refine ⟨true, hown c hces hcn, fun _ => ⟨_, d, rfl, rfl, fun a na => ?_⟩, fun q => Bool.noConfusion q⟩
      have ea : (σ.set i (some (V.ref a)))[i]? = some (some (.ref a)) := List.getElem?_set_self (by rw [← sr_len s]; exact li)
      refine ⟨.ref a, ea, ?_⟩
      show D.nx (((σ.set i (some (V.ref a))).set x (some (.ref a))).set i none) (upd H' a (XO (He.ga T.K c) d a))
      have eσ : ((σ.set i (some (V.ref a))).set x (some (.ref a))).set i none = (σ.set i none).set x (some (.ref a)) := by
        rw [List.set_comm _ _ (Ne.symm hix), List.set_set]
      rw [eσ]
      have nda : d ≠ a := fun z => by rw [z, na] at hd; cases hd
      have sm2 : Same H' (upd H' a (XO (He.ga T.K c) d a)) := new_same na
      have Fn : F d = none := by
        cases z : F d with
        | none => rfl
        | some q => have := w.f d q z; rw [h0] at this; cases this
      let F2 : Hp := upd (upd F' a (XO (He.ga T.K c) d a)) d (.xd [(("value" : Str), v)])
      have Fa : F' a = none := by
        cases z : F' a with
        | none => rfl
        | some q => have := f1 a q z; rw [na] at this; cases this
      have F2s : Same F' F2 := fun b q z => by
        show upd (upd F' a _) d _ b = some q
        by_cases hb : b = d
        · subst hb
          rw [upd_same]
          exact hd.symm.trans (f1 _ _ z)
        · rw [upd_ne hb, upd_ne (fun y => by rw [y, Fa] at z; cases z)]
          exact z
      have F2H : Same F2 (upd H' a (XO (He.ga T.K c) d a)) := fun b q z => by
        have z : upd (upd F' a (XO (He.ga T.K c) d a)) d (.xd [(("value" : Str), v)]) b = some q := z
        by_cases hb : b = d
        · subst hb
          rw [upd_same] at z
          rw [upd_ne nda, hd]
          exact z
        · rw [upd_ne hb] at z
          by_cases hb2 : b = a
          · subst hb2
            rw [upd_same] at z ⊢
            exact z
          · rw [upd_ne hb2] at z ⊢
            exact f1 b q z
      have g2 : Gr H F F2 := ⟨g1.s.trans F2s, fun b q z => by
        have z : upd (upd F' a (XO (He.ga T.K c) d a)) d (.xd [(("value" : Str), v)]) b = some q := z
        by_cases hb : b = d
        · subst hb; exact .inr h0
        · rw [upd_ne hb] at z
          by_cases hb2 : b = a
          · subst hb2
            refine .inr ?_
            cases y : H b with
            | none => rfl
            | some o => have := sm b o y; rw [na] at this; cases this
          · rw [upd_ne hb2] at z
            exact g1.g b q z⟩
      have smT : Same H (upd H' a (XO (He.ga T.K c) d a)) := sm.trans sm2
      have s2 : SR T.K (upd H' a (XO (He.ga T.K c) d a)) F2 env σ U := SR.mono g2.s s (eqU smT)
      have w2 : WR B F2 (upd H' a (XO (He.ga T.K c) d a)) U := ⟨F2H, w.b.trans smT, w.nd, fun b m => ⟨noU g2 b m, (w.own b m).2.1, by rw [eqU smT b m]; exact (w.own b m).2.2⟩⟩
      obtain ⟨W1, d1, d2, _⟩ := s2.drop i none
      have w3 := w2.sub d2
      have rx : RC T.K (upd H' a (XO (He.ga T.K c) d a)) F2 (.d (.exn c y)) (.ref a) [] := .d (.exn (d := d) (by show upd (upd F' a _) d _ a = _; rw [upd_ne (Ne.symm nda), upd_same]) (by show upd (upd F' a _) d _ d = _; rw [upd_same]) (rd.mono F2s))
      obtain ⟨U2, q1, q2⟩ := SR.setC (o := none) (i := x) d1 (by rw [List.length_set]; exact lx) (u := []) (by rw [List.nil_append]; exact w3) rx
      refine h _ _ F2 U2 (g2.sub w.b) q2 q1 fun v0 e0 => ?_
      have n0 : T.p0 ≠ none := by rw [e0]; simp
      rw [List.getElem?_set_ne (hx0 n0), List.getElem?_set_ne (hi0 n0)]
      exact o v0 e0
    · have h : ContM T B F (if c ∈ all ∧ (c = cn ∨ cn = "GameError") ∧ i < env.length ∧ x < env.length then .nx ((env.set i none).set x (some (.d (.exn c y)))) else .bad) D := h
      rw [if_neg hc] at h
      exact h.elim
end
end PV

set_option maxHeartbeats 1000000
set_option maxRecDepth 20000
/-! All statements. -/
namespace PV
open PySem PySem.Spec PyProof.Rows L2

/-- is a comprehension laid straight into the name -/
def swB (sc : Scope) (x : Str) (xp : Pos) : Expr → Bool
  | .ListComp _ _ s pos => sc.names.lookup x == some .local && xp.line == pos.line && !(s.names.any fun (n, k) => n == x && (k == .local || k == .cell))
  | _ => false
/-- a comprehension of another kind -/
def oddComp : Expr → Bool
  | .SetComp .. => true
  | .DictComp .. => true
  | _ => false
def anyComp : Expr → Bool
  | .ListComp .. => true
  | e => oddComp e
def isTup : Expr → Bool
  | .Tuple .. => true
  | _ => false
def isLc : ME → Bool
  | .lc _ _ _ _ _ => true
  | .lc2 _ _ _ _ _ _ _ _ => true
  | _ => false
/-- a, b = x, y : stored from the right -/
def parC (io : Bool) (sc : Scope) (N : List Str) : List Nat → List Expr → Bool
  | [], [] => true
  | i :: is, .Name x _ :: es => decide (N[i]? = some x) && (decide (sc.names.lookup x = some .local) && (!(io && i == 0) && parC io sc N is es))
  | _, _ => false
def sameLine : List Expr → Bool
  | [] => true
  | e :: es => es.all fun z => z.pos.line == e.pos.line
/-- a name that a comprehension holds too -/
def aCell (sc : Scope) : List Expr → Bool
  | [] => false
  | .Name x _ :: es => decide (sc.names.lookup x = some .cell) || aCell sc es
  | _ :: es => aCell sc es
mutual
def chkM (C : CK) (N : List Str) (io : Bool) (sc : Scope) : MS → Stmt → Bool
  | .bad, _ => true
  | .asg i e, .Assign [.Name x xp] v _ => (decide (N[i]? = some x) && (locC sc x && !(io && i == 0))) && (!(oddComp v) && (chkE C N e sc v && (!(swB sc x xp v) || isLc e)))
  | .unp ts e, .Assign [.Tuple es _ _] v _ => (!(isTup v) || aCell sc es) && (!(anyComp v) && (chkGs io sc (fun _ => true) N ts es && chkE C N e sc v))
  | .par [i, j] es, .Assign [.Tuple [a, b] _ _] (.Tuple [x, y] _ _) _ => (parC io sc N [i, j] [a, b] && (decide (i ≠ j) && (sameLine [a, b] && (chkEs C N es sc [x, y] && (!([x, y].all (foldedForSure 8)) && !([x, y].all (constantsAlone 8)))))))
  | .par [i, j, l] es, .Assign [.Tuple [a, b, c] _ _] (.Tuple [x, y, z] _ _) _ => (parC io sc N [i, j, l] [a, b, c] && (decide (i ≠ j ∧ i ≠ l ∧ j ≠ l) && (sameLine [a, b, c] && (chkEs C N es sc [x, y, z] && (!([x, y, z].all (foldedForSure 8)) && !([x, y, z].all (constantsAlone 8)))))))
  | .app i e, .Expr (.Call (.Attribute (.Name o op) n ap) [v] [] cp) _ => decide (n = ("append" : Str)) && (nameIs sc N i (.Name o op) && (chkE C N e sc v && (notStar v && (ap.endLine == cp.line))))
  | .seti i k e, .Assign [.Subscript (.Name o op) y _] v _ => nameIs sc N i (.Name o op) && (!(isSlice y) && (!(anyComp v) && (!(isTup v) && (chkE C N k sc y && chkE C N e sc v))))
  | .expr e, .Expr v _ => !(anyComp v) && chkE C N e sc v
  | .ret e, .Return (some v) _ => chkE C N e sc v
  | .ret (.lit .non), .Return none _ => true
  | .pass, .Pass _ => true
  | .ite c a b, .If t x y _ => tstC c t && (chkE C N c sc t && (chkMs C N io sc a x && chkMs C N io sc b y))
  | .for_ t src b, .For tg it x [] _ => !(isSet it) && (chkG io sc (fun _ => true) N t tg && (chkS C N src sc tg it && chkMs C N io sc b x))
  | .while_ c b, .While t x [] _ => tstC c t && (chkE C N c sc t && chkMs C N io sc b x)
  | .raise_ c e, .Raise (some (.Call (.Name x _) [a] [] _)) none _ => decide (c = x ∧ c ∈ C.es) && (glC sc x && (plainName x && (notStar a && chkE C N e sc a)))
  | .tryE all e cn i j, .Try [.Expr v _] [.ExceptHandler (some (.Name y _)) (some n) [.Assign [.Name xx _] (.Name n2 _) _] _] [] [] _ =>
    decide (cn = y ∧ cn ∈ C.es ∧ n2 = n ∧ (∀ c ∈ all, c ∈ C.es) ∧ i ≠ j ∧ N[i]? = some n ∧ N[j]? = some xx ∧ sc.names.lookup n = some .local) && (locC sc xx && (!(io && i == 0) && (!(io && j == 0) && (glC sc y && (plainName y && (plainName n && (!(anyComp v) && chkE C N e sc v)))))))
  | _, _ => false
def chkMs (C : CK) (N : List Str) (io : Bool) (sc : Scope) : List MS → List Stmt → Bool
  | [], [] => true
  | m :: ms, s :: ss => chkM C N io sc m s && chkMs C N io sc ms ss
  | _, _ => false
end
structure GB (X : Cx) (E : WX) (k : Nat) (R : Rn) (G : List D) (C : CK) (io : Bool) (p0 : Option V) : Prop where
  g : Good X E k R G C
  own : PassesOwn (model X.prog X.w) X.A X.env X.xe
  fn : X.fn = fun _ => true
  kind : X.env.scope.kind = .function
  io : io = false → p0 = none
  st : X.stack = X.env :: X.outer
  fr : X.env.frame = some X.env.locals
  ex : X.ex = []
section
variable {X : Cx} {E : WX} {k : Nat} {R : Rn} {G : List D} {C : CK} {p0 : Option V} {io : Bool}
theorem swaps_is (hk : X.env.scope.kind = .function) {v : Expr} {x : Str} {xp : Pos} {l : Nat} (ho : (!(oddComp v)) = true) : swapsWith v (some (.Name x xp)) l X.env = pure (swB X.env.scope x xp v) := by
  have hb : X.env.blockKind = .function := by unfold PySem.Env.blockKind; rw [hk]; rfl
  cases v <;> first | exact Bool.noConfusion ho | rfl | skip
  rename_i el gs s pos
  unfold swapsWith swB
  simp only [hb]
  rfl
theorem not_swap {v : Expr} {t : Option Expr} {l : Nat} (h : (!(anyComp v)) = true) : swapsWith v t l X.env = pure false := by
  cases v <;> first | rfl | exact Bool.noConfusion h
theorem not_swapS {v t : Expr} {l : Nat} (h : (!(anyComp v)) = true) : swapsWithSole [t] v l X.env = pure false := not_swap (t := some t) h
theorem swGen (hk : X.env.scope.kind = .function) {ts vs : List Expr} {kt k2 : Nat} {pt p2 : Pos} {names : List Str} (hn : (!(ts.length == 2 || ts.length == 3) || vs.length != ts.length) = false) (st : (vs.any fun | .Starred .. => true | _ => false) = false)
    (fm : (ts.filterMap fun
      | .Name id pos => if X.env.kindOf id == some .local && pos.line == (ts.head?.map (·.pos.line)).getD 0 then some id else none
      | _ => none) = names) (hlen : names.length = ts.length) (ed : names.eraseDups.length = names.length) (h1 : vs.all (foldedForSure 8) = false) (h2 : vs.all (constantsAlone 8) = false) :
    swappedStores [.Tuple ts kt pt] (.Tuple vs k2 p2) X.env = pure (some names) := by
  have hbk : X.env.blockKind = .function := by unfold PySem.Env.blockKind; rw [hk]; rfl
  have c1 : (!(ts.length == 2 || ts.length == 3) || vs.length != ts.length || X.env.blockKind != .function) = false := by rw [hn, hbk]; rfl
  have c3 : ((ts.filterMap fun
      | .Name id pos => if X.env.kindOf id == some .local && pos.line == (ts.head?.map (·.pos.line)).getD 0 then some id else none
      | _ => none).length != ts.length || (ts.filterMap fun
      | .Name id pos => if X.env.kindOf id == some .local && pos.line == (ts.head?.map (·.pos.line)).getD 0 then some id else none
      | _ => none).eraseDups.length != (ts.filterMap fun
      | .Name id pos => if X.env.kindOf id == some .local && pos.line == (ts.head?.map (·.pos.line)).getD 0 then some id else none
      | _ => none).length) = false := by rw [fm, ed, hlen]; simp
  unfold swappedStores
  refine (if_neg fun h => Bool.noConfusion (c1.symm.trans h)).trans ?_
  refine (if_neg fun h => Bool.noConfusion (st.symm.trans h)).trans ?_
  refine (if_neg fun h => Bool.noConfusion (c3.symm.trans h)).trans ?_
  refine (if_neg fun h => Bool.noConfusion (h1.symm.trans h)).trans ?_
  refine (if_neg fun h => Bool.noConfusion (h2.symm.trans h)).trans ?_
  exact congrArg (fun z => pure (some z)) fm
theorem aCell_ok : ∀ {ts : List Expr}, aCell X.env.scope ts = true → ∃ x p, Expr.Name x p ∈ ts ∧ X.env.scope.names.lookup x = some .cell
  | [], h => by cases h
  | e :: es, h => by
    cases e
    case Name x p =>
      have h : (decide (X.env.scope.names.lookup x = some .cell) || aCell X.env.scope es) = true := h
      rcases Bool.or_eq_true_iff.mp h with h | h
      · exact ⟨x, p, List.mem_cons_self, of_decide_eq_true h⟩
      · obtain ⟨y, q, m, l⟩ := aCell_ok h
        exact ⟨y, q, List.mem_cons_of_mem _ m, l⟩
    all_goals
      obtain ⟨y, q, m, l⟩ := aCell_ok (ts := es) h
      exact ⟨y, q, List.mem_cons_of_mem _ m, l⟩
theorem swCell {ts vs : List Expr} {kt k2 : Nat} {pt p2 : Pos} (h : aCell X.env.scope ts = true) : swappedStores [.Tuple ts kt pt] (.Tuple vs k2 p2) X.env = pure none := by
  obtain ⟨x, p, m, l⟩ := aCell_ok h
  have ne : (ts.filterMap fun
      | .Name id pos => if X.env.kindOf id == some .local && pos.line == (ts.head?.map (·.pos.line)).getD 0 then some id else none
      | _ => none).length ≠ ts.length := fun e => by
    have z := (List.filterMap_length_eq_length.mp e) _ m
    have k : X.env.kindOf x = some .cell := l
    simp [k] at z
  have c3 : ((ts.filterMap fun
      | .Name id pos => if X.env.kindOf id == some .local && pos.line == (ts.head?.map (·.pos.line)).getD 0 then some id else none
      | _ => none).length != ts.length || (ts.filterMap fun
      | .Name id pos => if X.env.kindOf id == some .local && pos.line == (ts.head?.map (·.pos.line)).getD 0 then some id else none
      | _ => none).eraseDups.length != (ts.filterMap fun
      | .Name id pos => if X.env.kindOf id == some .local && pos.line == (ts.head?.map (·.pos.line)).getD 0 then some id else none
      | _ => none).length) = true := by
    rw [Bool.or_eq_true]
    exact .inl (by simpa using ne)
  unfold swappedStores
  by_cases c1 : (!(ts.length == 2 || ts.length == 3) || vs.length != ts.length || X.env.blockKind != .function) = true
  · exact (if_pos c1).trans rfl
  · refine (if_neg c1).trans ?_
    by_cases c2 : (vs.any fun | .Starred .. => true | _ => false) = true
    · exact (if_pos c2).trans rfl
    · exact (if_neg c2).trans ((if_pos c3).trans rfl)
theorem swTup {v : Expr} {es : List Expr} {kt : Nat} {pt : Pos} (h : (!(isTup v) || aCell X.env.scope es) = true) : swappedStores [.Tuple es kt pt] v X.env = pure none := by
  rcases Bool.or_eq_true_iff.mp h with h | h
  · cases v <;> first | rfl | exact Bool.noConfusion h
  · cases v <;> first | rfl | exact swCell h
theorem notStars : ∀ {vs : List Expr}, (vs.all notStar) = true → (vs.any fun | .Starred .. => true | _ => false) = false
  | [], _ => rfl
  | v :: vs, h => by
    rw [List.all_cons, Bool.and_eq_true] at h
    rw [List.any_cons, notStars h.2]
    cases v <;> first | rfl | exact Bool.noConfusion h.1
theorem not_eq {b : Bool} (h : (!b) = true) : b = false := by simpa using h
theorem parC_one {N : List Str} {sc : Scope} {i : Nat} {is : List Nat} {e : Expr} {es : List Expr} (h : parC io sc N (i :: is) (e :: es) = true) : ∃ x p, e = .Name x p ∧ N[i]? = some x ∧ sc.names.lookup x = some .local ∧ (!(io && i == 0)) = true ∧ parC io sc N is es = true := by
  unfold parC at h
  split at h <;> first | contradiction | skip
  rename_i z1 z2
  cases z1; cases z2
  obtain ⟨h1, h⟩ := and2 h
  obtain ⟨h2, h⟩ := and2 h
  obtain ⟨h3, h4⟩ := and2 h
  exact ⟨_, _, rfl, of_decide_eq_true h1, of_decide_eq_true h2, h3, h4⟩
theorem nd_ne {N : List Str} (nd : N.Nodup) {i j : Nat} {x y : Str} (hi : N[i]? = some x) (hj : N[j]? = some y) (h : i ≠ j) : x ≠ y := fun e => by
  subst e
  obtain ⟨h1, e1⟩ := List.getElem?_eq_some_iff.mp hi
  obtain ⟨h2, e2⟩ := List.getElem?_eq_some_iff.mp hj
  exact h ((List.getElem_inj nd).mp (e1.trans e2.symm))
theorem ioslot {i : Nat} (gb : GB X E k R G C io p0) (h : (!(io && i == 0)) = true) : p0 ≠ none → i ≠ 0 := fun hp hi => by
  subst hi
  cases io with
  | false => exact hp (gb.io rfl)
  | true => simp at h
/-- a comprehension straight into a name -/
theorem snd_setLc (gb : GB X E k R G C io p0) {W i : Nat} {v : Expr} {m : ME} {x : Str} {xp pos : Pos} (hi : X.N[i]? = some x) (hl : X.env.scope.names.lookup x = some .local) (hio : (!(io && i == 0)) = true) (h : chkE C X.N m X.env.scope v = true) (hlc : isLc m = true) (hs : swapsWith v (some (.Name x xp)) pos.line X.env = pure true) :
    PS X (.Assign [.Name x xp] v pos) (tSt (rd X E p0) (evS R G W (.asg i m))) := by
  have g := gb.g
  have fin : ∀ D σ H, tSt (rd X E p0) (evS R G W (.asg i m)) D σ H → tAsg (tE (rd X E p0) false m.pu (ev R G false m)) (gName i) D σ H := fun D σ H z => st_asg (fun j e hp => e ▸ ioslot gb hio hp) (te := fun _ _ _ => True) z
  cases m <;> first | exact Bool.noConfusion hlc | skip
  · rename_i own elt t src cs
    unfold chkE at h
    split at h <;> first | contradiction | skip
    rename_i z; cases z
    rename_i el tg it ifs as scope pos
    obtain ⟨h0, h⟩ := and2 h
    obtain ⟨h1, h⟩ := and2 h
    obtain ⟨h2, h⟩ := and2 h
    obtain ⟨h3, h⟩ := and2 h
    obtain ⟨h4, h⟩ := and2 h
    obtain ⟨h5, h⟩ := and2 h
    obtain ⟨h6, h⟩ := and2 h
    obtain ⟨h7, h⟩ := and2 h
    obtain ⟨h8, h⟩ := and2 h
    obtain ⟨h9, h10⟩ := and2 h
    have e0 := of_decide_eq_true h0
    subst e0
    refine (ps_setLc (tt := tT (rd X E0W none) (ME.pus cs) (evC R G cs)) (te := tE (rd X E0W none) false elt.pu (ev R G false elt)) g.calm g.nd hi hl hs (sndS src X E p0 tg it g h3 (elt.pu && (src.pu && ME.pus cs)) fun e => and_l (and_r e)) (blkOk_by h2)
      (fun s H Cc cl fp => pg_tgt (X := X.blk s H scope (compEnvC scope cl Cc X.env) fp) (io := false) (T := rd X E0W none) g.calm g.nd rfl (fun _ => rfl) t tg h4)
      (fun s H Cc cl fp => pts_of (sndTs cs (X.blk s H scope (compEnvC scope cl Cc X.env) fp) E0W none ifs (g.blk s H scope _ fp) h5 h6) (of_decide_eq_true h7))
      (fun s H Cc cl fp => sndE elt (X.blk s H scope (compEnvC scope cl Cc X.env) fp) E0W none el (g.blk s H scope _ fp) h8 false (fun e => by cases e)) (notSet h1 X.env)).imp fun D σ H z => ?_
    exact lc_ok (of_decide_eq_true h9) (of_decide_eq_true h10) (fin D σ H z)
  · rename_i own own1 elt t src t2 src2 cs
    unfold chkE at h
    split at h <;> first | contradiction | skip
    rename_i z; cases z
    rename_i el tg it as tg1 it1 ifs as1 scope pos
    obtain ⟨h0, h⟩ := and2 h
    obtain ⟨h1, h⟩ := and2 h
    obtain ⟨h1b, h⟩ := and2 h
    obtain ⟨h2, h⟩ := and2 h
    obtain ⟨h3, h⟩ := and2 h
    obtain ⟨h4, h⟩ := and2 h
    obtain ⟨h3b, h⟩ := and2 h
    obtain ⟨h4b, h⟩ := and2 h
    obtain ⟨h5, h⟩ := and2 h
    obtain ⟨h6, h⟩ := and2 h
    obtain ⟨h7, h⟩ := and2 h
    obtain ⟨h8, h⟩ := and2 h
    obtain ⟨h9, h⟩ := and2 h
    obtain ⟨h10, h⟩ := and2 h
    obtain ⟨h11, h12⟩ := and2 h
    obtain ⟨e0, e1⟩ := of_decide_eq_true h0
    subst e0 e1
    refine (ps_setLc2 (tt := tYes) (wi1 := tI (rd X E0W none) false src2.pu (ev R G false src2)) (g1 := tG (rd X E0W none) t2) (tt1 := tT (rd X E0W none) (ME.pus cs) (evC R G cs)) (te := tE (rd X E0W none) false elt.pu (ev R G false elt)) g.calm g.nd hi hl hs (sndS src X E p0 tg it g h3 (elt.pu && (src.pu && (src2.pu && ME.pus cs))) fun e => and_l (and_r e)) (blkOk_by h2) (of_decide_eq_true h12)
      (fun s H Cc cl fp => pg_tgt (X := X.blk s H scope (compEnvC scope cl Cc X.env) fp) (io := false) (T := rd X E0W none) g.calm g.nd rfl (fun _ => rfl) t tg h4) (fun s H Cc cl fp => pts_nil)
      (fun s H Cc cl fp => sndS src2 (X.blk s H scope (compEnvC scope cl Cc X.env) fp) E0W none tg1 it1 (g.blk s H scope _ fp) h3b false (fun e => by cases e))
      (fun s H Cc cl fp => pg_tgt (X := X.blk s H scope (compEnvC scope cl Cc X.env) fp) (io := false) (T := rd X E0W none) g.calm g.nd rfl (fun _ => rfl) t2 tg1 h4b)
      (fun s H Cc cl fp => pts_of (sndTs cs (X.blk s H scope (compEnvC scope cl Cc X.env) fp) E0W none ifs (g.blk s H scope _ fp) h5 h6) (of_decide_eq_true h7))
      (fun s H Cc cl fp => sndE elt (X.blk s H scope (compEnvC scope cl Cc X.env) fp) E0W none el (g.blk s H scope _ fp) h8 false (fun e => by cases e)) (notSet h1 X.env) (fun env => notSet h1b env)).imp fun D σ H z => ?_
    exact lc2_ok (of_decide_eq_true h9) (of_decide_eq_true h10) (of_decide_eq_true h11) (of_decide_eq_true h12) (fin D σ H z)
theorem swap_tup {v : Expr} {es : List Expr} {kt : Nat} {pt : Pos} (h : (!(isTup v)) = true) : swappedStores [.Tuple es kt pt] v X.env = pure none := by
  cases v <;> first | rfl | exact Bool.noConfusion h
theorem swap_one {v t : Expr} (h : (!(isTup v)) = true) : swappedStores [t] v X.env = pure none := by
  cases v <;> first | (cases t <;> rfl) | exact Bool.noConfusion h
theorem sub_asg {o y : Expr} {pos : Pos} (h : (!(isSlice y)) = true) : ∀ v, assign (.Subscript o y pos) X.env v = (do
      let ov ← holding [v] (eval o X.env)
      let iv ← holding [v, ov] (eval y X.env)
      standAt pos
      holding [v, ov, iv] (setItem ov iv v)
      release [v, ov, iv] []) := by
  intro v
  cases y <;> first | rfl | exact Bool.noConfusion h
mutual
theorem sndM (W : Nat) (m : MS) (X : Cx) (E : WX) (p0 : Option V) (st : Stmt) (gb : GB X E k R G C io p0) (h : chkM C X.N io X.env.scope m st = true) : PS X st (tSt (rd X E p0) (evS R G W m)) := by
  have g := gb.g
  cases m with
  | bad => exact ⟨fun pins s σ H D I z => by obtain ⟨env, B, F, U, sr, w, o, z⟩ := z; rw [evS] at z; exact z.elim⟩
  | asg i e =>
    unfold chkM at h
    split at h <;> first | contradiction | skip
    rename_i z; cases z
    rename_i x xp v pos
    obtain ⟨h1, h⟩ := and2 h
    obtain ⟨h2, h1⟩ := and2 h1
    obtain ⟨h3, h4⟩ := and2 h1
    obtain ⟨h5, h⟩ := and2 h
    obtain ⟨h6, h7⟩ := and2 h
    have hi := of_decide_eq_true h2
    have sw := swaps_is (l := pos.line) (x := x) (xp := xp) gb.kind h5
    cases hs : swB X.env.scope x xp v with
    | false =>
      rw [hs] at sw
      refine (ps_set g.nd hi (locC_ok h3) (sndE e X E p0 v g h6 false (fun e => by cases e)) sw (.inl (by rw [gb.fn]))).imp fun D σ H z => st_asg (fun j e hp => e ▸ ioslot gb h4 hp) (te := fun _ _ _ => True) z
    | true =>
      rw [hs] at sw
      have hl : X.env.scope.names.lookup x = some .local := by
        unfold swB at hs
        split at hs
        · have := and_l (and_l hs)
          simpa using this
        · cases hs
      rw [hs] at h7
      exact snd_setLc gb hi hl h4 h6 (by simpa using h7) sw
  | unp ts e =>
    unfold chkM at h
    split at h <;> first | contradiction | skip
    rename_i z; cases z
    obtain ⟨h1, h⟩ := and2 h
    obtain ⟨h2, h⟩ := and2 h
    obtain ⟨h3, h4⟩ := and2 h
    refine (ps_asg (sndE e X E p0 _ g h4 false (fun e => by cases e)) (pg_tgt (io := io) (T := rd X E p0) g.calm g.nd rfl gb.io (.tp ts) _ (by rw [chkG, gb.fn]; exact h3)) (not_swapS h2) (swTup h1)).imp fun D σ H z => st_unp z
  | par is es =>
    unfold chkM at h
    split at h <;> first | contradiction | skip
    · rename_i z; cases z
      rename_i i j a b kt pt x y k2 p2 pos
      obtain ⟨h1, h⟩ := and2 h
      obtain ⟨h2, h⟩ := and2 h
      obtain ⟨h3, h⟩ := and2 h
      obtain ⟨h4, h⟩ := and2 h
      obtain ⟨h5, h6⟩ := and2 h
      obtain ⟨na, pa, rfl, ia, la, oa, h1⟩ := parC_one h1
      obtain ⟨nb, pb, rfl, ib, lb, ob, h1⟩ := parC_one h1
      have ne := of_decide_eq_true h2
      have nn := nd_ne g.nd ia ib ne
      have ll : pb.line = pa.line := by simpa [sameLine, Expr.pos] using h3
      have ka : X.env.kindOf na = some .local := la
      have kb : X.env.kindOf nb = some .local := lb
      have al := sndEs es X E p0 _ g h4
      have pa' := al.pa (p := false) (fun e => by cases e)
      refine (ps_par g.calm g.nd ia ib ne la lb pa' (swGen gb.kind rfl (notStars al.star) (by simp [ka, kb, ll, Expr.pos]) rfl (by simp [List.eraseDups_cons, nn, Ne.symm nn]) (not_eq h5) (not_eq h6)) rfl).imp fun D σ H z => ?_
      refine tEs.post (st_par (fun v e m => ?_) z) fun vs H1 ⟨l, q⟩ => ?_
      · have hp : p0 ≠ none := by rw [show p0 = some v from e]; simp
        rcases List.mem_cons.mp m with m | m
        · exact ioslot gb oa hp m.symm
        · exact ioslot gb ob hp (List.mem_singleton.mp m).symm
      · rw [← al.len] at l
        match vs, l, q with
        | [v, w], _, q => exact ⟨v, w, rfl, q⟩
    · rename_i z; cases z
      rename_i i j l a b c kt pt x y z k2 p2 pos
      obtain ⟨h1, h⟩ := and2 h
      obtain ⟨h2, h⟩ := and2 h
      obtain ⟨h3, h⟩ := and2 h
      obtain ⟨h4, h⟩ := and2 h
      obtain ⟨h5, h6⟩ := and2 h
      obtain ⟨na, pa, rfl, ia, la, oa, h1⟩ := parC_one h1
      obtain ⟨nb, pb, rfl, ib, lb, ob, h1⟩ := parC_one h1
      obtain ⟨nc, pc, rfl, ic, lc, oc, h1⟩ := parC_one h1
      obtain ⟨ne, ne2, ne3⟩ := of_decide_eq_true h2
      have nn := nd_ne g.nd ia ib ne
      have nn2 := nd_ne g.nd ia ic ne2
      have nn3 := nd_ne g.nd ib ic ne3
      have ll : pb.line = pa.line ∧ pc.line = pa.line := by simpa [sameLine, Expr.pos] using h3
      have ka : X.env.kindOf na = some .local := la
      have kb : X.env.kindOf nb = some .local := lb
      have kc : X.env.kindOf nc = some .local := lc
      have al := sndEs es X E p0 _ g h4
      have pa' := al.pa (p := false) (fun e => by cases e)
      refine (ps_par3 g.calm g.nd ia ib ic ne ne2 ne3 la lb lc pa' (swGen gb.kind rfl (notStars al.star) (by simp [ka, kb, kc, ll.1, ll.2, Expr.pos]) rfl (by simp [List.eraseDups_cons, nn, Ne.symm nn, nn2, Ne.symm nn2, nn3, Ne.symm nn3]) (not_eq h5) (not_eq h6)) rfl).imp fun D σ H z => ?_
      refine tEs.post (st_par (fun v e m => ?_) z) fun vs H1 ⟨l, q⟩ => ?_
      · have hp : p0 ≠ none := by rw [show p0 = some v from e]; simp
        rcases List.mem_cons.mp m with m | m
        · exact ioslot gb oa hp m.symm
        · rcases List.mem_cons.mp m with m | m
          · exact ioslot gb ob hp m.symm
          · exact ioslot gb oc hp (List.mem_singleton.mp m).symm
      · rw [← al.len] at l
        match vs, l, q with
        | [u, v, w], _, q => exact ⟨u, v, w, rfl, q⟩
  | app i e =>
    unfold chkM at h
    split at h <;> first | contradiction | skip
    rename_i z; cases z
    obtain ⟨h1, h⟩ := and2 h
    obtain ⟨h2, h⟩ := and2 h
    obtain ⟨h3, h⟩ := and2 h
    obtain ⟨h4, h5⟩ := and2 h
    have e1 := of_decide_eq_true h1
    subst e1
    refine (ps_expr (pe_bm PySem.F.plainAttrs_list PySem.F.slot_list_append PySem.F.type_list_append mt_append (pe_nm h2) (pa_cons (sndE e X E p0 _ g h3 false (fun e => by cases e)) pa_nil (star_cons h4 [])) rfl ?_ h5 (star_cons h4 []) rfl) rfl).imp fun D σ H z => st_app z
    rw [star_cons h4]
    rfl
  | seti i kk e =>
    unfold chkM at h
    split at h <;> first | contradiction | skip
    rename_i z; cases z
    obtain ⟨h1, h⟩ := and2 h
    obtain ⟨h2, h⟩ := and2 h
    obtain ⟨h3, h⟩ := and2 h
    obtain ⟨h4, h⟩ := and2 h
    obtain ⟨h5, h6⟩ := and2 h
    refine (ps_asg (sndE e X E p0 _ g h6 false (fun e => by cases e)) (pg_sub (pe_nm h1) (sndE kk X E p0 _ g h5 false (fun e => by cases e)) set_list (sub_asg h2)) (not_swapS h3) (swap_one h4)).imp fun D σ H z => st_seti z
  | expr e =>
    unfold chkM at h
    split at h <;> first | contradiction | skip
    rename_i z; cases z
    obtain ⟨h1, h2⟩ := and2 h
    exact (ps_expr (sndE e X E p0 _ g h2 false (fun e => by cases e)) (not_swap h1)).imp fun D σ H z => st_expr z
  | ret e =>
    unfold chkM at h
    split at h <;> first | contradiction | skip
    · rename_i z; cases z
      exact (ps_ret (sndE e X E p0 _ g h false (fun e => by cases e))).imp fun D σ H z => st_ret z
    · rename_i z; cases z
      exact ps_retN.imp fun D σ H z => st_retN z
  | pass =>
    unfold chkM at h
    split at h <;> first | contradiction | skip
    exact ps_pass.imp fun D σ H z => by
      obtain ⟨env, B, F, U, sr, w, o, z⟩ := z
      rw [evS] at z
      exact z σ H F U Gr.refl w sr o
  | ite c a b =>
    unfold chkM at h
    split at h <;> first | contradiction | skip
    rename_i z; cases z
    obtain ⟨h1, h⟩ := and2 h
    obtain ⟨h2, h⟩ := and2 h
    obtain ⟨h3, h4⟩ := and2 h
    exact (ps_if (sndT c X E p0 _ g h2 h1).tT (sndMs W a X E p0 _ gb h3) (sndMs W b X E p0 _ gb h4)).imp fun D σ H z => st_ite z
  | for_ t src b =>
    unfold chkM at h
    split at h <;> first | contradiction | skip
    rename_i z; cases z
    obtain ⟨h1, h⟩ := and2 h
    obtain ⟨h2, h⟩ := and2 h
    obtain ⟨h3, h4⟩ := and2 h
    exact (ps_for gb.own g.calm (sndS src X E p0 _ _ g h3 false (fun e => by cases e)) (pg_tgt (io := io) (T := rd X E p0) g.calm g.nd rfl gb.io t _ (by rw [gb.fn]; exact h2)) (sndMs W b X E p0 _ gb h4) (notSet h1 X.env)).imp fun D σ H z => st_for z
  | while_ c b =>
    unfold chkM at h
    split at h <;> first | contradiction | skip
    rename_i z; cases z
    obtain ⟨h1, h⟩ := and2 h
    obtain ⟨h2, h3⟩ := and2 h
    exact (ps_while gb.own (sndT c X E p0 _ g h2 h1).tT (sndMs W b X E p0 _ gb h3)).imp fun D σ H z => st_while z
  | raise_ c e =>
    unfold chkM at h
    split at h <;> first | contradiction | skip
    rename_i z; cases z
    obtain ⟨h1, h⟩ := and2 h
    obtain ⟨h2, h⟩ := and2 h
    obtain ⟨h3, h⟩ := and2 h
    obtain ⟨h4, h5⟩ := and2 h
    obtain ⟨rfl, hc⟩ := of_decide_eq_true h1
    have er := g.err _ hc
    exact (ps_raise g.calm g.tk (pmk_err er.t er.gc g.room (pa_cons (sndE e X E p0 _ g h5 false (fun e => by cases e)) pa_nil (star_cons h4 [])) (glC_ok h2) (plainName_ok h3).1 (star_cons h4 []) rfl)).imp fun D σ H z => st_raise er.gc z
  | tryE all e cn i x =>
    unfold chkM at h
    split at h <;> first | contradiction | skip
    rename_i z; cases z
    obtain ⟨h1, h⟩ := and2 h
    obtain ⟨h2, h⟩ := and2 h
    obtain ⟨h3, h⟩ := and2 h
    obtain ⟨h4, h⟩ := and2 h
    obtain ⟨h5, h⟩ := and2 h
    obtain ⟨h6, h⟩ := and2 h
    obtain ⟨h7, h⟩ := and2 h
    obtain ⟨h8, h9⟩ := and2 h
    obtain ⟨rfl, hcn, rfl, hall, hix, hi, hx, hl⟩ := of_decide_eq_true h1
    have er := g.err _ hcn
    have gd : Good (X := X) E k R G C := g
    refine (ps_try_keep (Wout := E) (ts := fun _ _ _ => tAsg (tVar i) (gName x)) (tb := fun W2 D σ H => tE ⟨X.K, X.mg, W2, p0⟩ false e.pu (ev R G false e) σ H fun _ H1 => D.nx σ H1) gb.st gb.fr gb.ex g.nd hi hl ⟨glC_ok h5, (plainName_ok h6).1, .inl er.gc⟩ g.tk (fun W2 pn xe tk own => ?_) (fun a oe cls d pn hz hf => ?_)).imp fun D σ H z => ?_
    · have g2 : Good (X.tr pn xe) W2 k R G C := ⟨g.calm, g.nd, g.room, g.gd, tk, g.bl, g.con, g.err, g.fn⟩
      exact pss_one (ps_expr (sndE e (X.tr pn xe) W2 p0 _ g2 h9 false (fun e => by cases e)) (not_swap h8))
    · exact pss_one (ps_set g.nd hx (locC_ok h2) (pe_var hi (.inl hl) (plainName_ok h7).1 (plainName_ok h7).2) (not_swap rfl) (.inl (by show X.fn _ = true; rw [gb.fn])))
    · exact st_try (T := rd X E p0) C.es (.ref (He.ga X.K _)) hall (fun c hc => (g.err c hc).gc) (fun c hc hq => by
        rcases hq with rfl | rfl
        · exact (g.err _ hc).own
        · exact (g.err c hc).all) hix (fun hp => ioslot gb h3 hp) (fun hp => ioslot gb h4 hp) E z
termination_by sizeOf m
theorem sndMs (W : Nat) (ms : List MS) (X : Cx) (E : WX) (p0 : Option V) (sts : List Stmt) (gb : GB X E k R G C io p0) (h : chkMs C X.N io X.env.scope ms sts = true) : PSs X sts (tSt (rd X E p0) (evSs R G W ms)) := by
  match ms, sts with
  | [], [] => exact ⟨fun pins s σ H D I z => pss_nil.run pins s σ H D I (by
      obtain ⟨env, B, F, U, sr, w, o, z⟩ := z
      rw [evSs] at z
      exact z σ H F U Gr.refl w sr o)⟩
  | [], _ :: _ => simp [chkMs] at h
  | _ :: _, [] => simp [chkMs] at h
  | m :: ms, s :: ss =>
    rw [chkMs] at h
    obtain ⟨h1, h2⟩ := and2 h
    exact ⟨fun pins s0 σ H D I z => (pss_cons (sndM W m X E p0 s gb h1) (sndMs W ms X E p0 ss gb h2)).run pins s0 σ H D I (st_seq z)⟩
termination_by sizeOf ms
end
end
end PV

set_option maxHeartbeats 1000000
/-! A def's body keeps the promise; the law's call. -/
namespace PV
open PySem PySem.Spec PyProof.Rows L2
/-- the rule of a def's body, with the guards known -/
theorem fnG_of {P : Program} {w : World} {K : PySem.W.Frag} {mg : Str → Option Value} {base : Heap} {k : Nat} {fad : Addr} {nm qual : Str} {prm : Arguments} {bd : List Stmt} {sc : Scope} {dV kV doc pm cdv ct oc : Value} {an od : Option Addr}
    {osl : Array (Option Value)} {N ps : List Str} {sp : Sp} (lk : K.lookup fad = some ⟨oc, od, .func (PySem.W.fnOf nm qual prm bd sc dV kV doc pm an cdv ct), osl⟩) (hcd : PySem.W.codeIn K cdv qual = true) (S : FnScope N ps sc)
    (len : ∀ vs H Q E, sp vs H Q E → vs.length = ps.length)
    (hB : ∀ (A : Around) (out : List PySem.Env) (st : Shared) (Hh : Hp) (xs : List V) (Q : VK) (E : XK), Room k (A.deeper (envOfC qual sc st.heap.objs.size fad cdv)) → A.guards = some [] → sp xs Hh Q E →
      ∃ t, PSs (cxOf (L2.CX P w) P w K mg base N qual sc fad cdv A out st Hh E) bd t ∧ t { nx := fun _ H' => Q .non H', rt := Q } (start N xs) Hh) :
    FnG P w K mg base (k + 1) fad (PySem.W.fnOf nm qual prm bd sc dV kV doc pm an cdv ct) ps sp := by
  refine ⟨len, fun A out st Hh args us xs Q E room gd e0 bnd rv hsp => ?_⟩
  have ln := len _ _ _ _ hsp
  have kin : K.In st.heap := e0.mod.kin.keeps fun b o e => (e0.bs b o e).1
  have nol : st.heap.NoLimit := e0.mod.nolimit.keeps fun b o e => (e0.bs b o e).1
  have kinds : ∀ y ∈ ps.zip us, sc.names.lookup y.1 = some .local ∨ (sc.names.lookup y.1 = some .cell ∧ ((cellsFrom (st.heap.objs.size + 1) sc.names []).lookup y.1).isSome = true) := fun ⟨n, v⟩ hy => by
    rcases S.par n (List.of_mem_zip hy).1 with z | z
    · exact .inl z
    · exact .inr ⟨z, PySem.W.cellsFrom_some _ _ _ (.inl z)⟩
  refine codeAny_call_function room.depth (kin _ _ lk) rfl S.co S.gen rfl (PySem.W.codeRec_of kin hcd) (bnd _ _ _ _ ?_)
  refine wpAny_newFunctionEnv_cells S.kind kinds fun env he st1 inC => ?_
  subst he
  refine ⟨nol.keeps inC.toInCall.keep, codeAny_func ?_⟩
  obtain ⟨t, ht, hq⟩ := hB A out st Hh xs Q E (room.deeper _) gd hsp
  have Iv : Inv (cxOf (L2.CX P w) P w K mg base N qual sc fad cdv A out st Hh E) [] (start N xs) Hh st1 := inv_start S room.hd e0 ln rv inC
  refine wpAny_mono (ht.run [] st1 (start N xs) Hh _ Iv hq) (fun fl s' hs => ?_) fun e s' hs => hs
  have done : ∀ {σ' : L2.St} {H' : Hp} {v : V} {u : Value}, L2.Inv (cxOf (L2.CX P w) P w K mg base N qual sc fad cdv A out st Hh E) [] σ' H' s' → RelV v u → Q v H' → CE out P w Hh st Q u s' :=
    fun {σ' H' v u} J r0 q0 => ⟨v, H', J.os, J.bare, J.base, J.hok, r0, q0⟩
  cases fl with
  | ret u =>
    obtain ⟨v, σ', H', J, r0, q0⟩ := hs
    exact done J r0 q0
  | next =>
    obtain ⟨σ', H', J, q0⟩ := hs
    exact done (v := V.non) (u := Value.none) J rfl q0
  | brk => exact hs.elim fun _ z => z.elim fun _ y => y.2.elim
  | cont => exact hs.elim fun _ z => z.elim fun _ y => y.2.elim
theorem law_callG {P : Program} {w : World} {K : PySem.W.Frag} {mg mb : Str → Option Value} {k : Nat} {fa a : Addr} {fd : FuncData} {x : Str} {sp : Sp} {st : Shared} {vs : List Value} {ns : List Int}
    (kx : K.In st.heap) (nsm : st.heap.Ns mainGlobals mg) (nsb : st.heap.Ns builtinsNs mb) (boot : ∀ x : Str, x ≠ "__name__" → mb x = bootBuiltins x) (nol : st.heap.NoLimit) (gens : st.gens = #[])
    (hobj : st.heap.get? a = some { cls := .type "list", data := .seq vs.toArray }) (hi : IntsAre vs ns) (hlen : ns.length ≤ sizeLine) (room : Room k callerA)
    (F : ∀ base : Heap, K.In base → base.Ns mainGlobals mg → FnG P w K mg base k fa fd [x] sp) (bnd : ∀ (s : Shared) (u : Value), BindsTo s fd ⟨[u], []⟩ [(x, u)])
    (hsp : ∀ H : Hp, Only H → SqL K H a (ns.map V.int) → sp [.ref a] H (fun v _ => v = .bl true) fun _ _ _ => False)
    (hx : ∀ H e s', L2.CX P w [] H st (fun _ _ _ => False) e s' → False) :
    codeAny (model P w) callerA (.call (.ref fa) ⟨[.ref a], []⟩) (fun r s' => r = .ok (.ret (.bool true)) ∧ OldK st.heap s'.heap ∧ s'.os = st.os ∧ AllBare s'.gens) st := by
  have allI := vals_ints hi
  have lenI := hi.length
  have main : ∀ Hh : Hp, Only Hh → SqL K Hh a (ns.map V.int) → HOk P w Hh st.heap → (∀ b, Hh b ≠ none → b = a) → (Hh a ≠ none → K.lookup a = none) →
      codeAny (model P w) callerA (.call (.ref fa) ⟨[.ref a], []⟩) (fun r s' => r = .ok (.ret (.bool true)) ∧ OldK st.heap s'.heap ∧ s'.os = st.os ∧ AllBare s'.gens) st := by
    intro Hh hO hS hok hA hK
    have inB : ∀ {b : Addr} {o : Obj}, st.heap.get? b = some o → Hh b = none → (hidT st.heap Hh).get? b = some o := fun e n => hidT_get e n
    have notD : ∀ {b : Addr} {o : Obj} {es : Array DictEntry} {ep : Nat}, st.heap.get? b = some o → o.data = .dict es ep → Hh b = none := fun {b o es ep} e d => by
      cases qb : Hh b with
      | none => rfl
      | some u =>
        have eb : b = a := hA b (by simp [qb])
        subst eb
        rw [hobj] at e; cases e
        cases (show Data.seq vs.toArray _ = Data.dict es ep from d)
    have keepN : ∀ {b : Addr} {m : Str → Option Value}, st.heap.Ns b m → (hidT st.heap Hh).Ns b m := fun {b m} ⟨o, es, ep, e, d, r⟩ => ⟨o, es, ep, inB e (notD e d), d, r⟩
    have kb : K.In (hidT st.heap Hh) := fun b o e => inB (kx b o e) (by
      cases qb : Hh b with
      | none => rfl
      | some u =>
        have eb : b = a := hA b (by simp [qb])
        subst eb
        rw [hK (by simp [qb])] at e; cases e)
    have md : Mod K mg (hidT st.heap Hh) := ⟨kb, keepN nsm, ⟨mb, keepN nsb, boot⟩, let ⟨mc, h1, h2⟩ := nol; ⟨mc, keepN h1, h2⟩⟩
    have env0 : Env0 P w K mg (hidT st.heap Hh) callerA [] st Hh := ⟨rfl, md, fun b o e => of_hidT e, Nat.le_of_eq (hidT_size _ _), trivial, fun b hb => absurd hb (by simp [frs]), hok, .of_eq gens⟩
    refine codeAny_mono ((F _ kb (keepN nsm)).go callerA [] st Hh ⟨[.ref a], []⟩ [.ref a] [.ref a] _ _ room rfl env0 (bnd st (.ref a)) (.cons rfl .nil) (hsp Hh hO hS)) fun r s' h => ?_
    cases r with
    | error e => exact (hx Hh e s' h).elim
    | ok fl =>
      cases fl with
      | next => exact False.elim h
      | brk => exact False.elim h
      | cont => exact False.elim h
      | ret u =>
        obtain ⟨v, H', os, bare, un, hok', rr, qq⟩ := h
        have qq : v = .bl true := qq
        subst qq
        obtain rfl : u = Value.bool true := rr
        refine ⟨rfl, OldK.of_keep fun b o e => ?_, os, bare⟩
        cases qb : Hh b with
        | none => exact un.keep b o e qb (fun z => absurd z (by simp [frs])) (by simp)
        | some u =>
          rcases hO b with z | ⟨ob, xs, z⟩
          · rw [qb] at z; cases z
          · obtain ⟨e1, _⟩ := hok b _ z
            obtain ⟨e2, _⟩ := hok' b _ (un.frzs b ob _ z)
            rw [e] at e1; cases e1
            exact e2
  cases hk : K.lookup a with
  | some o =>
    have e := kx a o hk
    rw [hobj] at e
    cases e
    exact main (fun _ => none) (fun _ => .inl rfl) (.inr ⟨_, vs.toArray, _, hk, rfl, rfl, rfl, by rw [List.size_toArray, lenI]; exact hlen, by simpa using allI⟩) (fun b u z => by cases (show (none : Option HO) = some u from z)) (fun b z => absurd rfl z) fun z => absurd rfl z
  | none =>
    refine main (fun b => if b = a then some (.frz { cls := .type "list", data := .seq vs.toArray } (.lst (ns.map V.int))) else none) (fun b => ?_) (.inl (.inr ⟨{ cls := .type "list", data := .seq vs.toArray }, if_pos rfl⟩)) (fun b u z => ?_) (fun b z => ?_) fun _ => hk
    · by_cases eb : b = a
      · exact .inr ⟨_, _, if_pos eb⟩
      · exact .inl (if_neg eb)
    · by_cases eb : b = a
      · cases (if_pos eb).symm.trans z
        subst eb
        exact ⟨hobj, by rw [List.length_map]; exact hlen, vs, _, allI, hobj⟩
      · cases (if_neg eb).symm.trans z
    · by_cases eb : b = a
      · exact eb
      · exact absurd (if_neg eb) z
theorem walk_G {l : PySem.W.OpenLaw} {n k : Nat} {q : Program} {loose : List Str} {XP : (Str → Option Value) → Heap → Prop} {YP : World → Heap → Prop} {d : DefRec} {x : Str}
    (hn : l.most = some n) (hn2 : n ≤ sizeLine) (hdf : d.params.defaults = []) (room : Room k callerA)
    (F : ∀ (w : World) (mg : Str → Option Value) (fa : Addr) (h : Heap), YP w h → h.Ns mainGlobals mg → mg d.name = some (.ref fa) →
      ∃ (K : PySem.W.Frag) (fd : FuncData) (sp : Sp), K.In h ∧ (∀ (s : Shared) (u : Value), BindsTo s fd ⟨[u], []⟩ [(x, u)]) ∧
        (∀ (Hh : Hp) (a : Addr) (ns : List Int), ns.length ≤ n → Only Hh → SqL K Hh a (ns.map V.int) → sp [.ref a] Hh (fun v _ => v = .bl true) fun _ _ _ => False) ∧
        ∀ base : Heap, K.In base → base.Ns mainGlobals mg → FnG l.prog w K mg base k fa fd [x] sp)
    (hx : ∀ (w : World) (H : Hp) (s : Shared) (e : Value) (s' : Shared), L2.CX l.prog w [] H s (fun _ _ _ => False) e s' → False) :
    PySem.W.WalkO q loose XP YP l.row.toRowW d [] (fun f vs => PySem.call f vs) := by
  refine Att.attach_call hn hdf fun w s₀ st mg mb fa o pm cd doc a vs ns G Y ho hd hcd hmg hobj hints hlen hg => ?_
  obtain ⟨K, fd, sp, kin, bnd, hsp, hF⟩ := F w mg fa _ Y G.T.g hmg
  exact law_callG kin G.T.g G.T.b G.T.builtins G.T.nolimit hg hobj hints (Nat.le_trans hlen hn2) room hF bnd (fun Hh hO hS => hsp Hh a ns hlen hO hS) fun Hh e s' => hx w Hh st e s'
theorem cx_none {P : Program} {w : World} (H : Hp) (s : Shared) (e : Value) (s' : Shared) (h : L2.CX P w [] H s (fun _ _ _ => False) e s') : False := by
  obtain ⟨_, _, _, _, _, _, _, _, _, _, _, _, z⟩ := h
  exact z
end PV

set_option maxHeartbeats 1000000
/-! All defs, level by level. -/
namespace PV
open PySem PySem.Spec PyProof.Rows L2
section
variable {P : Program} {w : World} {K : PySem.W.Frag} {mg : Str → Option Value} {base : Heap} {G : List D} {W : Nat} {fs : List Fn} {C : CK} {B F H : Hp}
theorem SR.start : ∀ {cs : List CT} {vs : List V} {u : List Addr} (m : Nat), RCs K H F cs vs u → SR K H F (cs.map some ++ List.replicate m none) (vs.map some ++ List.replicate m none) u
  | _, _, _, 0, .nil => .nil
  | _, _, _, m + 1, .nil => by
    rw [List.replicate_succ, List.replicate_succ]
    exact .ns (SR.start m .nil)
  | _, _, _, m, .cons a b => .sm a (SR.start m b)
/-- what is fixed of a def: where it stands, its text, the text's other form -/
structure StD (K : PySem.W.Frag) (mg : Str → Option Value) (C : CK) (e : Ent) (f : Fn) : Prop where
  ex : ∃ (fa : Addr) (fd : FuncData) (qual : Str) (prm : Arguments) (bd : List Stmt) (sc : Scope) (N : List Str), mg e.name = some (.ref fa) ∧ FunD K e.name qual prm bd sc [] [] fa fd ∧ Binds K fd e.ps [] ∧ (∀ z ∈ e.kws, BindsK K fd e.ps z.1 z.2) ∧
    FnScope N e.ps sc ∧ f.np = e.ps.length ∧ f.nn = N.length ∧ f.io = e.io ∧ (e.io = true → 1 ≤ e.ps.length) ∧ chkMs C N e.io sc f.body bd = true
def FnAt0 (P : Program) (w : World) (K : PySem.W.Frag) (mg : Str → Option Value) (base : Heap) (k : Nat) (e : Ent) (r : List CT → Res (CT × Option CT)) : Prop := ∃ f fd, mg e.name = some (.ref f) ∧ PySem.W.keepIn K (.ref f) = true ∧ Binds K fd e.ps [] ∧ (∀ z ∈ e.kws, BindsK K fd e.ps z.1 z.2) ∧ (∃ (oc : Value) (od : Option Addr) (osl : Array (Option Value)), K.lookup f = some ⟨oc, od, .func fd, osl⟩) ∧
  FnG P w K mg base k f fd e.ps (spR K mg e.ps.length e.io r)
theorem fn_level (hS : ∀ (i : Nat) (e : Ent), C.fs[i]? = some e → ∃ f, fs[i]? = some f ∧ StD K mg C e f) (bl : ∀ x ∈ bnames, mg x = none)
    (con : ∀ (i : Nat) (x : Str) (d : D), C.gs[i]? = some x → G[i]? = some d → ∃ u v, mg x = some u ∧ RelV v u ∧ ∀ F, RD K F d v) (er : ∀ c ∈ C.es, ErrF P K mg c) :
    ∀ (k i : Nat) (e : Ent), C.fs[i]? = some e → FnAt0 P w K mg base k e (run G W fs k i)
  | 0, i, e, h => by
    obtain ⟨f, hf, ⟨fa, fd, qual, prm, bd, sc, N, h1, h2, h3, h4, _⟩⟩ := hS i e h
    obtain ⟨oc, od, dV, kV, doc, pm, an, cdv, ct, osl, e0, lk, _⟩ := h2.ex
    refine ⟨fa, fd, h1, h2.kp, h3, h4, ⟨oc, od, osl, lk⟩, fun vs H Q E z => z.1, fun A outer s H args us vs Q E _ _ _ _ _ z => ?_⟩
    obtain ⟨_, B, F, cs, u, _, _, z⟩ := z
    exact z.elim
  | k + 1, i, e, h => by
    obtain ⟨f, hf, ⟨fa, fd, qual, prm, bd, sc, N, h1, h2, h3, h4, h5, h6, h7, h8, h9, h10⟩⟩ := hS i e h
    have kp := h2.kp
    obtain ⟨oc, od, dV, kV, doc, pm, an, cdv, ct, osl, rfl, lk, hcd, _, _⟩ := h2.ex
    refine ⟨fa, _, h1, kp, h3, h4, ⟨oc, od, osl, lk⟩, ?_⟩
    refine fnG_of lk hcd h5 (fun vs H Q E z => z.1) fun A out st Hh xs Q E room gd z => ?_
    obtain ⟨hn, B, F, cs, u, rc, wr, z⟩ := z
    have ex : run G W fs (k + 1) i cs = fin1 f.io (evSs (run G W fs k) G W f.body (cs.map some ++ List.replicate (f.nn - f.np) none)) := by
      rw [run, hf]
      have : cs.length = f.np := by rw [rc.rp.length, hn, h6]
      show (if cs.length = f.np then _ else _) = _
      rw [if_pos this]
    rw [ex, h8] at z
    let p0 : Option V := if e.io = true then xs[0]? else none
    let E2 : WX := fun c d _ H => E c d H
    let X : Cx := cxOf (L2.CX P w) P w K mg base N qual sc fa cdv A out st Hh E
    have gb : GB X E2 k (run G W fs k) G C e.io p0 := by
      refine ⟨⟨rfl, h5.nd, room, gd, takes_of rfl rfl rfl rfl, bl, con, er, fun j e2 hj => let ⟨f, fd, q1, q2, q3, q4, _, q5⟩ := fn_level hS bl con er k j e2 hj; ⟨f, fd, q1, q2, q3, q4, q5⟩⟩, passes_of rfl, rfl, h5.kind, fun hz => ?_, rfl, rfl, rfl⟩
      show (if e.io = true then xs[0]? else none) = none
      rw [if_neg (by rw [hz]; decide)]
    refine ⟨tSt (rd X E2 p0) (evSs (run G W fs k) G W f.body), sndMs W f.body X E2 p0 bd gb h10, cs.map some ++ List.replicate (f.nn - f.np) none, B, F, u, ?_, wr, ?_, ?_⟩
    · have := SR.start (f.nn - f.np) rc
      rw [h7, h6, ← hn] at this ⊢
      exact this
    · intro v hv
      have hv : (if e.io = true then xs[0]? else none) = some v := hv
      by_cases hz : e.io = true
      · rw [if_pos hz] at hv
        unfold L2.start
        rw [List.getElem?_append_left (by
          rw [List.length_map]
          rcases Nat.lt_or_ge 0 xs.length with q | q
          · exact q
          · rw [List.getElem?_eq_none q] at hv; cases hv), List.getElem?_map, hv]
        rfl
      · rw [if_neg hz] at hv; cases hv
    · have hv0 : e.io = true → ∃ v0, xs[0]? = some v0 ∧ p0 = some v0 := fun hz => by
        have hl : 0 < xs.length := by have := h9 hz; omega
        refine ⟨xs[0], List.getElem?_eq_getElem hl, ?_⟩
        show (if e.io = true then xs[0]? else none) = _
        rw [if_pos hz]
        exact List.getElem?_eq_getElem hl
      cases ev : evSs (run G W fs k) G W f.body (cs.map some ++ List.replicate (f.nn - f.np) none) with
      | bad => rw [ev] at z; exact z.elim
      | exc c x => rw [ev] at z; exact fun _ => z
      | nx e2 =>
        rw [ev] at z
        intro σ' H' F' U' g1 w1 s1 o1
        by_cases hz : e.io = true
        · rw [fin1, if_pos hz] at z
          cases eg : e2.get 0 with
          | none => rw [eg] at z; exact z.elim
          | some c =>
            rw [eg] at z
            obtain ⟨v, u1, W1, q1, q2, q3, _⟩ := s1.get eg
            obtain ⟨v0, y1, y2⟩ := hv0 hz
            have e3 : v = v0 := Option.some.inj (Option.some.inj (q1.symm.trans (o1 v0 y2)))
            subst e3
            exact z .non H' F' [] u1 g1 (w1.perm q3).left (.d .non) fun _ => ⟨c, v, rfl, y1, q2⟩
        · rw [fin1, if_neg hz] at z
          exact z .non H' F' [] U' g1 w1 (.d .non) fun q => absurd q hz
      | rt c e2 =>
        rw [ev] at z
        intro v H' F' u1 U' σ' g1 w1 s1 o1 rc1
        by_cases hz : e.io = true
        · rw [fin1, if_pos hz] at z
          cases eg : e2.get 0 with
          | none => rw [eg] at z; exact z.elim
          | some c0 =>
            rw [eg] at z
            obtain ⟨v1, u2, W1, q1, q2, q3, _⟩ := s1.get eg
            obtain ⟨v0, y1, y2⟩ := hv0 hz
            have e3 : v1 = v0 := Option.some.inj (Option.some.inj (q1.symm.trans (o1 v0 y2)))
            subst e3
            have w2 : WR B F' H' ((u1 ++ u2) ++ W1) := w1.perm (by rw [List.append_assoc]; exact List.Perm.append_left u1 q3)
            exact z v H' F' u1 u2 g1 w2.left rc1 fun _ => ⟨c0, v1, rfl, y1, q2⟩
        · rw [fin1, if_neg hz] at z
          exact z v H' F' u1 U' g1 w1 rc1 fun q => absurd q hz
theorem law_sp {r : List CT → Res (CT × Option CT)} {ns : List Int} {a : Addr} (h : r [.d (.scr ns)] = .ok (.d (.bl true), none)) (hs : SqL K H a (ns.map V.int)) : spR K mg 1 false r [.ref a] H (fun v _ => v = .bl true) fun _ _ _ => False := by
  refine ⟨rfl, H, H, [.d (.scr ns)], [] ++ [], .cons (.d (.scr hs)) .nil, ⟨Same.refl _, Same.refl _, List.nodup_nil, fun _ m => by cases m⟩, ?_⟩
  rw [h]
  intro v H' F' w' u0 _ _ rc _
  cases rc with
  | d r => cases r; rfl
end
end PV

set_option maxRecDepth 100000
/-! The head's facts of the error classes. -/
namespace PV
open PySem PySem.Spec PyProof.Rows L2 He
/-! ### the head's facts, the statics among them -/
def asE (g : Addr → Option Obj) (n : Nat) : List Addr := asD g n ++ [cStatics]
structure SaysE (fa : List Fa) (fn : List DefD) (ex : PySem.W.Frag → Bool) (w : World) (K : PySem.W.Frag) : Prop where
  t : SaysT fa fn [] w K
  more : ex K = true
abbrev AlE : Type := AlT × Bool
def obsE (n : Nat) (fa : List Fa) (fn : List DefD) (ex : PySem.W.Frag → Bool) (g : Addr → Option Obj) : AlE := (obsT fa fn [] (frT g (asE g n)), ex (frT g (asE g n)))
def hookE (n : Nat) (fa : List Fa) (fn : List DefD) (ex : PySem.W.Frag → Bool) : PySem.W.Hook where
  α := AlE
  obs := fun s => obsE n fa fn ex s.heap.get?
  val := fun w => (valT fn [] w, true)
  says := fun w h => ∃ K : PySem.W.Frag, K.In h ∧ SaysE fa fn ex w K
  of := fun _ _ e => ⟨_, frT_in, ⟨congrArg (fun z : AlE => z.1) e, congrArg (fun z : AlE => z.2) e⟩⟩
  keeps := fun _ _ _ ⟨K, hK, c⟩ k => ⟨K, PySem.W.Frag.In.keeps hK k, c⟩
theorem obsE_eq {n : Nat} {fa : List Fa} {fn : List DefD} {ex : PySem.W.Frag → Bool} {g : Addr → Option Obj} {s : Shared} (h : ∀ a, g a = s.heap.get? a) : obsE n fa fn ex g = (hookE n fa fn ex).obs s := by
  have e : g = s.heap.get? := funext h
  rw [e] <;> rfl
/-! ### an error class -/
def clsB (K : PySem.W.Frag) (C : Addr) : Bool := match K.lookup C with
  | some ⟨.type "type", _, .cls cd, sl⟩ => (match cd.mro, sl.toList with
    | .ref C' :: bm, [_, _, _, _, some (.builtin n), _] => decide (C' = C) && (decide (n = "ValueError.__new__") && (cd.hasDict && (!cd.hasDel && PySem.HandSPX.refsVE bm)))
    | _, _ => false)
  | _ => false
theorem clsB_ok {K : PySem.W.Frag} {C : Addr} (h : clsB K C = true) : ∃ nm q N bs bm sn sub ab col dd k0 k1 k2 k3 k5, K.lookup C = some (excClassObj nm q C N bs bm true sn sub ab col dd k0 k1 k2 k3 k5 "ValueError.__new__") ∧ PySem.HandSPX.refsVE bm = true := by
  unfold clsB at h
  split at h
  · rename_i dd cd sl ho
    split at h
    · rename_i C' bm k0 k1 k2 k3 n k5 hm hs
      obtain ⟨h1, h⟩ := ba h
      obtain ⟨h2, h⟩ := ba h
      obtain ⟨h3, h⟩ := ba h
      obtain ⟨h4, h5⟩ := ba h
      obtain rfl := of_decide_eq_true h1
      obtain rfl := of_decide_eq_true h2
      obtain ⟨nm, bs, mro, ns, qn, hd, sn, sub, ab, col, del⟩ := cd
      dsimp only at hm h3 h4
      have h4 : del = false := by simpa using h4
      subst hm h3 h4
      have hsl : sl = #[k0, k1, k2, k3, some (.builtin "ValueError.__new__"), k5] := by
        obtain ⟨l⟩ := sl
        simp only at hs
        rw [hs]
      subst hsl
      exact ⟨nm, qn, ns, bs, bm, sn, sub, ab, col, dd, k0, k1, k2, k3, k5, ho, h5⟩
    · cases h
  · cases h
def argsB : Arguments → Bool
  | ⟨[], [⟨a, none, _⟩, ⟨b, none, _⟩], none, [], [], none, [_]⟩ => decide (a = ("self" : Str)) && decide (b = ("value" : Str))
  | _ => false
theorem argsB_ok {a : Arguments} (h : argsB a = true) : ∃ p1 p2 d, a = PySem.GErr.iA p1 p2 d := by
  unfold argsB at h
  split at h
  · obtain ⟨h1, h2⟩ := ba h
    obtain rfl := of_decide_eq_true h1
    obtain rfl := of_decide_eq_true h2
    exact ⟨_, _, _, rfl⟩
  · cases h
def bodyB : FuncBody → Bool
  | .stmts [.Expr (.Call (.Attribute (.Call (.Name s0 _) [] [] _) i0 p2) [.Name v0 _] [] p4) _, .Assign [.Attribute (.Name s1 _) f1 _] (.Name v1 _) _] =>
    decide (s0 = ("super" : Str)) && (decide (i0 = ("__init__" : Str)) && (decide (v0 = ("value" : Str)) && (decide (s1 = ("self" : Str)) && (decide (f1 = ("value" : Str)) && (decide (v1 = ("value" : Str)) && (p2.endLine == p4.line))))))
  | _ => false
theorem bodyB_ok {b : FuncBody} (h : bodyB b = true) : ∃ a0 a1 a2 a3 a4 a5 b0 b1 b2 b3, b = .stmts (PySem.GErr.iB a0 a1 a2 a3 a4 a5 b0 b1 b2 b3) ∧ (a2.endLine == a4.line) = true := by
  unfold bodyB at h
  split at h
  · obtain ⟨h1, h⟩ := ba h
    obtain ⟨h2, h⟩ := ba h
    obtain ⟨h3, h⟩ := ba h
    obtain ⟨h4, h⟩ := ba h
    obtain ⟨h5, h⟩ := ba h
    obtain ⟨h6, h7⟩ := ba h
    obtain rfl := of_decide_eq_true h1
    obtain rfl := of_decide_eq_true h2
    obtain rfl := of_decide_eq_true h3
    obtain rfl := of_decide_eq_true h4
    obtain rfl := of_decide_eq_true h5
    obtain rfl := of_decide_eq_true h6
    exact ⟨_, _, _, _, _, _, _, _, _, _, rfl, h7⟩
  · cases h
def tupNonB (K : PySem.W.Frag) (T : Addr) : Bool := match K.lookup T with
  | some ⟨_, _, .seq its _, _⟩ => decide (its.toList = [Value.none])
  | _ => false
theorem tupNonB_ok {K : PySem.W.Frag} {T : Addr} (h : tupNonB K T = true) : ∃ o n, K.lookup T = some o ∧ o.data = .seq #[.none] n := by
  unfold tupNonB at h
  split at h
  · rename_i its n sl ho
    have e := of_decide_eq_true h
    have e : its = #[.none] := by
      obtain ⟨l⟩ := its
      exact congrArg Array.mk e
    subst e
    exact ⟨_, _, ho, rfl⟩
  · cases h
def cellB (K : PySem.W.Frag) (cc G : Addr) : Bool := match K.lookup cc with
  | some ⟨_, _, .cell (some (.ref a)), _⟩ => decide (a = G)
  | _ => false
theorem cellB_ok {K : PySem.W.Frag} {cc G : Addr} (h : cellB K cc G = true) : ∃ cl cld csl, K.lookup cc = some ⟨cl, cld, .cell (some (.ref G)), csl⟩ := by
  unfold cellB at h
  split at h
  · rename_i ho
    obtain rfl := of_decide_eq_true h
    exact ⟨_, _, _, ho⟩
  · cases h
def fileB (prog : Program) (K : PySem.W.Frag) (cda : Addr) : Bool := match K.lookup cda with
  | some ⟨_, _, .fields vs, _⟩ => (match (vs[2]? : Option Value) with
    | some (Value.str file _) => (prog.main.file : Str) == file
    | _ => false)
  | _ => false
theorem fileB_ok {prog : Program} {K : PySem.W.Frag} {cda : Addr} (h : fileB prog K cda = true) : ∃ ccl cdd vs ccs file tf, K.lookup cda = some ⟨ccl, cdd, .fields vs, ccs⟩ ∧ vs[2]? = some (.str file tf) ∧ ((prog.main.file : Str) == file) = true := by
  unfold fileB at h
  split at h
  · rename_i ho
    split at h
    · rename_i hv
      exact ⟨_, _, _, _, _, _, ho, hv, h⟩
    · cases h
  · cases h
def fnB (prog : Program) (K : PySem.W.Frag) (fI G : Addr) : Bool := match K.lookup fI with
  | some ⟨_, _, .func fd, _⟩ => (match fd.closure, fd.defaults, fd.kwdefaults, fd.code with
    | [(x, cc)], .ref T, .none, .ref cda => decide (x = ("__class__" : Str) ∧ fd.name = ("__init__" : Str) ∧ fd.qualname = ("GameError.__init__" : Str) ∧ fd.scope = PySem.GErr.iS ∧ fd.globals = mainGlobals ∧ fd.builtins = builtinsNs) &&
      (argsB fd.params && (bodyB fd.body && (tupNonB K T && (cellB K cc G && (fileB prog K cda && PySem.W.codeIn K (.ref cda) "GameError.__init__")))))
    | _, _, _, _ => false)
  | _ => false
theorem fnB_ok {prog : Program} {K : PySem.W.Frag} {fI G : Addr} (h : fnB prog K fI G = true) : ∃ (oc : Value) (od : Option Addr) (TT : Addr) (oT : Obj) (nT : Nat) (doc pm : Value) (an : Option Addr) (cda : Addr) (ct : Value) (osl : Array (Option Value)) (p1 p2 a0 a1 a2 a3 a4 a5 b0 b1 b2 b3 : Pos) (dx : Expr) (cc : Addr) (cl : Value) (cld : Option Addr) (csl : Array (Option Value)) (ccl : Value) (cdd : Option Addr) (vs : Array Value) (ccs : Array (Option Value)) (file : Str) (tf : Tok),
    K.lookup fI = some ⟨oc, od, .func (PySem.W.ksFn "__init__" "GameError.__init__" (PySem.GErr.iA p1 p2 dx) (PySem.GErr.iB a0 a1 a2 a3 a4 a5 b0 b1 b2 b3) PySem.GErr.iS (.ref TT) .none doc pm an (.ref cda) ct cc), osl⟩ ∧ K.lookup TT = some oT ∧ oT.data = .seq #[.none] nT ∧ PySem.W.codeIn K (.ref cda) "GameError.__init__" = true ∧
      K.lookup cc = some ⟨cl, cld, .cell (some (.ref G)), csl⟩ ∧ K.lookup cda = some ⟨ccl, cdd, .fields vs, ccs⟩ ∧ vs[2]? = some (.str file tf) ∧ ((prog.main.file : Str) == file) = true ∧ (a2.endLine == a4.line) = true := by
  unfold fnB at h
  split at h
  · rename_i oc od fd osl ho
    split at h
    · rename_i x cc T cda e1 e2 e3 e4
      obtain ⟨h1, h⟩ := ba h
      obtain ⟨h2, h⟩ := ba h
      obtain ⟨h3, h⟩ := ba h
      obtain ⟨h4, h⟩ := ba h
      obtain ⟨h5, h⟩ := ba h
      obtain ⟨h6, h7⟩ := ba h
      obtain ⟨q1, q2, q3, q4, q5, q6⟩ := of_decide_eq_true h1
      obtain ⟨p1, p2, dx, ea⟩ := argsB_ok h2
      obtain ⟨a0, a1, a2, a3, a4, a5, b0, b1, b2, b3, eb, hl⟩ := bodyB_ok h3
      obtain ⟨oT, nT, hT, hT2⟩ := tupNonB_ok h4
      obtain ⟨cl, cld, csl, hc⟩ := cellB_ok h5
      obtain ⟨ccl, cdd, vs, ccs, file, tf, hf, hf2, hf3⟩ := fileB_ok h6
      obtain ⟨nm, ql, pr, bd, sc, gl, clo, df, kd, doc, pm, an, cd, ct, bt⟩ := fd
      dsimp only at e1 e2 e3 e4 q1 q2 q3 q4 q5 q6 ea eb
      subst q1 q2 q3 q4 q5 q6 ea eb e1 e2 e3 e4
      exact ⟨oc, od, T, oT, nT, doc, pm, an, cda, ct, osl, p1, p2, a0, a1, a2, a3, a4, a5, b0, b1, b2, b3, dx, cc, cl, cld, csl, ccl, cdd, vs, ccs, file, tf, ho, hT, hT2, h7, hc, hf, hf2, hf3, hl⟩
    · cases h
  · cases h
def bx (a : Option Bool) : Bool := match a with
  | some b => b
  | none => false
theorem bx_ok {a : Option Bool} (h : bx a = true) : a = some true := by
  cases a with
  | none => cases h
  | some b => exact congrArg some h
def tyB (a : Option Value) (t : String) : Bool := match a with
  | some (.type s) => decide (s = t)
  | _ => false
theorem tyB_ok {a : Option Value} {t : String} (h : tyB a t = true) : a = some (.type t) := by
  unfold tyB at h
  split at h
  · obtain rfl := of_decide_eq_true h; rfl
  · cases h
/-- an error class as it has to be -/
def errB (prog : Program) (K : PySem.W.Frag) (c : Str) : Bool :=
  clsB K (ga K c) && (eqO (PySem.W.findIn K (.ref (ga K c)) "__setattr__") (some (some (.builtin "object.__setattr__"))) && (eqO (PySem.W.findIn K (.ref (ga K c)) "__getattribute__") (some (some (.builtin "BaseException.__getattribute__"))) &&
  (eqO (PySem.W.findIn K (.ref (ga K c)) "__getattr__") (some none) && (eqO (PySem.W.findIn K (.ref (ga K c)) "value") (some none) && (eqO (PySem.W.findIn K (.ref (ga K c)) "__init__") (some (some (.ref (ma K (ga K "GameError") "__init__")))) &&
  (tyB (PySem.W.typeIn K (.ref (ma K (ga K "GameError") "__init__"))) "function" && (PySem.W.keepIn K (.ref (ga K c)) && (bx (PySem.W.subIn K (.ref (ga K c)) (.type "BaseException")) && (tyB (PySem.W.typeIn K (.ref (ga K c))) "type" &&
  (PySem.W.hasDictIn K (ga K c) && (bx (PySem.W.subIn K (.ref (ga K c)) (.type "ValueError")) && (bx (PySem.W.mroIn K (ga K c) (.ref (ga K "GameError"))) && (eqO (PySem.W.ks_superIn K (ga K c) (ga K "GameError") "__init__") (some (some (.builtin "ValueError.__init__"))) &&
  (eqO (PySem.W.nsIn K cStatics "thirdparty.any") (some none) && (!(prog.main.scope.names.lookup ("super" : Str)).isSome && ((PySem.W.clsIn K (ga K "GameError")).isSome && (fnB prog K (ma K (ga K "GameError") "__init__") (ga K "GameError") &&
  (bx (PySem.W.exmOne K (.ref (ga K c)) (.ref (ga K c))) && bx (PySem.W.exmOne K (.ref (ga K c)) (.ref (ga K "GameError")))))))))))))))))))))
theorem errB_ok {prog : Program} {K : PySem.W.Frag} {mg : Str → Option Value} {c : Str} (h : errB prog K c = true) (hg : mg c = some (.ref (ga K c))) (hs : mg "super" = none) : ErrF prog K mg c := by
  obtain ⟨h1, h⟩ := ba h
  obtain ⟨h2, h⟩ := ba h
  obtain ⟨h3, h⟩ := ba h
  obtain ⟨h4, h⟩ := ba h
  obtain ⟨h5, h⟩ := ba h
  obtain ⟨h6, h⟩ := ba h
  obtain ⟨h7, h⟩ := ba h
  obtain ⟨h8, h⟩ := ba h
  obtain ⟨h9, h⟩ := ba h
  obtain ⟨h10, h⟩ := ba h
  obtain ⟨h11, h⟩ := ba h
  obtain ⟨h12, h⟩ := ba h
  obtain ⟨h13, h⟩ := ba h
  obtain ⟨h14, h⟩ := ba h
  obtain ⟨h15, h⟩ := ba h
  obtain ⟨h16, h⟩ := ba h
  obtain ⟨h17, h⟩ := ba h
  obtain ⟨h18, h⟩ := ba h
  obtain ⟨h19, h20⟩ := ba h
  exact ⟨hg, ⟨clsB_ok h1, eqO_ok h2, eqO_ok h3, eqO_ok h4, eqO_ok h5, eqO_ok h6, tyB_ok h7, h8, bx_ok h9, tyB_ok h10, h11, bx_ok h12, bx_ok h13, eqO_ok h14, eqO_ok h15, hs, by simpa using h16, Option.isSome_iff_exists.mp h17, fnB_ok h18⟩, bx_ok h19, bx_ok h20⟩
end PV

set_option maxRecDepth 100000
/-! The evaluator's equations for simp; loops are named. -/
namespace PV.PE
open PySem L2
abbrev di (i : Int) : CT := .d (.int i)
abbrev ow (xs : List D) : CT := .l (xs.map .d)
def fbody (R : Rn) (G : List D) (W : Nat) (t : Tgt) (b : List MS) : D → Env → SRes := fun x e => match asgC t (.d x) e with
  | some e1 => evSs R G W b e1
  | none => .bad
def cbody (R : Rn) (G : List D) (own : List (Str × Nat)) (elt : ME) (t : Tgt) (cs : List ME) : D → Env → Res (List CT × Env) := fun x e => match asgC t (.d x) e with
  | some e1 => (evC R G cs e1).bd fun b => if b.1 = true then (ev R G false elt b.2).bd fun q => .ok ([q.1], clr own q.2) else .ok ([], clr own b.2)
  | none => .bad
def c2body (R : Rn) (G : List D) (own own1 : List (Str × Nat)) (elt : ME) (t : Tgt) (t2 : Tgt) (src2 : ME) (cs : List ME) : D → Env → Res (List CT × Env) := fun x e => match asgC t (.d x) e with
  | some e1 => (ev R G false src2 e1).bd fun z => match z.1.lels with
    | some ys => (forE (cbody R G own1 elt t2 cs) ys (clr own1 z.2)).bd fun w => .ok (w.1, clr own w.2)
    | none => .bad
  | none => .bad
def wtest (R : Rn) (G : List D) (c : ME) : Env → Res (Bool × Env) := fun e => evT R G c e
def wbody (R : Rn) (G : List D) (W : Nat) (b : List MS) : Env → SRes := fun e => evSs R G W b e
section
variable (R : Rn) (G : List D) (W : Nat) (p : Bool) (env : Env)
@[simp] theorem bd_ok {α β : Type} (a : α) (f : α → Res β) : (Res.ok a).bd f = f a := (rfl)
@[simp] theorem go_ok {α : Type} (a : α) (f : α → SRes) : (Res.ok a).go f = f a := (rfl)
@[simp] theorem go_nx (e : Env) (f : Env → SRes) : (SRes.nx e).go f = f e := (rfl)
@[simp] theorem go_rt (c : CT) (e : Env) (f : Env → SRes) : (SRes.rt c e).go f = .rt c e := (rfl)
@[simp] theorem bd_exc {α β : Type} (c : Str) (v : D) (f : α → Res β) : (Res.exc c v).bd f = .exc c v := (rfl)
@[simp] theorem go_exc {α : Type} (c : Str) (v : D) (f : α → SRes) : (Res.exc c v).go f = .exc c v := (rfl)
@[simp] theorem goS_exc (c : Str) (v : D) (f : Env → SRes) : (SRes.exc c v).go f = .exc c v := (rfl)
@[simp] theorem fin1_exc (b : Bool) (c : Str) (v : D) : fin1 b (.exc c v) = .exc c v := (rfl)
@[simp] theorem cutB_exc (c : Str) (v : D) {α : Type} : cutB false (Res.exc c v : Res α) = .exc c v := (rfl)
@[simp] theorem of_some {α : Type} (a : α) : Res.of (some a) = .ok a := (rfl)
@[simp] theorem cut_ok {α : Type} (a : α) : (Res.ok a).cut = .ok a := (rfl)
@[simp] theorem cutB_ok {α : Type} (b : Bool) (a : α) : cutB b (.ok a) = .ok a := by cases b <;> rfl
@[simp] theorem get_cons0 (o : Option CT) (e : Env) : Env.get (o :: e) 0 = o := (rfl)
@[simp] theorem get_consS (o : Option CT) (e : Env) (i : Nat) : Env.get (o :: e) (i + 1) = Env.get e i := by
  unfold Env.get; rw [List.getElem?_cons_succ]
@[simp] theorem get_cons1 (a b : Option CT) (e : Env) : Env.get (a :: b :: e) 1 = b := (rfl)
@[simp] theorem get_cons2 (a b c : Option CT) (e : Env) : Env.get (a :: b :: c :: e) 2 = c := (rfl)
@[simp] theorem get_cons3 (a b c d : Option CT) (e : Env) : Env.get (a :: b :: c :: d :: e) 3 = d := (rfl)
@[simp] theorem get_cons4 (a b c d x : Option CT) (e : Env) : Env.get (a :: b :: c :: d :: x :: e) 4 = x := (rfl)
@[simp] theorem get_cons5 (a b c d x y : Option CT) (e : Env) : Env.get (a :: b :: c :: d :: x :: y :: e) 5 = y := (rfl)
@[simp] theorem get_cons6 (a b c d x y z : Option CT) (e : Env) : Env.get (a :: b :: c :: d :: x :: y :: z :: e) 6 = z := (rfl)
@[simp] theorem get_cons7 (a b c d x y z u : Option CT) (e : Env) : Env.get (a :: b :: c :: d :: x :: y :: z :: u :: e) 7 = u := (rfl)
@[simp] theorem get_cons8 (a b c d x y z u v : Option CT) (e : Env) : Env.get (a :: b :: c :: d :: x :: y :: z :: u :: v :: e) 8 = v := (rfl)
@[simp] theorem get_cons9 (a b c d x y z u v w : Option CT) (e : Env) : Env.get (a :: b :: c :: d :: x :: y :: z :: u :: v :: w :: e) 9 = w := (rfl)
@[simp] theorem get_cons10 (a b c d x y z u v w q : Option CT) (e : Env) : Env.get (a :: b :: c :: d :: x :: y :: z :: u :: v :: w :: q :: e) 10 = q := (rfl)
@[simp] theorem get_cons11 (a b c d x y z u v w q r : Option CT) (e : Env) : Env.get (a :: b :: c :: d :: x :: y :: z :: u :: v :: w :: q :: r :: e) 11 = r := (rfl)
@[simp] theorem ev_lit (d : D) : ev R G p (.lit d) env = .ok (.d d, env) := by rw [ev]
@[simp] theorem ev_glob (k : Nat) : ev R G p (.glob k) env = match G[k]? with | some d => .ok (.d d, env) | none => .bad := by rw [ev] <;> rfl
@[simp] theorem ev_var (i : Nat) : ev R G p (.var i) env = match env.get i with
    | some c => if p then .ok (c, env) else .ok (.d c.frz, env.set i (some (.d c.frz)))
    | none => .bad := by rw [ev] <;> rfl
@[simp] theorem ev_take (i : Nat) : ev R G p (.take i) env = match env.get i with
    | some c => if p then .ok (c, env) else .ok (c, env.set i none)
    | none => .bad := by rw [ev] <;> rfl
@[simp] theorem ev_tup (es : List ME) : ev R G p (.tup es) env = (evs R G p es env).bd fun r => .ok (mkT r.1, r.2) := by rw [ev]
@[simp] theorem ev_lst (es : List ME) : ev R G p (.lst es) env = (evs R G p es env).bd fun r => .ok (.l r.1, r.2) := by rw [ev]
@[simp] theorem ev_fr (a : ME) : ev R G p (.fr a) env = (ev R G p a env).bd fun r => if p then .ok r else .ok (.d r.1.frz, r.2) := by rw [ev]
@[simp] theorem ev_op (o : O2) (a b : ME) : ev R G p (.op o a b) env = (ev R G (a.pu && b.pu) a env).bd fun r => (ev R G (a.pu && b.pu) b r.2).bd fun q => (Res.of (opf o r.1 q.1)).bd fun c => .ok (c, q.2) := by rw [ev]
@[simp] theorem ev_neg (a : ME) : ev R G p (.neg a) env = (ev R G a.pu a env).bd fun r => match r.1 with
    | .d (.int i) => .ok (.d (.int (-i)), r.2)
    | _ => .bad := by rw [ev] <;> rfl
@[simp] theorem ev_not (a : ME) : ev R G p (.not a) env = (ev R G a.pu a env).bd fun r => match r.1 with
    | .d (.bl b) => .ok (.d (.bl (!b)), r.2)
    | _ => .bad := by rw [ev] <;> rfl
@[simp] theorem ev_and (es : List ME) : ev R G p (.and es) env = evAnd R G es env := by rw [ev]
@[simp] theorem ev_or (es : List ME) : ev R G p (.or es) env = evOr R G es env := by rw [ev]
@[simp] theorem ev_chain (a : ME) (os : List O2) (es : List ME) : ev R G p (.chain a os es) env = (ev R G (a.pu && ME.pus es) a env).bd fun r => evCh R G (a.pu && ME.pus es) r.1 os es r.2 := by rw [ev]
@[simp] theorem ev_ife (c a b : ME) : ev R G p (.ife c a b) env = (ev R G c.pu c env).bd fun r => match r.1 with
    | .d (.bl true) => ev R G p a r.2
    | .d (.bl false) => ev R G p b r.2
    | _ => .bad := by rw [ev] <;> rfl
@[simp] theorem ev_idx (a i : ME) : ev R G p (.idx a i) env = (ev R G (a.pu && i.pu) a env).bd fun r => (ev R G (a.pu && i.pu) i r.2).bd fun q => match q.1 with
    | .d (.int k) => match r.1.at k with
      | some (.d x) => .ok (.d x, q.2)
      | some c => if p then .ok (c, q.2) else .bad
      | none => .bad
    | _ => .bad := by rw [ev] <;> rfl
@[simp] theorem ev_attr (all : List Str) (a : ME) : ev R G p (.attr all a) env = (ev R G a.pu a env).bd fun r => match xval all r.1 with
    | some d => .ok (.d d, r.2)
    | none => .bad := by rw [ev] <;> rfl
@[simp] theorem ev_slc (a lo hi : ME) : ev R G p (.slc a lo hi) env = (ev R G (a.pu && (lo.pu && hi.pu)) a env).bd fun r => (ev R G (a.pu && (lo.pu && hi.pu)) lo r.2).bd fun q => (Res.of (partOf lo q.1)).bd fun l => (ev R G (a.pu && (lo.pu && hi.pu)) hi q.2).bd fun z => (Res.of (partOf hi z.1)).bd fun h => (Res.of (slcf r.1 l h)).bd fun c => .ok (c, z.2) := by rw [ev]
@[simp] theorem ev_isi (a : ME) (ts : List TyN) : ev R G p (.isi a ts) env = (ev R G a.pu a env).bd fun r => match isif ts r.1.frz with
    | some b => .ok (.d (.bl b), r.2)
    | none => .bad := by rw [ev] <;> rfl
@[simp] theorem ev_call (bor : Bool) (f : Nat) (es : List ME) : ev R G p (.call bor f es) env = (evs R G (bor && ME.pus es) es env).bd fun r => (cutB (bor && ME.pus es) (R f (r.1.map fun c => .d c.frz))).bd fun q => if (bor && ME.pus es) = true ∧ q.1.atom = false then .bad else .ok (q.1, r.2) := by rw [ev]
@[simp] theorem ev_callIO (f i : Nat) (es : List ME) : ev R G p (.callIO f i es) env = (Res.of (env.get i)).bd fun _ => (evs R G false es env).bd fun r => match r.2.get i with
    | some c => (R f (c :: r.1.map fun c => .d c.frz)).bd fun q => match q.2 with
      | some c' => .ok (q.1, r.2.set i (some c'))
      | none => .bad
    | none => .bad := by rw [ev] <;> rfl
@[simp] theorem ev_callK (f : Nat) (perm : List Nat) (ks : List Str) (es : List ME) : ev R G p (.callK f perm ks es) env = (evs R G false es env).bd fun r => (R f ((perms perm r.1).map fun c => .d c.frz)).bd fun q => .ok (q.1, r.2) := by rw [ev]
@[simp] theorem ev_bi (b : BI) (es : List ME) : ev R G p (.bi b es) env = (evs R G (ME.pus es) es env).bd fun r => (Res.of (bltf b r.1)).bd fun c => .ok (c, r.2) := by rw [ev]
@[simp] theorem ev_sq (a : ME) : ev R G p (.sq a) env = (ev R G p a env).bd fun r => match r.1.walk with
    | some xs => .ok (.l (xs.map .d), r.2)
    | none => .bad := by rw [ev] <;> rfl
@[simp] theorem ev_rg (es : List ME) : ev R G p (.rg es) env = (evs R G p es env).bd fun r => (Res.of (rgf r.1)).bd fun c => .ok (c, r.2) := by rw [ev]
@[simp] theorem ev_en (a : ME) : ev R G p (.en a) env = (ev R G p a env).bd fun r => match r.1.lels with
    | some xs => .ok (.l ((enumD xs).map .d), r.2)
    | none => .bad := by rw [ev] <;> rfl
@[simp] theorem ev_zp (es : List ME) : ev R G p (.zp es) env = (evs R G p es env).bd fun r => match zpf r.1 with
    | some xs => .ok (.l (xs.map .d), r.2)
    | none => .bad := by rw [ev] <;> rfl
@[simp] theorem ev_lc (own : List (Str × Nat)) (elt : ME) (t : Tgt) (src : ME) (cs : List ME) : ev R G p (.lc own elt t src cs) env = (ev R G (elt.pu && (src.pu && ME.pus cs)) src env).bd fun r => match r.1.lels with
    | some xs => (forE (cbody R G own elt t cs) xs (clr own r.2)).cut.bd fun q => if q.1.length ≤ lmax then .ok (.l q.1, back r.2 own q.2) else .bad
    | none => .bad := by rw [ev] <;> rfl
@[simp] theorem ev_lc2 (own own1 : List (Str × Nat)) (elt : ME) (t : Tgt) (src : ME) (t2 : Tgt) (src2 : ME) (cs : List ME) : ev R G p (.lc2 own own1 elt t src t2 src2 cs) env = (ev R G (elt.pu && (src.pu && (src2.pu && ME.pus cs))) src env).bd fun r => match r.1.lels with
    | some xs => (forE (c2body R G own own1 elt t t2 src2 cs) xs (clr own r.2)).cut.bd fun q => if q.1.length ≤ lmax then .ok (.l q.1, back r.2 own q.2) else .bad
    | none => .bad := by rw [ev] <;> rfl
@[simp] theorem evs_nil : evs R G p [] env = .ok ([], env) := by rw [evs]
@[simp] theorem evs_cons (e : ME) (es : List ME) : evs R G p (e :: es) env = (ev R G p e env).bd fun r => (evs R G p es r.2).bd fun q => .ok (r.1 :: q.1, q.2) := by rw [evs]
@[simp] theorem evAnd_one (e : ME) : evAnd R G [e] env = (ev R G e.pu e env).bd fun r => match r.1 with
    | .d (.bl b) => .ok (.d (.bl b), r.2)
    | _ => .bad := by rw [evAnd] <;> rfl
@[simp] theorem evAnd_cons (e f : ME) (es : List ME) : evAnd R G (e :: f :: es) env = (ev R G e.pu e env).bd fun r => match r.1 with
    | .d (.bl true) => evAnd R G (f :: es) r.2
    | .d (.bl false) => .ok (.d (.bl false), r.2)
    | _ => .bad := by rw [evAnd] <;> first | rfl | (intro h; cases h)
@[simp] theorem evOr_one (e : ME) : evOr R G [e] env = (ev R G e.pu e env).bd fun r => match r.1 with
    | .d (.bl b) => .ok (.d (.bl b), r.2)
    | _ => .bad := by rw [evOr] <;> rfl
@[simp] theorem evOr_cons (e f : ME) (es : List ME) : evOr R G (e :: f :: es) env = (ev R G e.pu e env).bd fun r => match r.1 with
    | .d (.bl false) => evOr R G (f :: es) r.2
    | .d (.bl true) => .ok (.d (.bl true), r.2)
    | _ => .bad := by rw [evOr] <;> first | rfl | (intro h; cases h)
@[simp] theorem evCh_one (x : CT) (o : O2) (e : ME) : evCh R G p x [o] [e] env = (ev R G p e env).bd fun r => (Res.of (opf o x r.1)).bd fun c => .ok (c, r.2) := by rw [evCh]
@[simp] theorem evCh_cons (x : CT) (o o2 : O2) (os : List O2) (e f : ME) (es : List ME) : evCh R G p x (o :: o2 :: os) (e :: f :: es) env = (ev R G p e env).bd fun r => match opf o x r.1 with
    | some (.d (.bl true)) => evCh R G p r.1 (o2 :: os) (f :: es) r.2
    | some (.d (.bl false)) => .ok (.d (.bl false), r.2)
    | _ => .bad := by rw [evCh] <;> first | rfl | (intro h; cases h)
@[simp] theorem evC_nil : evC R G [] env = .ok (true, env) := by rw [evC]
@[simp] theorem evC_one (e : ME) : evC R G [e] env = (ev R G e.pu e env).bd fun r => match r.1 with
    | .d (.bl b) => .ok (b, r.2)
    | _ => .bad := by rw [evC] <;> rfl
@[simp] theorem evT_eq (e : ME) : evT R G e env = (ev R G e.pu e env).bd fun r => match r.1 with
  | .d (.bl b) => .ok (b, r.2)
  | _ => .bad := (rfl)
@[simp] theorem evSs_nil : evSs R G W [] env = .nx env := by rw [evSs]
@[simp] theorem evSs_cons (s : MS) (r : List MS) : evSs R G W (s :: r) env = (evS R G W s env).go fun e => evSs R G W r e := by rw [evSs]
@[simp] theorem evS_asg (i : Nat) (e : ME) : evS R G W (.asg i e) env = (ev R G false e env).go fun r => if i < r.2.length then .nx (r.2.set i (some r.1)) else .bad := by rw [evS]
@[simp] theorem evS_unp (ts : List Tgt) (e : ME) : evS R G W (.unp ts e) env = (ev R G false e env).go fun r => match asgC (.tp ts) r.1 r.2 with
    | some e => .nx e
    | none => .bad := by rw [evS] <;> rfl
@[simp] theorem evS_par (is : List Nat) (es : List ME) : evS R G W (.par is es) env = (evs R G false es env).go fun r => match sets is r.1 r.2 with
    | some e => .nx e
    | none => .bad := by rw [evS] <;> rfl
@[simp] theorem evS_app (i : Nat) (e : ME) : evS R G W (.app i e) env = match env.get i with
    | some (.l _) => (ev R G false e env).go fun r => match r.2.get i with
      | some (.l xs) => if xs.length < lmax then .nx (r.2.set i (some (.l (xs ++ [r.1])))) else .bad
      | _ => .bad
    | _ => .bad := by rw [evS] <;> rfl
@[simp] theorem evS_seti (i : Nat) (k e : ME) : evS R G W (.seti i k e) env = (ev R G false e env).go fun r => (Res.of (r.2.get i)).go fun _ => (ev R G false k r.2).go fun q => (Res.of (setI r.1 q.1 (q.2.get i))).go fun c => .nx (q.2.set i (some c)) := by rw [evS]
@[simp] theorem evS_expr (e : ME) : evS R G W (.expr e) env = (ev R G false e env).go fun r => .nx r.2 := by rw [evS]
@[simp] theorem evS_ret (e : ME) : evS R G W (.ret e) env = (ev R G false e env).go fun r => .rt r.1 r.2 := by rw [evS]
@[simp] theorem evS_raise (c : Str) (e : ME) : evS R G W (.raise_ c e) env = (ev R G false e env).go fun r => .exc c r.1.frz := by rw [evS]
@[simp] theorem evS_try (all : List Str) (e : ME) (cn : Str) (i x : Nat) : evS R G W (.tryE all e cn i x) env = match ev R G false e (dEnv env) with
    | .ok _ => .nx env
    | .exc c v => if c ∈ all ∧ (c = cn ∨ cn = "GameError") ∧ i < env.length ∧ x < env.length then .nx ((env.set i none).set x (some (.d (.exn c v)))) else .bad
    | .bad => .bad := by rw [evS] <;> rfl
@[simp] theorem evS_pass : evS R G W .pass env = .nx env := by rw [evS]
@[simp] theorem evS_ite (c : ME) (a b : List MS) : evS R G W (.ite c a b) env = (evT R G c env).go fun r => if r.1 = true then evSs R G W a r.2 else evSs R G W b r.2 := by rw [evS]
@[simp] theorem evS_for (t : Tgt) (src : ME) (b : List MS) : evS R G W (.for_ t src b) env = (ev R G false src env).go fun r => match r.1.lels with
    | some xs => forS (fbody R G W t b) xs r.2
    | none => .bad := by rw [evS] <;> rfl
@[simp] theorem evS_while (c : ME) (b : List MS) : evS R G W (.while_ c b) env = whS (wtest R G c) (wbody R G W b) W env := by rw [evS] <;> rfl
@[simp] theorem fin1_nx (e : Env) : fin1 false (.nx e) = .ok (.d .non, none) := (rfl)
@[simp] theorem fin1_rt (c : CT) (e : Env) : fin1 false (.rt c e) = .ok (c, none) := (rfl)
@[simp] theorem fin1_rtT (c : CT) (e : Env) : fin1 true (.rt c e) = (Res.of (e.get 0)).bd fun d => .ok (c, some d) := (rfl)
@[simp] theorem forS_nil (f : D → Env → SRes) : forS f [] env = .nx env := (rfl)
@[simp] theorem forE_nil (f : D → Env → Res (List CT × Env)) : forE f [] env = .ok ([], env) := (rfl)
end
@[simp] theorem frz_d (x : D) : (CT.d x).frz = x := by rw [CT.frz]
@[simp] theorem dAll_map (xs : List D) : dAll (xs.map CT.d) = some xs := by
  induction xs with
  | nil => rfl
  | cons x r ih => rw [List.map_cons, dAll, ih]; rfl
@[simp] theorem frzs_map (xs : List D) : CT.frzs (xs.map CT.d) = xs := by
  induction xs with
  | nil => rw [List.map_nil, CT.frzs]
  | cons x r ih => rw [List.map_cons, CT.frzs, ih, frz_d]
@[simp] theorem frz_ow (xs : List D) : (CT.l (xs.map CT.d)).frz = .lst xs := by rw [CT.frz, frzs_map]
@[simp] theorem lels_ow (xs : List D) : (CT.l (xs.map CT.d)).lels = some xs := dAll_map xs
@[simp] theorem lels_lst (xs : List D) : (CT.d (.lst xs)).lels = some xs := (rfl)
@[simp] theorem tels_tup (xs : List D) : (CT.d (.tup xs)).tels = some xs := (rfl)
@[simp] theorem lels_tup (xs : List D) : (CT.d (.tup xs)).lels = none := (rfl)
@[simp] theorem dAll_nil : dAll [] = some [] := (rfl)
@[simp] theorem dAll_cons (x : D) (r : List CT) : dAll (.d x :: r) = (dAll r).map (x :: ·) := (rfl)
@[simp] theorem lels_l (xs : List CT) : (CT.l xs).lels = dAll xs := (rfl)
@[simp] theorem mkT_d1 (a : D) : mkT [.d a] = .d (.tup [a]) := (rfl)
@[simp] theorem mkT_d2 (a b : D) : mkT [.d a, .d b] = .d (.tup [a, b]) := (rfl)
@[simp] theorem mkT_d3 (a b c : D) : mkT [.d a, .d b, .d c] = .d (.tup [a, b, c]) := (rfl)
@[simp] theorem mkT_d4 (a b c d : D) : mkT [.d a, .d b, .d c, .d d] = .d (.tup [a, b, c, d]) := (rfl)
@[simp] theorem mkT_d5 (a b c d e : D) : mkT [.d a, .d b, .d c, .d d, .d e] = .d (.tup [a, b, c, d, e]) := (rfl)
/-! operators -/
@[simp] theorem op_add (i j : Int) : opf .add (di i) (di j) = some (di (i + j)) := (rfl)
@[simp] theorem op_sub (i j : Int) : opf .sub (di i) (di j) = some (di (i - j)) := (rfl)
@[simp] theorem op_lt (i j : Int) : opf .lt (di i) (di j) = some (.d (.bl (decide (i < j)))) := (rfl)
@[simp] theorem op_le (i j : Int) : opf .le (di i) (di j) = some (.d (.bl (decide (i ≤ j)))) := (rfl)
@[simp] theorem op_gt (i j : Int) : opf .gt (di i) (di j) = some (.d (.bl (decide (j < i)))) := (rfl)
@[simp] theorem op_ge (i j : Int) : opf .ge (di i) (di j) = some (.d (.bl (decide (j ≤ i)))) := (rfl)
theorem op_mul (i j : Int) (h : mulOk i j) : opf .mul (di i) (di j) = some (di (i * j)) := by
  show guardP (mulOk i j) (di (i * j)) = _; unfold guardP; rw [if_pos h]
theorem op_div (i j : Int) (h : divOk i j) : opf .fdiv (di i) (di j) = some (di (i / j)) := by
  show guardP (divOk i j) (di (i / j)) = _; unfold guardP; rw [if_pos h]
theorem op_mod (i j : Int) (h : 0 < j) : opf .mod (di i) (di j) = some (di (i % j)) := by
  show guardP (0 < j) (di (i % j)) = _; unfold guardP; rw [if_pos h]
theorem eqOk_int (i j : Int) : eqOk (.int i) (.int j) := ⟨rfl, rfl, rfl, rfl⟩
@[simp] theorem op_eq_int (i j : Int) : opf .eq (di i) (di j) = some (.d (.bl (decide (i = j)))) := by
  show opEq _ (di i) (di j) = _
  unfold opEq guardP
  rw [if_pos (show eqOk (CT.d (D.int i)).frz (CT.d (D.int j)).frz by rw [frz_d, frz_d]; exact eqOk_int i j), frz_d, frz_d]
  show some (bD ((i == j) != false)) = _
  unfold bD
  by_cases h : i = j <;> simp [h]
@[simp] theorem op_ne_int (i j : Int) : opf .ne (di i) (di j) = some (.d (.bl (decide (i ≠ j)))) := by
  show opEq _ (di i) (di j) = _
  unfold opEq guardP
  rw [if_pos (show eqOk (CT.d (D.int i)).frz (CT.d (D.int j)).frz by rw [frz_d, frz_d]; exact eqOk_int i j), frz_d, frz_d]
  show some (bD ((i == j) != true)) = _
  unfold bD
  by_cases h : i = j <;> simp [h]
/-! loops -/
theorem forE_map {F : D → Env → Res (List CT × Env)} {g : D → D} {e : Env} : ∀ {xs : List D}, (∀ x ∈ xs, F x e = .ok ([.d (g x)], e)) → forE F xs e = .ok ((xs.map g).map .d, e)
  | [], _ => rfl
  | x :: r, h => by
    rw [forE, h x (List.mem_cons_self), bd_ok, forE_map (g := g) fun y m => h y (List.mem_cons_of_mem _ m)]
    rfl
theorem forE_filter {F : D → Env → Res (List CT × Env)} {c : D → Bool} {g : D → D} {e : Env} : ∀ {xs : List D}, (∀ x ∈ xs, F x e = .ok (if c x = true then [.d (g x)] else [], e)) → forE F xs e = .ok (((xs.filter c).map g).map .d, e)
  | [], _ => rfl
  | x :: r, h => by
    rw [forE, h x (List.mem_cons_self), bd_ok, forE_filter (c := c) (g := g) fun y m => h y (List.mem_cons_of_mem _ m)]
    by_cases q : c x = true
    · rw [List.filter_cons_of_pos q, if_pos q]; rfl
    · rw [List.filter_cons_of_neg (by simpa using q), if_neg q]; rfl
theorem forE_flat {F : D → Env → Res (List CT × Env)} {g : D → List D} {e : Env} : ∀ {xs : List D}, (∀ x ∈ xs, F x e = .ok ((g x).map .d, e)) → forE F xs e = .ok ((xs.flatMap g).map .d, e)
  | [], _ => rfl
  | x :: r, h => by
    rw [forE, h x (List.mem_cons_self), bd_ok, forE_flat (g := g) fun y m => h y (List.mem_cons_of_mem _ m)]
    simp
/-- a loop by an invariant over what is behind it and what is left -/
theorem forS_inv {F : D → Env → SRes} {P : List D → Env → Prop} : ∀ {xs : List D} {e : Env}, P xs e → (∀ x r e, P (x :: r) e → ∃ e', F x e = .nx e' ∧ P r e') → ∃ e', forS F xs e = .nx e' ∧ P [] e'
  | [], e, h, _ => ⟨e, rfl, h⟩
  | x :: r, e, h, s => by
    obtain ⟨e1, a, b⟩ := s x r e h
    obtain ⟨e2, c, d⟩ := forS_inv b s
    exact ⟨e2, by rw [forS, a, go_nx, c], d⟩
/-- over a list of n items made by f -/
theorem forS_nat {F : D → Env → SRes} {n : Nat} {f : Nat → D} {P : Nat → Env → Prop} {e : Env} (h0 : P 0 e) (hs : ∀ i e, i < n → P i e → ∃ e', F (f i) e = .nx e' ∧ P (i + 1) e') : ∃ e', forS F ((List.range n).map f) e = .nx e' ∧ P n e' := by
  have : ∀ (m i : Nat) (e : Env), i + m = n → P i e → ∃ e', forS F ((List.range' i m).map f) e = .nx e' ∧ P n e' := by
    intro m
    induction m with
    | zero => intro i e h p; simp at h; subst h; exact ⟨e, rfl, p⟩
    | succ m ih =>
      intro i e h p
      obtain ⟨e1, a, b⟩ := hs i e (by omega) p
      obtain ⟨e2, c, d⟩ := ih (i + 1) e1 (by omega) b
      refine ⟨e2, ?_, d⟩
      rw [List.range'_succ, List.map_cons, forS, a, go_nx, c]
  rw [List.range_eq_range']
  exact this n 0 e (by omega) h0
end PV.PE

set_option maxRecDepth 100000
/-! The program's defs in the evaluator's words. -/
namespace Tb
open PySem PV
abbrev i_is_whole : Nat := 0
abbrev i_common_divisor : Nat := 1
abbrev i_lowest : Nat := 2
abbrev i_is_fraction : Nat := 3
abbrev i_are_fractions : Nat := 4
abbrev i_plus : Nat := 5
abbrev i_less : Nat := 6
abbrev i_times : Nat := 7
abbrev i_over : Nat := 8
abbrev i_is_less : Nat := 9
abbrev i_is_crowd_by : Nat := 10
abbrev i_check_crowd : Nat := 11
abbrev i_got_by : Nat := 12
abbrev i_gain_of : Nat := 13
abbrev i_sum_by : Nat := 14
abbrev i_goes_up : Nat := 15
abbrev i_goes_down : Nat := 16
abbrev i_rests_by : Nat := 17
abbrev i_rest_counts : Nat := 18
abbrev i_best_by : Nat := 19
abbrev i_best_count : Nat := 20
abbrev i_shares_of_best : Nat := 21
abbrev i__law_hash : Nat := 22
abbrev i__law_random : Nat := 23
abbrev i__law_cell : Nat := 24
abbrev i__law_generator : Nat := 25
abbrev i__law_pick : Nat := 26
abbrev i__law_same : Nat := 27
abbrev i__law_lowest : Nat := 28
abbrev i__law_plus : Nat := 29
abbrev i__law_over : Nat := 30
abbrev i__law_below : Nat := 31
abbrev i__law_summed : Nat := 32
abbrev i__law_number : Nat := 33
abbrev i__law_crowd : Nat := 34
abbrev i__law_sum : Nat := 35
abbrev i__law_best : Nat := 36
abbrev i__law_right : Nat := 37
abbrev i_law : Nat := 38
abbrev g_LEAST_CROWD : Nat := 0
abbrev g_MOST_CROWD : Nat := 1
abbrev g_NOUGHT : Nat := 2
abbrev errs : List Str := ["GameError", "InvalidGame", "Unlike"]
/-- is_whole(value): 0=value -/
def b_is_whole : List MS := [.ret (.and [.isi (.var 0) [.int], .not (.isi (.var 0) [.bool])])]
def w1_common_divisor : List MS := [.par [0, 1] [.var 1, .op .mod (.var 0) (.var 1)]]
/-- common_divisor(one, other): 0=one 1=other -/
def b_common_divisor : List MS := [.par [0, 1] [.bi .abs [.var 0], .bi .abs [.var 1]], .while_ (.op .gt (.var 1) (.lit (.int 0))) w1_common_divisor, .ret (.take 0)]
/-- lowest(top, under): 0=top 1=under 2=common -/
def b_lowest : List MS := [.ite (.op .lt (.var 1) (.lit (.int 0))) [.par [0, 1] [.neg (.var 0), .neg (.var 1)]] [], .asg 2 (.call false i_common_divisor [.var 0, .var 1]), .ret (.tup [.op .fdiv (.var 0) (.var 2), .op .fdiv (.var 1) (.var 2)])]
/-- is_fraction(value): 0=value -/
def b_is_fraction : List MS := [.ite (.or [.not (.isi (.var 0) [.tuple]), .op .ne (.bi .len [.var 0]) (.lit (.int 2)), .not (.call false i_is_whole [.idx (.var 0) (.lit (.int 0))]), .not (.call false i_is_whole [.idx (.var 0) (.lit (.int 1))])]) [.ret (.lit (.bl false))] [], .ret (.and [.op .gt (.idx (.var 0) (.lit (.int 1))) (.lit (.int 0)), .op .eq (.call false i_common_divisor [.idx (.var 0) (.lit (.int 0)), .idx (.var 0) (.lit (.int 1))]) (.lit (.int 1))])]
def c1_are_fractions : ME := .fr (.call false i_is_fraction [.var 2])
@[simp] theorem pu_c1_are_fractions : ME.pu c1_are_fractions = true := (rfl)
/-- are_fractions(value, many): 0=value 1=many 2=one -/
def b_are_fractions : List MS := [.ret (.and [.isi (.var 0) [.list], .op .eq (.bi .len [.var 0]) (.var 1), .bi .all [.lc [("one", 2)] c1_are_fractions (.nm 2) (.sq (.var 0)) []]])]
/-- plus(one, other): 0=one 1=other -/
def b_plus : List MS := [.ret (.call false i_lowest [.op .add (.op .mul (.idx (.var 0) (.lit (.int 0))) (.idx (.var 1) (.lit (.int 1)))) (.op .mul (.idx (.var 1) (.lit (.int 0))) (.idx (.var 0) (.lit (.int 1)))), .op .mul (.idx (.var 0) (.lit (.int 1))) (.idx (.var 1) (.lit (.int 1)))])]
/-- less(one, other): 0=one 1=other -/
def b_less : List MS := [.ret (.call false i_lowest [.op .sub (.op .mul (.idx (.var 0) (.lit (.int 0))) (.idx (.var 1) (.lit (.int 1)))) (.op .mul (.idx (.var 1) (.lit (.int 0))) (.idx (.var 0) (.lit (.int 1)))), .op .mul (.idx (.var 0) (.lit (.int 1))) (.idx (.var 1) (.lit (.int 1)))])]
/-- times(one, other): 0=one 1=other -/
def b_times : List MS := [.ret (.call false i_lowest [.op .mul (.idx (.var 0) (.lit (.int 0))) (.idx (.var 1) (.lit (.int 0))), .op .mul (.idx (.var 0) (.lit (.int 1))) (.idx (.var 1) (.lit (.int 1)))])]
/-- over(one, other): 0=one 1=other -/
def b_over : List MS := [.ret (.call false i_lowest [.op .mul (.idx (.var 0) (.lit (.int 0))) (.idx (.var 1) (.lit (.int 1))), .op .mul (.idx (.var 0) (.lit (.int 1))) (.idx (.var 1) (.lit (.int 0)))])]
/-- is_less(one, other): 0=one 1=other -/
def b_is_less : List MS := [.ret (.op .lt (.op .mul (.idx (.var 0) (.lit (.int 0))) (.idx (.var 1) (.lit (.int 1)))) (.op .mul (.idx (.var 1) (.lit (.int 0))) (.idx (.var 0) (.lit (.int 1)))))]
def c1_is_crowd_by : ME := .fr (.call false i_are_fractions [.var 1, .idx (.var 0) (.lit (.int 1))])
@[simp] theorem pu_c1_is_crowd_by : ME.pu c1_is_crowd_by = true := (rfl)
/-- is_crowd_by(value): 0=value 1=row -/
def b_is_crowd_by : List MS := [.ite (.or [.not (.isi (.var 0) [.tuple]), .op .ne (.bi .len [.var 0]) (.lit (.int 4)), .not (.isi (.idx (.var 0) (.lit (.int 0))) [.str]), .op .ne (.idx (.var 0) (.lit (.int 0))) (.lit (.str "crowd"))]) [.ret (.lit (.bl false))] [], .ite (.or [.not (.call false i_is_whole [.idx (.var 0) (.lit (.int 1))]), .not (.chain (.glob g_LEAST_CROWD) [.le, .le] [.idx (.var 0) (.lit (.int 1)), .glob g_MOST_CROWD])]) [.ret (.lit (.bl false))] [], .ret (.bi .all [.lc [("row", 1)] c1_is_crowd_by (.nm 1) (.sq (.slc (.var 0) (.lit (.int 2)) (.lit .non))) []])]
/-- check_crowd(crowd): 0=crowd -/
def b_check_crowd : List MS := [.ite (.not (.call false i_is_crowd_by [.var 0])) [.raise_ "InvalidGame" (.var 0)] []]
/-- got_by(crowd, choice, others): 0=crowd 1=choice 2=others -/
def b_got_by : List MS := [.ret (.idx (.idx (.var 0) (.op .add (.lit (.int 2)) (.var 1))) (.var 2))]
/-- gain_of(crowd, others): 0=crowd 1=others -/
def b_gain_of : List MS := [.ret (.call false i_less [.call false i_got_by [.var 0, .lit (.int 1), .var 1], .call false i_got_by [.var 0, .lit (.int 0), .var 1]])]
/-- sum_by(crowd, count): 0=crowd 1=count 2=found -/
def b_sum_by : List MS := [.asg 2 (.glob g_NOUGHT), .ite (.op .gt (.var 1) (.lit (.int 0))) [.asg 2 (.call false i_times [.tup [.var 1, .lit (.int 1)], .call false i_got_by [.var 0, .lit (.int 1), .op .sub (.var 1) (.lit (.int 1))]])] [], .ite (.op .lt (.var 1) (.idx (.var 0) (.lit (.int 1)))) [.asg 2 (.call false i_plus [.var 2, .call false i_times [.tup [.op .sub (.idx (.var 0) (.lit (.int 1))) (.var 1), .lit (.int 1)], .call false i_got_by [.var 0, .lit (.int 0), .var 1]]])] [], .ret (.take 2)]
/-- goes_up(crowd, count): 0=crowd 1=count -/
def b_goes_up : List MS := [.ret (.and [.op .lt (.var 1) (.idx (.var 0) (.lit (.int 1))), .op .gt (.idx (.call false i_gain_of [.var 0, .var 1]) (.lit (.int 0))) (.lit (.int 0))])]
/-- goes_down(crowd, count): 0=crowd 1=count -/
def b_goes_down : List MS := [.ret (.and [.op .gt (.var 1) (.lit (.int 0)), .op .lt (.idx (.call false i_gain_of [.var 0, .op .sub (.var 1) (.lit (.int 1))]) (.lit (.int 0))) (.lit (.int 0))])]
def c1_rests_by : ME := .var 2
@[simp] theorem pu_c1_rests_by : ME.pu c1_rests_by = true := (rfl)
def q2_rests_by : List ME := [.and [.not (.call false i_goes_up [.var 0, .var 2]), .not (.call false i_goes_down [.var 0, .var 2])]]
@[simp] theorem pu_q2_rests_by : ME.pus q2_rests_by = true := (rfl)
/-- rests_by(crowd): 0=crowd 1=counts 2=count -/
def b_rests_by : List MS := [.asg 1 (.bi .range [.op .add (.idx (.var 0) (.lit (.int 1))) (.lit (.int 1))]), .ret (.lc [("count", 2)] c1_rests_by (.nm 2) (.sq (.var 1)) q2_rests_by)]
/-- rest_counts(crowd): 0=crowd -/
def b_rest_counts : List MS := [.expr (.call false i_check_crowd [.var 0]), .ret (.call false i_rests_by [.var 0])]
def l1_best_by : List MS := [.asg 3 (.call false i_sum_by [.var 0, .var 2]), .asg 1 (.ife (.call false i_is_less [.idx (.var 1) (.lit (.int 1)), .var 3]) (.tup [.var 2, .var 3]) (.var 1))]
/-- best_by(crowd): 0=crowd 1=best 2=count 3=whole -/
def b_best_by : List MS := [.asg 1 (.tup [.lit (.int 0), .fr (.call false i_sum_by [.var 0, .lit (.int 0)])]), .for_ (.nm 2) (.rg [.lit (.int 1), .op .add (.idx (.var 0) (.lit (.int 1))) (.lit (.int 1))]) l1_best_by, .ret (.take 1)]
/-- best_count(crowd): 0=crowd -/
def b_best_count : List MS := [.expr (.call false i_check_crowd [.var 0]), .ret (.call false i_best_by [.var 0])]
def c1_shares_of_best : ME := .fr (.call false i_sum_by [.var 0, .var 3])
@[simp] theorem pu_c1_shares_of_best : ME.pu c1_shares_of_best = true := (rfl)
def l2_shares_of_best : List MS := [.asg 4 (.ife (.call false i_is_less [.var 6, .var 4]) (.var 6) (.var 4)), .asg 5 (.ife (.call false i_is_less [.var 5, .var 6]) (.var 6) (.var 5))]
/-- shares_of_best(crowd): 0=crowd 1=best 2=sums 3=count 4=low 5=high 6=one -/
def b_shares_of_best : List MS := [.expr (.call false i_check_crowd [.var 0]), .asg 1 (.idx (.call false i_best_by [.var 0]) (.lit (.int 1))), .ite (.op .le (.idx (.var 1) (.lit (.int 0))) (.lit (.int 0))) [.raise_ "Unlike" (.var 0)] [], .asg 2 (.lc [("count", 3)] c1_shares_of_best (.nm 3) (.sq (.call false i_rests_by [.var 0])) []), .par [4, 5] [.idx (.var 2) (.lit (.int 0)), .idx (.var 2) (.lit (.int 0))], .for_ (.nm 6) (.sq (.slc (.var 2) (.lit (.int 1)) (.lit .non))) l2_shares_of_best, .ret (.tup [.fr (.call false i_over [.var 4, .var 1]), .fr (.call false i_over [.var 5, .var 1])])]
/-- _law_hash(seed, index): 0=seed 1=index 2=mixed -/
def b__law_hash : List MS := [.asg 2 (.op .mod (.bi .int [.op .add (.op .add (.op .add (.op .mul (.var 0) (.lit (.int 1140671))) (.op .mul (.op .mul (.lit (.int 27644437)) (.var 1)) (.var 1))) (.op .mul (.lit (.int 131)) (.var 1))) (.lit (.int 19))]) (.lit (.int 2147483629))), .asg 2 (.op .mod (.bi .int [.op .add (.op .add (.op .mul (.var 2) (.var 2)) (.op .mul (.lit (.int 62089)) (.var 1))) (.lit (.int 32416187))]) (.lit (.int 2147483587))), .ret (.op .mod (.bi .int [.op .mul (.var 2) (.lit (.int 48271))]) (.lit (.int 2147483647)))]
def l1__law_random : List MS := [.seti 0 (.lit (.int 2)) (.fr (.op .add (.idx (.var 0) (.lit (.int 2))) (.lit (.int 1)))), .asg 2 (.op .add (.op .mul (.var 2) (.lit (.int 2147483587))) (.call false i__law_hash [.idx (.var 0) (.lit (.int 1)), .idx (.var 0) (.lit (.int 2))]))]
/-- _law_random(generator, bound): 0=generator 1=bound 2=drawn 3=turn -/
def b__law_random : List MS := [.ite (.op .gt (.idx (.var 0) (.lit (.int 0))) (.lit (.int 0))) [.asg 2 (.op .mod (.bi .int [.idx (.var 0) (.lit (.int 0))]) (.var 1)), .seti 0 (.lit (.int 0)) (.op .fdiv (.idx (.var 0) (.lit (.int 0))) (.var 1)), .ret (.take 2)] [], .asg 2 (.lit (.int 0)), .for_ (.nm 3) (.rg [.op .add (.lit (.int 1)) (.op .fdiv (.bi .blen [.var 1]) (.lit (.int 30)))]) l1__law_random, .ret (.op .mod (.bi .int [.var 2]) (.var 1))]
/-- _law_cell(script, index): 0=script 1=index -/
def b__law_cell : List MS := [.ite (.op .lt (.var 1) (.bi .len [.var 0])) [.ret (.idx (.var 0) (.var 1))] [], .ret (.op .mod (.bi .sum [.slc (.var 0) (.lit .non) (.lit (.int 1))]) (.lit (.int 1000003)))]
/-- _law_generator(script, index): 0=script 1=index 2=seed -/
def b__law_generator : List MS := [.asg 2 (.call false i__law_cell [.var 0, .var 1]), .ret (.lst [.op .mod (.bi .int [.bi .max [.op .sub (.var 2) (.op .pow (.lit (.int 10)) (.lit (.int 18))), .lit (.int 0)]]) (.op .pow (.op .pow (.lit (.int 10)) (.lit (.int 60))) (.lit (.int 10))), .op .mod (.bi .int [.var 2]) (.lit (.int 2147483647)), .fr (.op .mul (.lit (.int 1000)) (.var 1))])]
/-- _law_pick(generator, row): 0=generator 1=row -/
def b__law_pick : List MS := [.ret (.idx (.var 1) (.callIO i__law_random 0 [.bi .len [.var 1]]))]
def c1__law_same : ME := .var 2
@[simp] theorem pu_c1__law_same : ME.pu c1__law_same = true := (rfl)
def q2__law_same : List ME := [.not (.call false i__law_same [.idx (.var 0) (.var 2), .idx (.var 1) (.var 2)])]
@[simp] theorem pu_q2__law_same : ME.pus q2__law_same = true := (rfl)
/-- _law_same(told, due): 0=told 1=due 2=at -/
def b__law_same : List MS := [.ite (.or [.isi (.var 1) [.tuple], .isi (.var 1) [.list]]) [.ite (.or [.op .ne (.isi (.var 0) [.tuple]) (.isi (.var 1) [.tuple]), .op .ne (.isi (.var 0) [.list]) (.isi (.var 1) [.list])]) [.ret (.lit (.bl false))] [], .ret (.and [.op .eq (.bi .len [.var 0]) (.bi .len [.var 1]), .op .eq (.lc [("at", 2)] c1__law_same (.nm 2) (.rg [.bi .len [.var 1]]) q2__law_same) (.lst [])])] [], .ite (.or [.isi (.var 1) [.bool], .isi (.var 0) [.bool]]) [.ret (.ife (.op .is (.var 1) (.lit (.bl true))) (.op .is (.var 0) (.lit (.bl true))) (.ife (.op .is (.var 1) (.lit (.bl false))) (.op .is (.var 0) (.lit (.bl false))) (.lit (.bl false))))] [], .ite (.isi (.var 1) [.int]) [.ret (.and [.isi (.var 0) [.int], .op .eq (.var 0) (.var 1)])] [], .ite (.isi (.var 1) [.str]) [.ret (.and [.isi (.var 0) [.str], .op .eq (.var 0) (.var 1)])] [], .ret (.and [.op .is (.var 1) (.lit .non), .op .is (.var 0) (.lit .non)])]
def w1__law_lowest : List MS := [.par [2, 3] [.var 3, .op .sub (.var 2) (.op .mul (.op .fdiv (.var 2) (.var 3)) (.var 3))]]
/-- _law_lowest(top, under): 0=top 1=under 2=one 3=other -/
def b__law_lowest : List MS := [.par [2, 3] [.bi .abs [.var 0], .bi .abs [.var 1]], .while_ (.op .gt (.var 3) (.lit (.int 0))) w1__law_lowest, .ret (.ife (.op .gt (.var 1) (.lit (.int 0))) (.tup [.op .fdiv (.var 0) (.var 2), .op .fdiv (.var 1) (.var 2)]) (.tup [.op .sub (.lit (.int 0)) (.op .fdiv (.var 0) (.var 2)), .op .sub (.lit (.int 0)) (.op .fdiv (.var 1) (.var 2))]))]
/-- _law_plus(one, other): 0=one 1=other -/
def b__law_plus : List MS := [.ret (.call false i__law_lowest [.op .add (.op .mul (.idx (.var 0) (.lit (.int 0))) (.idx (.var 1) (.lit (.int 1)))) (.op .mul (.idx (.var 1) (.lit (.int 0))) (.idx (.var 0) (.lit (.int 1)))), .op .mul (.idx (.var 0) (.lit (.int 1))) (.idx (.var 1) (.lit (.int 1)))])]
/-- _law_over(one, other): 0=one 1=other -/
def b__law_over : List MS := [.ret (.call false i__law_lowest [.op .mul (.idx (.var 0) (.lit (.int 0))) (.idx (.var 1) (.lit (.int 1))), .op .mul (.idx (.var 0) (.lit (.int 1))) (.idx (.var 1) (.lit (.int 0)))])]
/-- _law_below(one, other): 0=one 1=other -/
def b__law_below : List MS := [.ret (.op .lt (.op .mul (.idx (.var 0) (.lit (.int 0))) (.idx (.var 1) (.lit (.int 1)))) (.op .mul (.idx (.var 1) (.lit (.int 0))) (.idx (.var 0) (.lit (.int 1)))))]
def l1__law_summed : List MS := [.asg 1 (.call false i__law_plus [.var 1, .var 2])]
/-- _law_summed(some): 0=some 1=found 2=one -/
def b__law_summed : List MS := [.asg 1 (.tup [.lit (.int 0), .lit (.int 1)]), .for_ (.nm 2) (.sq (.var 0)) l1__law_summed, .ret (.take 1)]
/-- _law_number(generator): 0=generator -/
def b__law_number : List MS := [.ret (.call false i__law_lowest [.op .sub (.callIO i__law_random 0 [.lit (.int 9)]) (.lit (.int 3)), .op .add (.lit (.int 1)) (.callIO i__law_random 0 [.lit (.int 2)])])]
def c1__law_crowd : ME := .fr (.callIO i__law_pick 0 [.lst [.tup [.lit (.int 1), .lit (.int 1)], .tup [.op .sub (.lit (.int 0)) (.lit (.int 1)), .lit (.int 1)], .tup [.lit (.int 0), .lit (.int 1)]]])
@[simp] theorem pu_c1__law_crowd : ME.pu c1__law_crowd = false := (rfl)
def c2__law_crowd : ME := .fr (.callIO i__law_number 0 [])
@[simp] theorem pu_c2__law_crowd : ME.pu c2__law_crowd = false := (rfl)
def c3__law_crowd : ME := .fr (.callIO i__law_number 0 [])
@[simp] theorem pu_c3__law_crowd : ME.pu c3__law_crowd = false := (rfl)
/-- _law_crowd(generator, most): 0=generator 1=most 2=persons 3=low 4=others -/
def b__law_crowd : List MS := [.asg 2 (.op .add (.lit (.int 2)) (.callIO i__law_random 0 [.op .sub (.var 1) (.lit (.int 1))])), .ite (.op .eq (.callIO i__law_random 0 [.lit (.int 3)]) (.lit (.int 0))) [.asg 3 (.op .mul (.lst [.tup [.lit (.int 0), .lit (.int 1)]]) (.var 2)), .ret (.tup [.lit (.str "crowd"), .var 2, .var 3, .fr (.lc [("others", 4)] c1__law_crowd (.nm 4) (.rg [.var 2]) [])])] [], .ret (.tup [.lit (.str "crowd"), .var 2, .fr (.lc [("others", 4)] c2__law_crowd (.nm 4) (.rg [.var 2]) []), .fr (.lc [("others", 4)] c3__law_crowd (.nm 4) (.rg [.var 2]) [])])]
/-- _law_sum(crowd, count): 0=crowd 1=count 2=word 3=persons 4=low 5=high 6=found -/
def b__law_sum : List MS := [.unp [.nm 2, .nm 3, .nm 4, .nm 5] (.var 0), .asg 6 (.op .add (.op .mul (.lst [.idx (.var 5) (.op .sub (.var 1) (.lit (.int 1)))]) (.var 1)) (.ife (.op .lt (.var 1) (.var 3)) (.op .mul (.lst [.idx (.var 4) (.var 1)]) (.op .sub (.var 3) (.var 1))) (.lst []))), .ret (.call false i__law_summed [.var 6])]
def l1__law_best : List MS := [.asg 3 (.call false i__law_sum [.var 0, .var 2]), .asg 1 (.ife (.call false i__law_below [.idx (.var 1) (.lit (.int 1)), .var 3]) (.tup [.var 2, .var 3]) (.var 1))]
/-- _law_best(crowd): 0=crowd 1=found 2=count 3=whole -/
def b__law_best : List MS := [.asg 1 (.tup [.lit (.int 0), .fr (.call false i__law_sum [.var 0, .lit (.int 0)])]), .for_ (.nm 2) (.rg [.lit (.int 1), .op .add (.idx (.var 0) (.lit (.int 1))) (.lit (.int 1))]) l1__law_best, .ret (.take 1)]
def c1__law_right : ME := .fr (.call false i__law_sum [.var 0, .var 7])
@[simp] theorem pu_c1__law_right : ME.pu c1__law_right = true := (rfl)
def l2__law_right : List MS := [.par [8, 9] [.ife (.call false i__law_below [.var 10, .var 8]) (.var 10) (.var 8), .ife (.call false i__law_below [.var 9, .var 10]) (.var 10) (.var 9)]]
/-- _law_right(crowd, plain): 0=crowd 1=plain 2=kept 3=best 4=caught 5=e 6=sums 7=count 8=low 9=high 10=whole 11=due -/
def b__law_right : List MS := [.par [2, 3] [.bi .repr [.var 0], .call false i__law_best [.var 0]], .ite (.not (.call false i__law_same [.lst [.fr (.call false i_best_count [.var 0]), .fr (.callK i_best_count [0] ["crowd"] [.var 0])], .lst [.var 3, .var 3]])) [.ret (.lit (.bl false))] [], .ite (.op .le (.idx (.idx (.var 3) (.lit (.int 1))) (.lit (.int 0))) (.lit (.int 0))) [.asg 4 (.lit .non), .tryE errs (.call false i_shares_of_best [.var 0]) "Unlike" 5 4, .ret (.and [.op .isn (.var 4) (.lit .non), .op .eq (.bi .repr [.attr errs (.var 4)]) (.var 2), .op .eq (.bi .repr [.var 0]) (.var 2)])] [], .asg 6 (.lc [("count", 7)] c1__law_right (.nm 7) (.sq (.call false i_rest_counts [.var 0])) []), .par [8, 9] [.idx (.var 6) (.lit (.int 0)), .idx (.var 6) (.lit (.int 0))], .for_ (.nm 10) (.sq (.var 6)) l2__law_right, .asg 11 (.tup [.fr (.call false i__law_over [.var 8, .idx (.var 3) (.lit (.int 1))]), .fr (.call false i__law_over [.var 9, .idx (.var 3) (.lit (.int 1))])]), .ite (.or [.not (.call false i__law_same [.lst [.fr (.call false i_shares_of_best [.var 0]), .fr (.callK i_shares_of_best [0] ["crowd"] [.var 0])], .lst [.var 11, .var 11]]), .and [.var 1, .op .ne (.idx (.var 11) (.lit (.int 0))) (.tup [.lit (.int 1), .lit (.int 1)])]]) [.ret (.lit (.bl false))] [], .ret (.and [.not (.call false i__law_below [.tup [.lit (.int 1), .lit (.int 1)], .idx (.var 11) (.lit (.int 1))]), .op .eq (.bi .repr [.var 0]) (.var 2)])]
def l1_law : List MS := [.asg 2 (.call false i__law_generator [.var 0, .var 1]), .asg 3 (.callIO i__law_crowd 2 [.lit (.int 8)]), .par [4, 5] [.callIO i__law_number 2 [], .callIO i__law_number 2 []], .ite (.or [.not (.call false i__law_right [.var 3, .lit (.bl false)]), .not (.call false i__law_right [.tup [.lit (.str "crowd"), .idx (.var 3) (.lit (.int 1)), .fr (.op .mul (.lst [.var 4]) (.idx (.var 3) (.lit (.int 1)))), .fr (.op .mul (.lst [.var 5]) (.idx (.var 3) (.lit (.int 1))))], .lit (.bl true)])]) [.ret (.lit (.bl false))] [], .ite (.not (.call false i__law_right [.tup [.lit (.str "crowd"), .idx (.var 3) (.lit (.int 1)), .fr (.op .mul (.lst [.tup [.lit (.int 0), .lit (.int 1)]]) (.idx (.var 3) (.lit (.int 1)))), .fr (.op .mul (.lst [.tup [.op .sub (.lit (.int 0)) (.lit (.int 1)), .lit (.int 2)]]) (.idx (.var 3) (.lit (.int 1))))], .lit (.bl false)])) [.ret (.lit (.bl false))] []]
/-- law(script): 0=script 1=index 2=generator 3=crowd 4=low 5=high -/
def b_law : List MS := [.for_ (.nm 1) (.rg [.lit (.int 8)]) l1_law, .ret (.op .eq (.call false i_shares_of_best [.tup [.lit (.str "crowd"), .lit (.int 3), .fr (.op .mul (.lst [.tup [.lit (.int 1), .lit (.int 1)]]) (.lit (.int 3))), .fr (.lst [.tup [.lit (.int 0), .lit (.int 1)], .tup [.lit (.int 0), .lit (.int 1)], .tup [.lit (.int 3), .lit (.int 1)]])]]) (.tup [.tup [.lit (.int 1), .lit (.int 3)], .tup [.lit (.int 1), .lit (.int 1)]]))]
def fs : List Fn := [⟨1, 1, false, b_is_whole⟩, ⟨2, 2, false, b_common_divisor⟩, ⟨2, 3, false, b_lowest⟩, ⟨1, 1, false, b_is_fraction⟩, ⟨2, 3, false, b_are_fractions⟩, ⟨2, 2, false, b_plus⟩, ⟨2, 2, false, b_less⟩, ⟨2, 2, false, b_times⟩, ⟨2, 2, false, b_over⟩, ⟨2, 2, false, b_is_less⟩, ⟨1, 2, false, b_is_crowd_by⟩, ⟨1, 1, false, b_check_crowd⟩, ⟨3, 3, false, b_got_by⟩, ⟨2, 2, false, b_gain_of⟩, ⟨2, 3, false, b_sum_by⟩, ⟨2, 2, false, b_goes_up⟩, ⟨2, 2, false, b_goes_down⟩, ⟨1, 3, false, b_rests_by⟩, ⟨1, 1, false, b_rest_counts⟩, ⟨1, 4, false, b_best_by⟩, ⟨1, 1, false, b_best_count⟩, ⟨1, 7, false, b_shares_of_best⟩, ⟨2, 3, false, b__law_hash⟩, ⟨2, 4, true, b__law_random⟩, ⟨2, 2, false, b__law_cell⟩, ⟨2, 3, false, b__law_generator⟩, ⟨2, 2, true, b__law_pick⟩, ⟨2, 3, false, b__law_same⟩, ⟨2, 4, false, b__law_lowest⟩, ⟨2, 2, false, b__law_plus⟩, ⟨2, 2, false, b__law_over⟩, ⟨2, 2, false, b__law_below⟩, ⟨1, 3, false, b__law_summed⟩, ⟨1, 1, true, b__law_number⟩, ⟨2, 5, true, b__law_crowd⟩, ⟨2, 7, false, b__law_sum⟩, ⟨1, 4, false, b__law_best⟩, ⟨2, 12, false, b__law_right⟩, ⟨1, 6, false, b_law⟩]
abbrev W : Nat := 1000000
def G : List D := [(.int 2), (.int 8), (.tup [.int 0, .int 1])]
abbrev Rk (k : Nat) : Rn := run G W fs k
@[simp] theorem G_LEAST_CROWD : G[g_LEAST_CROWD]? = some (.int 2) := (rfl)
@[simp] theorem G_MOST_CROWD : G[g_MOST_CROWD]? = some (.int 8) := (rfl)
@[simp] theorem G_NOUGHT : G[g_NOUGHT]? = some (.tup [.int 0, .int 1]) := (rfl)
theorem r_is_whole (k : Nat) (a0 : CT) : Rk (k + 1) i_is_whole [a0] = fin1 false (evSs (Rk k) G W b_is_whole [some a0]) := (rfl)
theorem r_common_divisor (k : Nat) (a0 a1 : CT) : Rk (k + 1) i_common_divisor [a0, a1] = fin1 false (evSs (Rk k) G W b_common_divisor [some a0, some a1]) := (rfl)
theorem r_lowest (k : Nat) (a0 a1 : CT) : Rk (k + 1) i_lowest [a0, a1] = fin1 false (evSs (Rk k) G W b_lowest [some a0, some a1, none]) := (rfl)
theorem r_is_fraction (k : Nat) (a0 : CT) : Rk (k + 1) i_is_fraction [a0] = fin1 false (evSs (Rk k) G W b_is_fraction [some a0]) := (rfl)
theorem r_are_fractions (k : Nat) (a0 a1 : CT) : Rk (k + 1) i_are_fractions [a0, a1] = fin1 false (evSs (Rk k) G W b_are_fractions [some a0, some a1, none]) := (rfl)
theorem r_plus (k : Nat) (a0 a1 : CT) : Rk (k + 1) i_plus [a0, a1] = fin1 false (evSs (Rk k) G W b_plus [some a0, some a1]) := (rfl)
theorem r_less (k : Nat) (a0 a1 : CT) : Rk (k + 1) i_less [a0, a1] = fin1 false (evSs (Rk k) G W b_less [some a0, some a1]) := (rfl)
theorem r_times (k : Nat) (a0 a1 : CT) : Rk (k + 1) i_times [a0, a1] = fin1 false (evSs (Rk k) G W b_times [some a0, some a1]) := (rfl)
theorem r_over (k : Nat) (a0 a1 : CT) : Rk (k + 1) i_over [a0, a1] = fin1 false (evSs (Rk k) G W b_over [some a0, some a1]) := (rfl)
theorem r_is_less (k : Nat) (a0 a1 : CT) : Rk (k + 1) i_is_less [a0, a1] = fin1 false (evSs (Rk k) G W b_is_less [some a0, some a1]) := (rfl)
theorem r_is_crowd_by (k : Nat) (a0 : CT) : Rk (k + 1) i_is_crowd_by [a0] = fin1 false (evSs (Rk k) G W b_is_crowd_by [some a0, none]) := (rfl)
theorem r_check_crowd (k : Nat) (a0 : CT) : Rk (k + 1) i_check_crowd [a0] = fin1 false (evSs (Rk k) G W b_check_crowd [some a0]) := (rfl)
theorem r_got_by (k : Nat) (a0 a1 a2 : CT) : Rk (k + 1) i_got_by [a0, a1, a2] = fin1 false (evSs (Rk k) G W b_got_by [some a0, some a1, some a2]) := (rfl)
theorem r_gain_of (k : Nat) (a0 a1 : CT) : Rk (k + 1) i_gain_of [a0, a1] = fin1 false (evSs (Rk k) G W b_gain_of [some a0, some a1]) := (rfl)
theorem r_sum_by (k : Nat) (a0 a1 : CT) : Rk (k + 1) i_sum_by [a0, a1] = fin1 false (evSs (Rk k) G W b_sum_by [some a0, some a1, none]) := (rfl)
theorem r_goes_up (k : Nat) (a0 a1 : CT) : Rk (k + 1) i_goes_up [a0, a1] = fin1 false (evSs (Rk k) G W b_goes_up [some a0, some a1]) := (rfl)
theorem r_goes_down (k : Nat) (a0 a1 : CT) : Rk (k + 1) i_goes_down [a0, a1] = fin1 false (evSs (Rk k) G W b_goes_down [some a0, some a1]) := (rfl)
theorem r_rests_by (k : Nat) (a0 : CT) : Rk (k + 1) i_rests_by [a0] = fin1 false (evSs (Rk k) G W b_rests_by [some a0, none, none]) := (rfl)
theorem r_rest_counts (k : Nat) (a0 : CT) : Rk (k + 1) i_rest_counts [a0] = fin1 false (evSs (Rk k) G W b_rest_counts [some a0]) := (rfl)
theorem r_best_by (k : Nat) (a0 : CT) : Rk (k + 1) i_best_by [a0] = fin1 false (evSs (Rk k) G W b_best_by [some a0, none, none, none]) := (rfl)
theorem r_best_count (k : Nat) (a0 : CT) : Rk (k + 1) i_best_count [a0] = fin1 false (evSs (Rk k) G W b_best_count [some a0]) := (rfl)
theorem r_shares_of_best (k : Nat) (a0 : CT) : Rk (k + 1) i_shares_of_best [a0] = fin1 false (evSs (Rk k) G W b_shares_of_best [some a0, none, none, none, none, none, none]) := (rfl)
theorem r__law_hash (k : Nat) (a0 a1 : CT) : Rk (k + 1) i__law_hash [a0, a1] = fin1 false (evSs (Rk k) G W b__law_hash [some a0, some a1, none]) := (rfl)
theorem r__law_random (k : Nat) (a0 a1 : CT) : Rk (k + 1) i__law_random [a0, a1] = fin1 true (evSs (Rk k) G W b__law_random [some a0, some a1, none, none]) := (rfl)
theorem r__law_cell (k : Nat) (a0 a1 : CT) : Rk (k + 1) i__law_cell [a0, a1] = fin1 false (evSs (Rk k) G W b__law_cell [some a0, some a1]) := (rfl)
theorem r__law_generator (k : Nat) (a0 a1 : CT) : Rk (k + 1) i__law_generator [a0, a1] = fin1 false (evSs (Rk k) G W b__law_generator [some a0, some a1, none]) := (rfl)
theorem r__law_pick (k : Nat) (a0 a1 : CT) : Rk (k + 1) i__law_pick [a0, a1] = fin1 true (evSs (Rk k) G W b__law_pick [some a0, some a1]) := (rfl)
theorem r__law_same (k : Nat) (a0 a1 : CT) : Rk (k + 1) i__law_same [a0, a1] = fin1 false (evSs (Rk k) G W b__law_same [some a0, some a1, none]) := (rfl)
theorem r__law_lowest (k : Nat) (a0 a1 : CT) : Rk (k + 1) i__law_lowest [a0, a1] = fin1 false (evSs (Rk k) G W b__law_lowest [some a0, some a1, none, none]) := (rfl)
theorem r__law_plus (k : Nat) (a0 a1 : CT) : Rk (k + 1) i__law_plus [a0, a1] = fin1 false (evSs (Rk k) G W b__law_plus [some a0, some a1]) := (rfl)
theorem r__law_over (k : Nat) (a0 a1 : CT) : Rk (k + 1) i__law_over [a0, a1] = fin1 false (evSs (Rk k) G W b__law_over [some a0, some a1]) := (rfl)
theorem r__law_below (k : Nat) (a0 a1 : CT) : Rk (k + 1) i__law_below [a0, a1] = fin1 false (evSs (Rk k) G W b__law_below [some a0, some a1]) := (rfl)
theorem r__law_summed (k : Nat) (a0 : CT) : Rk (k + 1) i__law_summed [a0] = fin1 false (evSs (Rk k) G W b__law_summed [some a0, none, none]) := (rfl)
theorem r__law_number (k : Nat) (a0 : CT) : Rk (k + 1) i__law_number [a0] = fin1 true (evSs (Rk k) G W b__law_number [some a0]) := (rfl)
theorem r__law_crowd (k : Nat) (a0 a1 : CT) : Rk (k + 1) i__law_crowd [a0, a1] = fin1 true (evSs (Rk k) G W b__law_crowd [some a0, some a1, none, none, none]) := (rfl)
theorem r__law_sum (k : Nat) (a0 a1 : CT) : Rk (k + 1) i__law_sum [a0, a1] = fin1 false (evSs (Rk k) G W b__law_sum [some a0, some a1, none, none, none, none, none]) := (rfl)
theorem r__law_best (k : Nat) (a0 : CT) : Rk (k + 1) i__law_best [a0] = fin1 false (evSs (Rk k) G W b__law_best [some a0, none, none, none]) := (rfl)
theorem r__law_right (k : Nat) (a0 a1 : CT) : Rk (k + 1) i__law_right [a0, a1] = fin1 false (evSs (Rk k) G W b__law_right [some a0, some a1, none, none, none, none, none, none, none, none, none, none]) := (rfl)
theorem r_law (k : Nat) (a0 : CT) : Rk (k + 1) i_law [a0] = fin1 false (evSs (Rk k) G W b_law [some a0, none, none, none, none, none]) := (rfl)
end Tb

set_option maxRecDepth 100000
namespace Tb
open PySem PV
def es : List Ent := [⟨"is_whole", ["value"], false, []⟩, ⟨"common_divisor", ["one", "other"], false, []⟩, ⟨"lowest", ["top", "under"], false, []⟩, ⟨"is_fraction", ["value"], false, []⟩, ⟨"are_fractions", ["value", "many"], false, []⟩, ⟨"plus", ["one", "other"], false, []⟩, ⟨"less", ["one", "other"], false, []⟩, ⟨"times", ["one", "other"], false, []⟩, ⟨"over", ["one", "other"], false, []⟩, ⟨"is_less", ["one", "other"], false, []⟩, ⟨"is_crowd_by", ["value"], false, []⟩, ⟨"check_crowd", ["crowd"], false, []⟩, ⟨"got_by", ["crowd", "choice", "others"], false, []⟩, ⟨"gain_of", ["crowd", "others"], false, []⟩, ⟨"sum_by", ["crowd", "count"], false, []⟩, ⟨"goes_up", ["crowd", "count"], false, []⟩, ⟨"goes_down", ["crowd", "count"], false, []⟩, ⟨"rests_by", ["crowd"], false, []⟩, ⟨"rest_counts", ["crowd"], false, []⟩, ⟨"best_by", ["crowd"], false, []⟩, ⟨"best_count", ["crowd"], false, [(["crowd"], [0])]⟩, ⟨"shares_of_best", ["crowd"], false, [(["crowd"], [0])]⟩, ⟨"_law_hash", ["seed", "index"], false, []⟩, ⟨"_law_random", ["generator", "bound"], true, []⟩, ⟨"_law_cell", ["script", "index"], false, []⟩, ⟨"_law_generator", ["script", "index"], false, []⟩, ⟨"_law_pick", ["generator", "row"], true, []⟩, ⟨"_law_same", ["told", "due"], false, []⟩, ⟨"_law_lowest", ["top", "under"], false, []⟩, ⟨"_law_plus", ["one", "other"], false, []⟩, ⟨"_law_over", ["one", "other"], false, []⟩, ⟨"_law_below", ["one", "other"], false, []⟩, ⟨"_law_summed", ["some"], false, []⟩, ⟨"_law_number", ["generator"], true, []⟩, ⟨"_law_crowd", ["generator", "most"], true, []⟩, ⟨"_law_sum", ["crowd", "count"], false, []⟩, ⟨"_law_best", ["crowd"], false, []⟩, ⟨"_law_right", ["crowd", "plain"], false, []⟩, ⟨"law", ["script"], false, []⟩]
def gs : List Str := ["LEAST_CROWD", "MOST_CROWD", "NOUGHT"]
abbrev C : CK := ⟨es, gs, errs⟩
end Tb

set_option maxRecDepth 100000
set_option maxHeartbeats 0
namespace Hd
open PySem PySem.Spec PyProof.Rows L2 PV
abbrev row := PySem.Challenge.rw_gamestold_k75_whole_best_counts_and_shar
abbrev prg := PySem.Challenge.pw_gamestold_k75_whole_best_counts_and_shar
def top (i : Nat) : Stmt := prg.main.body.getD i (.Pass ⟨0, 0, 0, 0⟩)
def dd (x : Str) (i : Nat) : He.DefD := ⟨(x, none), x, x, defArgs (top i), defBody (top i), defScope (top i), [], []⟩
def loose0 : List PySem.Str := ["GameError", "InvalidGame", "Unlike", "is_whole", "common_divisor", "lowest", "is_fraction", "are_fractions", "plus", "less", "times", "over", "is_less", "LEAST_CROWD", "MOST_CROWD", "NOUGHT", "is_crowd_by", "check_crowd", "got_by", "gain_of", "sum_by", "goes_up", "goes_down", "rests_by", "rest_counts", "best_by", "best_count", "shares_of_best", "_law_hash", "_law_random"]
def loose1 : List PySem.Str := ["_law_cell", "_law_generator", "_law_pick", "_law_same", "_law_lowest", "_law_plus", "_law_over", "_law_below", "_law_summed", "_law_number", "_law_crowd", "_law_sum", "_law_best", "_law_right"]
def loose : List PySem.Str := loose0 ++ loose1
def fn0 : List He.DefD := [dd "is_whole" 5, dd "common_divisor" 6, dd "lowest" 7, dd "is_fraction" 8, dd "are_fractions" 9, dd "plus" 10, dd "less" 11, dd "times" 12, dd "over" 13, dd "is_less" 14, dd "is_crowd_by" 19, dd "check_crowd" 20, dd "got_by" 21, dd "gain_of" 22, dd "sum_by" 23, dd "goes_up" 24, dd "goes_down" 25, dd "rests_by" 26, dd "rest_counts" 27, dd "best_by" 28, dd "best_count" 29, dd "shares_of_best" 30, dd "_law_hash" 32, dd "_law_random" 33, dd "_law_cell" 34, dd "_law_generator" 35, dd "_law_pick" 36, dd "_law_same" 37, dd "_law_lowest" 38, dd "_law_plus" 39]
def fn1 : List He.DefD := [dd "_law_over" 40, dd "_law_below" 41, dd "_law_summed" 42, dd "_law_number" 43, dd "_law_crowd" 44, dd "_law_sum" 45, dd "_law_best" 46, dd "_law_right" 47, dd "law" 48]
def fn : List He.DefD := fn0 ++ fn1
def fa0 : List He.Fa := [.glo "is_whole", .glo "common_divisor", .glo "lowest", .glo "is_fraction", .glo "are_fractions", .glo "plus", .glo "less", .glo "times", .glo "over", .glo "is_less", .glo "is_crowd_by", .glo "check_crowd", .glo "got_by", .glo "gain_of", .glo "sum_by", .glo "goes_up", .glo "goes_down", .glo "rests_by", .glo "rest_counts", .glo "best_by", .glo "best_count", .glo "shares_of_best", .glo "_law_hash", .glo "_law_random", .glo "_law_cell", .glo "_law_generator", .glo "_law_pick", .glo "_law_same", .glo "_law_lowest", .glo "_law_plus"]
def fa1 : List He.Fa := [.glo "_law_over", .glo "_law_below", .glo "_law_summed", .glo "_law_number", .glo "_law_crowd", .glo "_law_sum", .glo "_law_best", .glo "_law_right", .glo "law", .free "len", .free "abs", .free "int", .free "all", .free "any", .free "sum", .free "max", .free "min", .free "repr", .free "list", .free "tuple", .free "range", .free "str", .free "bool", .free "isinstance", .free "enumerate", .free "zip", .free "sorted", .glo "GameError", .glo "InvalidGame", .glo "Unlike"]
def fa2 : List He.Fa := [.free "super", .int "LEAST_CROWD" 2, .int "MOST_CROWD" 8, .glo "NOUGHT"]
def fa : List He.Fa := fa0 ++ fa1 ++ fa2
abbrev R : PySem.W.OpenRow := PySem.W.OpenLaw.row row
def exT (K : PySem.W.Frag) : Bool := He.tupB K "NOUGHT" [.int 0, .int 1]
def exE (K : PySem.W.Frag) : Bool := Tb.errs.all fun c => errB prg K c
def ex (K : PySem.W.Frag) : Bool := exT K && exE K
abbrev hk : PySem.W.Hook := PV.hookE 4 fa fn ex
def ob (s : PySem.W.SharedT) : PV.AlE := PV.obsE 4 fa fn ex (HandSHeadRun.getT s)
theorem ob_eq (s : PySem.W.SharedT) : ob s = hk.obs s.abs := PV.obsE_eq (HandSHeadRun.getT_eq s)
theorem run (w : World) : HandSHeadRun.RunEq R (PySem.W.view R.prog [48]) hk ob 6000 loose w := by
  intro os
  kernel_rfl
def n0 : List Str := ["value"]
theorem k0 : chkMs Tb.C n0 false (defScope (top 5)) Tb.b_is_whole (defBody (top 5)) = true := by decide +kernel
theorem s0 : FnScope n0 ["value"] (defScope (top 5)) := ⟨rfl, rfl, rfl, by decide +kernel, rfl, by decide +kernel, by decide +kernel⟩
def n1 : List Str := ["one", "other"]
theorem k1 : chkMs Tb.C n1 false (defScope (top 6)) Tb.b_common_divisor (defBody (top 6)) = true := by decide +kernel
theorem s1 : FnScope n1 ["one", "other"] (defScope (top 6)) := ⟨rfl, rfl, rfl, by decide +kernel, rfl, by decide +kernel, by decide +kernel⟩
def n2 : List Str := ["top", "under", "common"]
theorem k2 : chkMs Tb.C n2 false (defScope (top 7)) Tb.b_lowest (defBody (top 7)) = true := by decide +kernel
theorem s2 : FnScope n2 ["top", "under"] (defScope (top 7)) := ⟨rfl, rfl, rfl, by decide +kernel, rfl, by decide +kernel, by decide +kernel⟩
def n3 : List Str := ["value"]
theorem k3 : chkMs Tb.C n3 false (defScope (top 8)) Tb.b_is_fraction (defBody (top 8)) = true := by decide +kernel
theorem s3 : FnScope n3 ["value"] (defScope (top 8)) := ⟨rfl, rfl, rfl, by decide +kernel, rfl, by decide +kernel, by decide +kernel⟩
def n4 : List Str := ["value", "many", "one"]
theorem k4 : chkMs Tb.C n4 false (defScope (top 9)) Tb.b_are_fractions (defBody (top 9)) = true := by decide +kernel
theorem s4 : FnScope n4 ["value", "many"] (defScope (top 9)) := ⟨rfl, rfl, rfl, by decide +kernel, rfl, by decide +kernel, by decide +kernel⟩
def n5 : List Str := ["one", "other"]
theorem k5 : chkMs Tb.C n5 false (defScope (top 10)) Tb.b_plus (defBody (top 10)) = true := by decide +kernel
theorem s5 : FnScope n5 ["one", "other"] (defScope (top 10)) := ⟨rfl, rfl, rfl, by decide +kernel, rfl, by decide +kernel, by decide +kernel⟩
def n6 : List Str := ["one", "other"]
theorem k6 : chkMs Tb.C n6 false (defScope (top 11)) Tb.b_less (defBody (top 11)) = true := by decide +kernel
theorem s6 : FnScope n6 ["one", "other"] (defScope (top 11)) := ⟨rfl, rfl, rfl, by decide +kernel, rfl, by decide +kernel, by decide +kernel⟩
def n7 : List Str := ["one", "other"]
theorem k7 : chkMs Tb.C n7 false (defScope (top 12)) Tb.b_times (defBody (top 12)) = true := by decide +kernel
theorem s7 : FnScope n7 ["one", "other"] (defScope (top 12)) := ⟨rfl, rfl, rfl, by decide +kernel, rfl, by decide +kernel, by decide +kernel⟩
def n8 : List Str := ["one", "other"]
theorem k8 : chkMs Tb.C n8 false (defScope (top 13)) Tb.b_over (defBody (top 13)) = true := by decide +kernel
theorem s8 : FnScope n8 ["one", "other"] (defScope (top 13)) := ⟨rfl, rfl, rfl, by decide +kernel, rfl, by decide +kernel, by decide +kernel⟩
def n9 : List Str := ["one", "other"]
theorem k9 : chkMs Tb.C n9 false (defScope (top 14)) Tb.b_is_less (defBody (top 14)) = true := by decide +kernel
theorem s9 : FnScope n9 ["one", "other"] (defScope (top 14)) := ⟨rfl, rfl, rfl, by decide +kernel, rfl, by decide +kernel, by decide +kernel⟩
def n10 : List Str := ["value", "row"]
theorem k10 : chkMs Tb.C n10 false (defScope (top 19)) Tb.b_is_crowd_by (defBody (top 19)) = true := by decide +kernel
theorem s10 : FnScope n10 ["value"] (defScope (top 19)) := ⟨rfl, rfl, rfl, by decide +kernel, rfl, by decide +kernel, by decide +kernel⟩
def n11 : List Str := ["crowd"]
theorem k11 : chkMs Tb.C n11 false (defScope (top 20)) Tb.b_check_crowd (defBody (top 20)) = true := by decide +kernel
theorem s11 : FnScope n11 ["crowd"] (defScope (top 20)) := ⟨rfl, rfl, rfl, by decide +kernel, rfl, by decide +kernel, by decide +kernel⟩
def n12 : List Str := ["crowd", "choice", "others"]
theorem k12 : chkMs Tb.C n12 false (defScope (top 21)) Tb.b_got_by (defBody (top 21)) = true := by decide +kernel
theorem s12 : FnScope n12 ["crowd", "choice", "others"] (defScope (top 21)) := ⟨rfl, rfl, rfl, by decide +kernel, rfl, by decide +kernel, by decide +kernel⟩
def n13 : List Str := ["crowd", "others"]
theorem k13 : chkMs Tb.C n13 false (defScope (top 22)) Tb.b_gain_of (defBody (top 22)) = true := by decide +kernel
theorem s13 : FnScope n13 ["crowd", "others"] (defScope (top 22)) := ⟨rfl, rfl, rfl, by decide +kernel, rfl, by decide +kernel, by decide +kernel⟩
def n14 : List Str := ["crowd", "count", "found"]
theorem k14 : chkMs Tb.C n14 false (defScope (top 23)) Tb.b_sum_by (defBody (top 23)) = true := by decide +kernel
theorem s14 : FnScope n14 ["crowd", "count"] (defScope (top 23)) := ⟨rfl, rfl, rfl, by decide +kernel, rfl, by decide +kernel, by decide +kernel⟩
def n15 : List Str := ["crowd", "count"]
theorem k15 : chkMs Tb.C n15 false (defScope (top 24)) Tb.b_goes_up (defBody (top 24)) = true := by decide +kernel
theorem s15 : FnScope n15 ["crowd", "count"] (defScope (top 24)) := ⟨rfl, rfl, rfl, by decide +kernel, rfl, by decide +kernel, by decide +kernel⟩
def n16 : List Str := ["crowd", "count"]
theorem k16 : chkMs Tb.C n16 false (defScope (top 25)) Tb.b_goes_down (defBody (top 25)) = true := by decide +kernel
theorem s16 : FnScope n16 ["crowd", "count"] (defScope (top 25)) := ⟨rfl, rfl, rfl, by decide +kernel, rfl, by decide +kernel, by decide +kernel⟩
def n17 : List Str := ["crowd", "counts", "count"]
theorem k17 : chkMs Tb.C n17 false (defScope (top 26)) Tb.b_rests_by (defBody (top 26)) = true := by decide +kernel
theorem s17 : FnScope n17 ["crowd"] (defScope (top 26)) := ⟨rfl, rfl, rfl, by decide +kernel, rfl, by decide +kernel, by decide +kernel⟩
def n18 : List Str := ["crowd"]
theorem k18 : chkMs Tb.C n18 false (defScope (top 27)) Tb.b_rest_counts (defBody (top 27)) = true := by decide +kernel
theorem s18 : FnScope n18 ["crowd"] (defScope (top 27)) := ⟨rfl, rfl, rfl, by decide +kernel, rfl, by decide +kernel, by decide +kernel⟩
def n19 : List Str := ["crowd", "best", "count", "whole"]
theorem k19 : chkMs Tb.C n19 false (defScope (top 28)) Tb.b_best_by (defBody (top 28)) = true := by decide +kernel
theorem s19 : FnScope n19 ["crowd"] (defScope (top 28)) := ⟨rfl, rfl, rfl, by decide +kernel, rfl, by decide +kernel, by decide +kernel⟩
def n20 : List Str := ["crowd"]
theorem k20 : chkMs Tb.C n20 false (defScope (top 29)) Tb.b_best_count (defBody (top 29)) = true := by decide +kernel
theorem s20 : FnScope n20 ["crowd"] (defScope (top 29)) := ⟨rfl, rfl, rfl, by decide +kernel, rfl, by decide +kernel, by decide +kernel⟩
def n21 : List Str := ["crowd", "best", "sums", "count", "low", "high", "one"]
theorem k21 : chkMs Tb.C n21 false (defScope (top 30)) Tb.b_shares_of_best (defBody (top 30)) = true := by decide +kernel
theorem s21 : FnScope n21 ["crowd"] (defScope (top 30)) := ⟨rfl, rfl, rfl, by decide +kernel, rfl, by decide +kernel, by decide +kernel⟩
def n22 : List Str := ["seed", "index", "mixed"]
theorem k22 : chkMs Tb.C n22 false (defScope (top 32)) Tb.b__law_hash (defBody (top 32)) = true := by decide +kernel
theorem s22 : FnScope n22 ["seed", "index"] (defScope (top 32)) := ⟨rfl, rfl, rfl, by decide +kernel, rfl, by decide +kernel, by decide +kernel⟩
def n23 : List Str := ["generator", "bound", "drawn", "turn"]
theorem k23 : chkMs Tb.C n23 true (defScope (top 33)) Tb.b__law_random (defBody (top 33)) = true := by decide +kernel
theorem s23 : FnScope n23 ["generator", "bound"] (defScope (top 33)) := ⟨rfl, rfl, rfl, by decide +kernel, rfl, by decide +kernel, by decide +kernel⟩
def n24 : List Str := ["script", "index"]
theorem k24 : chkMs Tb.C n24 false (defScope (top 34)) Tb.b__law_cell (defBody (top 34)) = true := by decide +kernel
theorem s24 : FnScope n24 ["script", "index"] (defScope (top 34)) := ⟨rfl, rfl, rfl, by decide +kernel, rfl, by decide +kernel, by decide +kernel⟩
def n25 : List Str := ["script", "index", "seed"]
theorem k25 : chkMs Tb.C n25 false (defScope (top 35)) Tb.b__law_generator (defBody (top 35)) = true := by decide +kernel
theorem s25 : FnScope n25 ["script", "index"] (defScope (top 35)) := ⟨rfl, rfl, rfl, by decide +kernel, rfl, by decide +kernel, by decide +kernel⟩
def n26 : List Str := ["generator", "row"]
theorem k26 : chkMs Tb.C n26 true (defScope (top 36)) Tb.b__law_pick (defBody (top 36)) = true := by decide +kernel
theorem s26 : FnScope n26 ["generator", "row"] (defScope (top 36)) := ⟨rfl, rfl, rfl, by decide +kernel, rfl, by decide +kernel, by decide +kernel⟩
def n27 : List Str := ["told", "due", "at"]
theorem k27 : chkMs Tb.C n27 false (defScope (top 37)) Tb.b__law_same (defBody (top 37)) = true := by decide +kernel
theorem s27 : FnScope n27 ["told", "due"] (defScope (top 37)) := ⟨rfl, rfl, rfl, by decide +kernel, rfl, by decide +kernel, by decide +kernel⟩
def n28 : List Str := ["top", "under", "one", "other"]
theorem k28 : chkMs Tb.C n28 false (defScope (top 38)) Tb.b__law_lowest (defBody (top 38)) = true := by decide +kernel
theorem s28 : FnScope n28 ["top", "under"] (defScope (top 38)) := ⟨rfl, rfl, rfl, by decide +kernel, rfl, by decide +kernel, by decide +kernel⟩
def n29 : List Str := ["one", "other"]
theorem k29 : chkMs Tb.C n29 false (defScope (top 39)) Tb.b__law_plus (defBody (top 39)) = true := by decide +kernel
theorem s29 : FnScope n29 ["one", "other"] (defScope (top 39)) := ⟨rfl, rfl, rfl, by decide +kernel, rfl, by decide +kernel, by decide +kernel⟩
def n30 : List Str := ["one", "other"]
theorem k30 : chkMs Tb.C n30 false (defScope (top 40)) Tb.b__law_over (defBody (top 40)) = true := by decide +kernel
theorem s30 : FnScope n30 ["one", "other"] (defScope (top 40)) := ⟨rfl, rfl, rfl, by decide +kernel, rfl, by decide +kernel, by decide +kernel⟩
def n31 : List Str := ["one", "other"]
theorem k31 : chkMs Tb.C n31 false (defScope (top 41)) Tb.b__law_below (defBody (top 41)) = true := by decide +kernel
theorem s31 : FnScope n31 ["one", "other"] (defScope (top 41)) := ⟨rfl, rfl, rfl, by decide +kernel, rfl, by decide +kernel, by decide +kernel⟩
def n32 : List Str := ["some", "found", "one"]
theorem k32 : chkMs Tb.C n32 false (defScope (top 42)) Tb.b__law_summed (defBody (top 42)) = true := by decide +kernel
theorem s32 : FnScope n32 ["some"] (defScope (top 42)) := ⟨rfl, rfl, rfl, by decide +kernel, rfl, by decide +kernel, by decide +kernel⟩
def n33 : List Str := ["generator"]
theorem k33 : chkMs Tb.C n33 true (defScope (top 43)) Tb.b__law_number (defBody (top 43)) = true := by decide +kernel
theorem s33 : FnScope n33 ["generator"] (defScope (top 43)) := ⟨rfl, rfl, rfl, by decide +kernel, rfl, by decide +kernel, by decide +kernel⟩
def n34 : List Str := ["generator", "most", "persons", "low", "others"]
theorem k34 : chkMs Tb.C n34 true (defScope (top 44)) Tb.b__law_crowd (defBody (top 44)) = true := by decide +kernel
theorem s34 : FnScope n34 ["generator", "most"] (defScope (top 44)) := ⟨rfl, rfl, rfl, by decide +kernel, rfl, by decide +kernel, by decide +kernel⟩
def n35 : List Str := ["crowd", "count", "word", "persons", "low", "high", "found"]
theorem k35 : chkMs Tb.C n35 false (defScope (top 45)) Tb.b__law_sum (defBody (top 45)) = true := by decide +kernel
theorem s35 : FnScope n35 ["crowd", "count"] (defScope (top 45)) := ⟨rfl, rfl, rfl, by decide +kernel, rfl, by decide +kernel, by decide +kernel⟩
def n36 : List Str := ["crowd", "found", "count", "whole"]
theorem k36 : chkMs Tb.C n36 false (defScope (top 46)) Tb.b__law_best (defBody (top 46)) = true := by decide +kernel
theorem s36 : FnScope n36 ["crowd"] (defScope (top 46)) := ⟨rfl, rfl, rfl, by decide +kernel, rfl, by decide +kernel, by decide +kernel⟩
def n37 : List Str := ["crowd", "plain", "kept", "best", "caught", "e", "sums", "count", "low", "high", "whole", "due"]
theorem k37 : chkMs Tb.C n37 false (defScope (top 47)) Tb.b__law_right (defBody (top 47)) = true := by decide +kernel
theorem s37 : FnScope n37 ["crowd", "plain"] (defScope (top 47)) := ⟨rfl, rfl, rfl, by decide +kernel, rfl, by decide +kernel, by decide +kernel⟩
def n38 : List Str := ["script", "index", "generator", "crowd", "low", "high"]
theorem k38 : chkMs Tb.C n38 false (defScope (top 48)) Tb.b_law (defBody (top 48)) = true := by decide +kernel
theorem s38 : FnScope n38 ["script"] (defScope (top 48)) := ⟨rfl, rfl, rfl, by decide +kernel, rfl, by decide +kernel, by decide +kernel⟩
section
variable {w : World} {K : PySem.W.Frag} {h : Heap} {mg : Str → Option Value}
theorem d0 (X : K.In h) (G : h.Ns mainGlobals mg) (c : PV.SaysE fa fn ex w K) : StD K mg Tb.C (Tb.es.getD 0 ⟨"", [], false, []⟩) (Tb.fs.getD 0 ⟨0, 0, false, []⟩) := by
  obtain ⟨fd, F⟩ := c.t.d.def_ 0 (d := dd "is_whole" 5) rfl
  exact ⟨_, fd, _, _, _, _, n0, He.glo_ok X G (c.t.d.fact 0 (f := .glo "is_whole") rfl), F, F.bindsN fun _ _ _ _ _ _ us hl => match us, hl with | [_], _ => rfl, (fun z hz => by cases hz), s0, rfl, rfl, rfl, (by decide), k0⟩
theorem d1 (X : K.In h) (G : h.Ns mainGlobals mg) (c : PV.SaysE fa fn ex w K) : StD K mg Tb.C (Tb.es.getD 1 ⟨"", [], false, []⟩) (Tb.fs.getD 1 ⟨0, 0, false, []⟩) := by
  obtain ⟨fd, F⟩ := c.t.d.def_ 1 (d := dd "common_divisor" 6) rfl
  exact ⟨_, fd, _, _, _, _, n1, He.glo_ok X G (c.t.d.fact 1 (f := .glo "common_divisor") rfl), F, F.bindsN fun _ _ _ _ _ _ us hl => match us, hl with | [_, _], _ => rfl, (fun z hz => by cases hz), s1, rfl, rfl, rfl, (by decide), k1⟩
theorem d2 (X : K.In h) (G : h.Ns mainGlobals mg) (c : PV.SaysE fa fn ex w K) : StD K mg Tb.C (Tb.es.getD 2 ⟨"", [], false, []⟩) (Tb.fs.getD 2 ⟨0, 0, false, []⟩) := by
  obtain ⟨fd, F⟩ := c.t.d.def_ 2 (d := dd "lowest" 7) rfl
  exact ⟨_, fd, _, _, _, _, n2, He.glo_ok X G (c.t.d.fact 2 (f := .glo "lowest") rfl), F, F.bindsN fun _ _ _ _ _ _ us hl => match us, hl with | [_, _], _ => rfl, (fun z hz => by cases hz), s2, rfl, rfl, rfl, (by decide), k2⟩
theorem d3 (X : K.In h) (G : h.Ns mainGlobals mg) (c : PV.SaysE fa fn ex w K) : StD K mg Tb.C (Tb.es.getD 3 ⟨"", [], false, []⟩) (Tb.fs.getD 3 ⟨0, 0, false, []⟩) := by
  obtain ⟨fd, F⟩ := c.t.d.def_ 3 (d := dd "is_fraction" 8) rfl
  exact ⟨_, fd, _, _, _, _, n3, He.glo_ok X G (c.t.d.fact 3 (f := .glo "is_fraction") rfl), F, F.bindsN fun _ _ _ _ _ _ us hl => match us, hl with | [_], _ => rfl, (fun z hz => by cases hz), s3, rfl, rfl, rfl, (by decide), k3⟩
theorem d4 (X : K.In h) (G : h.Ns mainGlobals mg) (c : PV.SaysE fa fn ex w K) : StD K mg Tb.C (Tb.es.getD 4 ⟨"", [], false, []⟩) (Tb.fs.getD 4 ⟨0, 0, false, []⟩) := by
  obtain ⟨fd, F⟩ := c.t.d.def_ 4 (d := dd "are_fractions" 9) rfl
  exact ⟨_, fd, _, _, _, _, n4, He.glo_ok X G (c.t.d.fact 4 (f := .glo "are_fractions") rfl), F, F.bindsN fun _ _ _ _ _ _ us hl => match us, hl with | [_, _], _ => rfl, (fun z hz => by cases hz), s4, rfl, rfl, rfl, (by decide), k4⟩
theorem d5 (X : K.In h) (G : h.Ns mainGlobals mg) (c : PV.SaysE fa fn ex w K) : StD K mg Tb.C (Tb.es.getD 5 ⟨"", [], false, []⟩) (Tb.fs.getD 5 ⟨0, 0, false, []⟩) := by
  obtain ⟨fd, F⟩ := c.t.d.def_ 5 (d := dd "plus" 10) rfl
  exact ⟨_, fd, _, _, _, _, n5, He.glo_ok X G (c.t.d.fact 5 (f := .glo "plus") rfl), F, F.bindsN fun _ _ _ _ _ _ us hl => match us, hl with | [_, _], _ => rfl, (fun z hz => by cases hz), s5, rfl, rfl, rfl, (by decide), k5⟩
theorem d6 (X : K.In h) (G : h.Ns mainGlobals mg) (c : PV.SaysE fa fn ex w K) : StD K mg Tb.C (Tb.es.getD 6 ⟨"", [], false, []⟩) (Tb.fs.getD 6 ⟨0, 0, false, []⟩) := by
  obtain ⟨fd, F⟩ := c.t.d.def_ 6 (d := dd "less" 11) rfl
  exact ⟨_, fd, _, _, _, _, n6, He.glo_ok X G (c.t.d.fact 6 (f := .glo "less") rfl), F, F.bindsN fun _ _ _ _ _ _ us hl => match us, hl with | [_, _], _ => rfl, (fun z hz => by cases hz), s6, rfl, rfl, rfl, (by decide), k6⟩
theorem d7 (X : K.In h) (G : h.Ns mainGlobals mg) (c : PV.SaysE fa fn ex w K) : StD K mg Tb.C (Tb.es.getD 7 ⟨"", [], false, []⟩) (Tb.fs.getD 7 ⟨0, 0, false, []⟩) := by
  obtain ⟨fd, F⟩ := c.t.d.def_ 7 (d := dd "times" 12) rfl
  exact ⟨_, fd, _, _, _, _, n7, He.glo_ok X G (c.t.d.fact 7 (f := .glo "times") rfl), F, F.bindsN fun _ _ _ _ _ _ us hl => match us, hl with | [_, _], _ => rfl, (fun z hz => by cases hz), s7, rfl, rfl, rfl, (by decide), k7⟩
theorem d8 (X : K.In h) (G : h.Ns mainGlobals mg) (c : PV.SaysE fa fn ex w K) : StD K mg Tb.C (Tb.es.getD 8 ⟨"", [], false, []⟩) (Tb.fs.getD 8 ⟨0, 0, false, []⟩) := by
  obtain ⟨fd, F⟩ := c.t.d.def_ 8 (d := dd "over" 13) rfl
  exact ⟨_, fd, _, _, _, _, n8, He.glo_ok X G (c.t.d.fact 8 (f := .glo "over") rfl), F, F.bindsN fun _ _ _ _ _ _ us hl => match us, hl with | [_, _], _ => rfl, (fun z hz => by cases hz), s8, rfl, rfl, rfl, (by decide), k8⟩
theorem d9 (X : K.In h) (G : h.Ns mainGlobals mg) (c : PV.SaysE fa fn ex w K) : StD K mg Tb.C (Tb.es.getD 9 ⟨"", [], false, []⟩) (Tb.fs.getD 9 ⟨0, 0, false, []⟩) := by
  obtain ⟨fd, F⟩ := c.t.d.def_ 9 (d := dd "is_less" 14) rfl
  exact ⟨_, fd, _, _, _, _, n9, He.glo_ok X G (c.t.d.fact 9 (f := .glo "is_less") rfl), F, F.bindsN fun _ _ _ _ _ _ us hl => match us, hl with | [_, _], _ => rfl, (fun z hz => by cases hz), s9, rfl, rfl, rfl, (by decide), k9⟩
theorem d10 (X : K.In h) (G : h.Ns mainGlobals mg) (c : PV.SaysE fa fn ex w K) : StD K mg Tb.C (Tb.es.getD 10 ⟨"", [], false, []⟩) (Tb.fs.getD 10 ⟨0, 0, false, []⟩) := by
  obtain ⟨fd, F⟩ := c.t.d.def_ 10 (d := dd "is_crowd_by" 19) rfl
  exact ⟨_, fd, _, _, _, _, n10, He.glo_ok X G (c.t.d.fact 10 (f := .glo "is_crowd_by") rfl), F, F.bindsN fun _ _ _ _ _ _ us hl => match us, hl with | [_], _ => rfl, (fun z hz => by cases hz), s10, rfl, rfl, rfl, (by decide), k10⟩
theorem d11 (X : K.In h) (G : h.Ns mainGlobals mg) (c : PV.SaysE fa fn ex w K) : StD K mg Tb.C (Tb.es.getD 11 ⟨"", [], false, []⟩) (Tb.fs.getD 11 ⟨0, 0, false, []⟩) := by
  obtain ⟨fd, F⟩ := c.t.d.def_ 11 (d := dd "check_crowd" 20) rfl
  exact ⟨_, fd, _, _, _, _, n11, He.glo_ok X G (c.t.d.fact 11 (f := .glo "check_crowd") rfl), F, F.bindsN fun _ _ _ _ _ _ us hl => match us, hl with | [_], _ => rfl, (fun z hz => by cases hz), s11, rfl, rfl, rfl, (by decide), k11⟩
theorem d12 (X : K.In h) (G : h.Ns mainGlobals mg) (c : PV.SaysE fa fn ex w K) : StD K mg Tb.C (Tb.es.getD 12 ⟨"", [], false, []⟩) (Tb.fs.getD 12 ⟨0, 0, false, []⟩) := by
  obtain ⟨fd, F⟩ := c.t.d.def_ 12 (d := dd "got_by" 21) rfl
  exact ⟨_, fd, _, _, _, _, n12, He.glo_ok X G (c.t.d.fact 12 (f := .glo "got_by") rfl), F, F.bindsN fun _ _ _ _ _ _ us hl => match us, hl with | [_, _, _], _ => rfl, (fun z hz => by cases hz), s12, rfl, rfl, rfl, (by decide), k12⟩
theorem d13 (X : K.In h) (G : h.Ns mainGlobals mg) (c : PV.SaysE fa fn ex w K) : StD K mg Tb.C (Tb.es.getD 13 ⟨"", [], false, []⟩) (Tb.fs.getD 13 ⟨0, 0, false, []⟩) := by
  obtain ⟨fd, F⟩ := c.t.d.def_ 13 (d := dd "gain_of" 22) rfl
  exact ⟨_, fd, _, _, _, _, n13, He.glo_ok X G (c.t.d.fact 13 (f := .glo "gain_of") rfl), F, F.bindsN fun _ _ _ _ _ _ us hl => match us, hl with | [_, _], _ => rfl, (fun z hz => by cases hz), s13, rfl, rfl, rfl, (by decide), k13⟩
theorem d14 (X : K.In h) (G : h.Ns mainGlobals mg) (c : PV.SaysE fa fn ex w K) : StD K mg Tb.C (Tb.es.getD 14 ⟨"", [], false, []⟩) (Tb.fs.getD 14 ⟨0, 0, false, []⟩) := by
  obtain ⟨fd, F⟩ := c.t.d.def_ 14 (d := dd "sum_by" 23) rfl
  exact ⟨_, fd, _, _, _, _, n14, He.glo_ok X G (c.t.d.fact 14 (f := .glo "sum_by") rfl), F, F.bindsN fun _ _ _ _ _ _ us hl => match us, hl with | [_, _], _ => rfl, (fun z hz => by cases hz), s14, rfl, rfl, rfl, (by decide), k14⟩
theorem d15 (X : K.In h) (G : h.Ns mainGlobals mg) (c : PV.SaysE fa fn ex w K) : StD K mg Tb.C (Tb.es.getD 15 ⟨"", [], false, []⟩) (Tb.fs.getD 15 ⟨0, 0, false, []⟩) := by
  obtain ⟨fd, F⟩ := c.t.d.def_ 15 (d := dd "goes_up" 24) rfl
  exact ⟨_, fd, _, _, _, _, n15, He.glo_ok X G (c.t.d.fact 15 (f := .glo "goes_up") rfl), F, F.bindsN fun _ _ _ _ _ _ us hl => match us, hl with | [_, _], _ => rfl, (fun z hz => by cases hz), s15, rfl, rfl, rfl, (by decide), k15⟩
theorem d16 (X : K.In h) (G : h.Ns mainGlobals mg) (c : PV.SaysE fa fn ex w K) : StD K mg Tb.C (Tb.es.getD 16 ⟨"", [], false, []⟩) (Tb.fs.getD 16 ⟨0, 0, false, []⟩) := by
  obtain ⟨fd, F⟩ := c.t.d.def_ 16 (d := dd "goes_down" 25) rfl
  exact ⟨_, fd, _, _, _, _, n16, He.glo_ok X G (c.t.d.fact 16 (f := .glo "goes_down") rfl), F, F.bindsN fun _ _ _ _ _ _ us hl => match us, hl with | [_, _], _ => rfl, (fun z hz => by cases hz), s16, rfl, rfl, rfl, (by decide), k16⟩
theorem d17 (X : K.In h) (G : h.Ns mainGlobals mg) (c : PV.SaysE fa fn ex w K) : StD K mg Tb.C (Tb.es.getD 17 ⟨"", [], false, []⟩) (Tb.fs.getD 17 ⟨0, 0, false, []⟩) := by
  obtain ⟨fd, F⟩ := c.t.d.def_ 17 (d := dd "rests_by" 26) rfl
  exact ⟨_, fd, _, _, _, _, n17, He.glo_ok X G (c.t.d.fact 17 (f := .glo "rests_by") rfl), F, F.bindsN fun _ _ _ _ _ _ us hl => match us, hl with | [_], _ => rfl, (fun z hz => by cases hz), s17, rfl, rfl, rfl, (by decide), k17⟩
theorem d18 (X : K.In h) (G : h.Ns mainGlobals mg) (c : PV.SaysE fa fn ex w K) : StD K mg Tb.C (Tb.es.getD 18 ⟨"", [], false, []⟩) (Tb.fs.getD 18 ⟨0, 0, false, []⟩) := by
  obtain ⟨fd, F⟩ := c.t.d.def_ 18 (d := dd "rest_counts" 27) rfl
  exact ⟨_, fd, _, _, _, _, n18, He.glo_ok X G (c.t.d.fact 18 (f := .glo "rest_counts") rfl), F, F.bindsN fun _ _ _ _ _ _ us hl => match us, hl with | [_], _ => rfl, (fun z hz => by cases hz), s18, rfl, rfl, rfl, (by decide), k18⟩
theorem d19 (X : K.In h) (G : h.Ns mainGlobals mg) (c : PV.SaysE fa fn ex w K) : StD K mg Tb.C (Tb.es.getD 19 ⟨"", [], false, []⟩) (Tb.fs.getD 19 ⟨0, 0, false, []⟩) := by
  obtain ⟨fd, F⟩ := c.t.d.def_ 19 (d := dd "best_by" 28) rfl
  exact ⟨_, fd, _, _, _, _, n19, He.glo_ok X G (c.t.d.fact 19 (f := .glo "best_by") rfl), F, F.bindsN fun _ _ _ _ _ _ us hl => match us, hl with | [_], _ => rfl, (fun z hz => by cases hz), s19, rfl, rfl, rfl, (by decide), k19⟩
theorem d20 (X : K.In h) (G : h.Ns mainGlobals mg) (c : PV.SaysE fa fn ex w K) : StD K mg Tb.C (Tb.es.getD 20 ⟨"", [], false, []⟩) (Tb.fs.getD 20 ⟨0, 0, false, []⟩) := by
  obtain ⟨fd, F⟩ := c.t.d.def_ 20 (d := dd "best_count" 29) rfl
  exact ⟨_, fd, _, _, _, _, n20, He.glo_ok X G (c.t.d.fact 20 (f := .glo "best_count") rfl), F, F.bindsN fun _ _ _ _ _ _ us hl => match us, hl with | [_], _ => rfl, (fun z hz => by
    have hz : z ∈ ([(["crowd"], [0])] : List (List Str × List Nat)) := hz
    simp only [List.mem_cons, List.not_mem_nil, or_false] at hz
    rcases hz with rfl
    · obtain ⟨oc, od, dV, kV, doc, pm, an, cdv, ct, osl, rfl, lk, hcd, hD, hK⟩ := F.ex
      obtain rfl : dV = .none := by rcases hD with ⟨_, z⟩ | ⟨z, _⟩; exact z; exact absurd rfl z
      exact fun s ws _ hl => match ws, hl with | [_], _ => .of_eq rfl), s20, rfl, rfl, rfl, (by decide), k20⟩
theorem d21 (X : K.In h) (G : h.Ns mainGlobals mg) (c : PV.SaysE fa fn ex w K) : StD K mg Tb.C (Tb.es.getD 21 ⟨"", [], false, []⟩) (Tb.fs.getD 21 ⟨0, 0, false, []⟩) := by
  obtain ⟨fd, F⟩ := c.t.d.def_ 21 (d := dd "shares_of_best" 30) rfl
  exact ⟨_, fd, _, _, _, _, n21, He.glo_ok X G (c.t.d.fact 21 (f := .glo "shares_of_best") rfl), F, F.bindsN fun _ _ _ _ _ _ us hl => match us, hl with | [_], _ => rfl, (fun z hz => by
    have hz : z ∈ ([(["crowd"], [0])] : List (List Str × List Nat)) := hz
    simp only [List.mem_cons, List.not_mem_nil, or_false] at hz
    rcases hz with rfl
    · obtain ⟨oc, od, dV, kV, doc, pm, an, cdv, ct, osl, rfl, lk, hcd, hD, hK⟩ := F.ex
      obtain rfl : dV = .none := by rcases hD with ⟨_, z⟩ | ⟨z, _⟩; exact z; exact absurd rfl z
      exact fun s ws _ hl => match ws, hl with | [_], _ => .of_eq rfl), s21, rfl, rfl, rfl, (by decide), k21⟩
theorem d22 (X : K.In h) (G : h.Ns mainGlobals mg) (c : PV.SaysE fa fn ex w K) : StD K mg Tb.C (Tb.es.getD 22 ⟨"", [], false, []⟩) (Tb.fs.getD 22 ⟨0, 0, false, []⟩) := by
  obtain ⟨fd, F⟩ := c.t.d.def_ 22 (d := dd "_law_hash" 32) rfl
  exact ⟨_, fd, _, _, _, _, n22, He.glo_ok X G (c.t.d.fact 22 (f := .glo "_law_hash") rfl), F, F.bindsN fun _ _ _ _ _ _ us hl => match us, hl with | [_, _], _ => rfl, (fun z hz => by cases hz), s22, rfl, rfl, rfl, (by decide), k22⟩
theorem d23 (X : K.In h) (G : h.Ns mainGlobals mg) (c : PV.SaysE fa fn ex w K) : StD K mg Tb.C (Tb.es.getD 23 ⟨"", [], false, []⟩) (Tb.fs.getD 23 ⟨0, 0, false, []⟩) := by
  obtain ⟨fd, F⟩ := c.t.d.def_ 23 (d := dd "_law_random" 33) rfl
  exact ⟨_, fd, _, _, _, _, n23, He.glo_ok X G (c.t.d.fact 23 (f := .glo "_law_random") rfl), F, F.bindsN fun _ _ _ _ _ _ us hl => match us, hl with | [_, _], _ => rfl, (fun z hz => by cases hz), s23, rfl, rfl, rfl, (by decide), k23⟩
theorem d24 (X : K.In h) (G : h.Ns mainGlobals mg) (c : PV.SaysE fa fn ex w K) : StD K mg Tb.C (Tb.es.getD 24 ⟨"", [], false, []⟩) (Tb.fs.getD 24 ⟨0, 0, false, []⟩) := by
  obtain ⟨fd, F⟩ := c.t.d.def_ 24 (d := dd "_law_cell" 34) rfl
  exact ⟨_, fd, _, _, _, _, n24, He.glo_ok X G (c.t.d.fact 24 (f := .glo "_law_cell") rfl), F, F.bindsN fun _ _ _ _ _ _ us hl => match us, hl with | [_, _], _ => rfl, (fun z hz => by cases hz), s24, rfl, rfl, rfl, (by decide), k24⟩
theorem d25 (X : K.In h) (G : h.Ns mainGlobals mg) (c : PV.SaysE fa fn ex w K) : StD K mg Tb.C (Tb.es.getD 25 ⟨"", [], false, []⟩) (Tb.fs.getD 25 ⟨0, 0, false, []⟩) := by
  obtain ⟨fd, F⟩ := c.t.d.def_ 25 (d := dd "_law_generator" 35) rfl
  exact ⟨_, fd, _, _, _, _, n25, He.glo_ok X G (c.t.d.fact 25 (f := .glo "_law_generator") rfl), F, F.bindsN fun _ _ _ _ _ _ us hl => match us, hl with | [_, _], _ => rfl, (fun z hz => by cases hz), s25, rfl, rfl, rfl, (by decide), k25⟩
theorem d26 (X : K.In h) (G : h.Ns mainGlobals mg) (c : PV.SaysE fa fn ex w K) : StD K mg Tb.C (Tb.es.getD 26 ⟨"", [], false, []⟩) (Tb.fs.getD 26 ⟨0, 0, false, []⟩) := by
  obtain ⟨fd, F⟩ := c.t.d.def_ 26 (d := dd "_law_pick" 36) rfl
  exact ⟨_, fd, _, _, _, _, n26, He.glo_ok X G (c.t.d.fact 26 (f := .glo "_law_pick") rfl), F, F.bindsN fun _ _ _ _ _ _ us hl => match us, hl with | [_, _], _ => rfl, (fun z hz => by cases hz), s26, rfl, rfl, rfl, (by decide), k26⟩
theorem d27 (X : K.In h) (G : h.Ns mainGlobals mg) (c : PV.SaysE fa fn ex w K) : StD K mg Tb.C (Tb.es.getD 27 ⟨"", [], false, []⟩) (Tb.fs.getD 27 ⟨0, 0, false, []⟩) := by
  obtain ⟨fd, F⟩ := c.t.d.def_ 27 (d := dd "_law_same" 37) rfl
  exact ⟨_, fd, _, _, _, _, n27, He.glo_ok X G (c.t.d.fact 27 (f := .glo "_law_same") rfl), F, F.bindsN fun _ _ _ _ _ _ us hl => match us, hl with | [_, _], _ => rfl, (fun z hz => by cases hz), s27, rfl, rfl, rfl, (by decide), k27⟩
theorem d28 (X : K.In h) (G : h.Ns mainGlobals mg) (c : PV.SaysE fa fn ex w K) : StD K mg Tb.C (Tb.es.getD 28 ⟨"", [], false, []⟩) (Tb.fs.getD 28 ⟨0, 0, false, []⟩) := by
  obtain ⟨fd, F⟩ := c.t.d.def_ 28 (d := dd "_law_lowest" 38) rfl
  exact ⟨_, fd, _, _, _, _, n28, He.glo_ok X G (c.t.d.fact 28 (f := .glo "_law_lowest") rfl), F, F.bindsN fun _ _ _ _ _ _ us hl => match us, hl with | [_, _], _ => rfl, (fun z hz => by cases hz), s28, rfl, rfl, rfl, (by decide), k28⟩
theorem d29 (X : K.In h) (G : h.Ns mainGlobals mg) (c : PV.SaysE fa fn ex w K) : StD K mg Tb.C (Tb.es.getD 29 ⟨"", [], false, []⟩) (Tb.fs.getD 29 ⟨0, 0, false, []⟩) := by
  obtain ⟨fd, F⟩ := c.t.d.def_ 29 (d := dd "_law_plus" 39) rfl
  exact ⟨_, fd, _, _, _, _, n29, He.glo_ok X G (c.t.d.fact 29 (f := .glo "_law_plus") rfl), F, F.bindsN fun _ _ _ _ _ _ us hl => match us, hl with | [_, _], _ => rfl, (fun z hz => by cases hz), s29, rfl, rfl, rfl, (by decide), k29⟩
theorem d30 (X : K.In h) (G : h.Ns mainGlobals mg) (c : PV.SaysE fa fn ex w K) : StD K mg Tb.C (Tb.es.getD 30 ⟨"", [], false, []⟩) (Tb.fs.getD 30 ⟨0, 0, false, []⟩) := by
  obtain ⟨fd, F⟩ := c.t.d.def_ 30 (d := dd "_law_over" 40) rfl
  exact ⟨_, fd, _, _, _, _, n30, He.glo_ok X G (c.t.d.fact 30 (f := .glo "_law_over") rfl), F, F.bindsN fun _ _ _ _ _ _ us hl => match us, hl with | [_, _], _ => rfl, (fun z hz => by cases hz), s30, rfl, rfl, rfl, (by decide), k30⟩
theorem d31 (X : K.In h) (G : h.Ns mainGlobals mg) (c : PV.SaysE fa fn ex w K) : StD K mg Tb.C (Tb.es.getD 31 ⟨"", [], false, []⟩) (Tb.fs.getD 31 ⟨0, 0, false, []⟩) := by
  obtain ⟨fd, F⟩ := c.t.d.def_ 31 (d := dd "_law_below" 41) rfl
  exact ⟨_, fd, _, _, _, _, n31, He.glo_ok X G (c.t.d.fact 31 (f := .glo "_law_below") rfl), F, F.bindsN fun _ _ _ _ _ _ us hl => match us, hl with | [_, _], _ => rfl, (fun z hz => by cases hz), s31, rfl, rfl, rfl, (by decide), k31⟩
theorem d32 (X : K.In h) (G : h.Ns mainGlobals mg) (c : PV.SaysE fa fn ex w K) : StD K mg Tb.C (Tb.es.getD 32 ⟨"", [], false, []⟩) (Tb.fs.getD 32 ⟨0, 0, false, []⟩) := by
  obtain ⟨fd, F⟩ := c.t.d.def_ 32 (d := dd "_law_summed" 42) rfl
  exact ⟨_, fd, _, _, _, _, n32, He.glo_ok X G (c.t.d.fact 32 (f := .glo "_law_summed") rfl), F, F.bindsN fun _ _ _ _ _ _ us hl => match us, hl with | [_], _ => rfl, (fun z hz => by cases hz), s32, rfl, rfl, rfl, (by decide), k32⟩
theorem d33 (X : K.In h) (G : h.Ns mainGlobals mg) (c : PV.SaysE fa fn ex w K) : StD K mg Tb.C (Tb.es.getD 33 ⟨"", [], false, []⟩) (Tb.fs.getD 33 ⟨0, 0, false, []⟩) := by
  obtain ⟨fd, F⟩ := c.t.d.def_ 33 (d := dd "_law_number" 43) rfl
  exact ⟨_, fd, _, _, _, _, n33, He.glo_ok X G (c.t.d.fact 33 (f := .glo "_law_number") rfl), F, F.bindsN fun _ _ _ _ _ _ us hl => match us, hl with | [_], _ => rfl, (fun z hz => by cases hz), s33, rfl, rfl, rfl, (by decide), k33⟩
theorem d34 (X : K.In h) (G : h.Ns mainGlobals mg) (c : PV.SaysE fa fn ex w K) : StD K mg Tb.C (Tb.es.getD 34 ⟨"", [], false, []⟩) (Tb.fs.getD 34 ⟨0, 0, false, []⟩) := by
  obtain ⟨fd, F⟩ := c.t.d.def_ 34 (d := dd "_law_crowd" 44) rfl
  exact ⟨_, fd, _, _, _, _, n34, He.glo_ok X G (c.t.d.fact 34 (f := .glo "_law_crowd") rfl), F, F.bindsN fun _ _ _ _ _ _ us hl => match us, hl with | [_, _], _ => rfl, (fun z hz => by cases hz), s34, rfl, rfl, rfl, (by decide), k34⟩
theorem d35 (X : K.In h) (G : h.Ns mainGlobals mg) (c : PV.SaysE fa fn ex w K) : StD K mg Tb.C (Tb.es.getD 35 ⟨"", [], false, []⟩) (Tb.fs.getD 35 ⟨0, 0, false, []⟩) := by
  obtain ⟨fd, F⟩ := c.t.d.def_ 35 (d := dd "_law_sum" 45) rfl
  exact ⟨_, fd, _, _, _, _, n35, He.glo_ok X G (c.t.d.fact 35 (f := .glo "_law_sum") rfl), F, F.bindsN fun _ _ _ _ _ _ us hl => match us, hl with | [_, _], _ => rfl, (fun z hz => by cases hz), s35, rfl, rfl, rfl, (by decide), k35⟩
theorem d36 (X : K.In h) (G : h.Ns mainGlobals mg) (c : PV.SaysE fa fn ex w K) : StD K mg Tb.C (Tb.es.getD 36 ⟨"", [], false, []⟩) (Tb.fs.getD 36 ⟨0, 0, false, []⟩) := by
  obtain ⟨fd, F⟩ := c.t.d.def_ 36 (d := dd "_law_best" 46) rfl
  exact ⟨_, fd, _, _, _, _, n36, He.glo_ok X G (c.t.d.fact 36 (f := .glo "_law_best") rfl), F, F.bindsN fun _ _ _ _ _ _ us hl => match us, hl with | [_], _ => rfl, (fun z hz => by cases hz), s36, rfl, rfl, rfl, (by decide), k36⟩
theorem d37 (X : K.In h) (G : h.Ns mainGlobals mg) (c : PV.SaysE fa fn ex w K) : StD K mg Tb.C (Tb.es.getD 37 ⟨"", [], false, []⟩) (Tb.fs.getD 37 ⟨0, 0, false, []⟩) := by
  obtain ⟨fd, F⟩ := c.t.d.def_ 37 (d := dd "_law_right" 47) rfl
  exact ⟨_, fd, _, _, _, _, n37, He.glo_ok X G (c.t.d.fact 37 (f := .glo "_law_right") rfl), F, F.bindsN fun _ _ _ _ _ _ us hl => match us, hl with | [_, _], _ => rfl, (fun z hz => by cases hz), s37, rfl, rfl, rfl, (by decide), k37⟩
theorem d38 (X : K.In h) (G : h.Ns mainGlobals mg) (c : PV.SaysE fa fn ex w K) : StD K mg Tb.C (Tb.es.getD 38 ⟨"", [], false, []⟩) (Tb.fs.getD 38 ⟨0, 0, false, []⟩) := by
  obtain ⟨fd, F⟩ := c.t.d.def_ 38 (d := dd "law" 48) rfl
  exact ⟨_, fd, _, _, _, _, n38, He.glo_ok X G (c.t.d.fact 38 (f := .glo "law") rfl), F, F.bindsN fun _ _ _ _ _ _ us hl => match us, hl with | [_], _ => rfl, (fun z hz => by cases hz), s38, rfl, rfl, rfl, (by decide), k38⟩
theorem stat (X : K.In h) (G : h.Ns mainGlobals mg) (c : PV.SaysE fa fn ex w K) : ∀ (i : Nat) (e : Ent), Tb.C.fs[i]? = some e → ∃ f, Tb.fs[i]? = some f ∧ StD K mg Tb.C e f
  | 0, e, he => ⟨_, rfl, Option.some.inj (show some (Tb.es.getD 0 ⟨"", [], false, []⟩) = some e from he) ▸ d0 X G c⟩
  | 1, e, he => ⟨_, rfl, Option.some.inj (show some (Tb.es.getD 1 ⟨"", [], false, []⟩) = some e from he) ▸ d1 X G c⟩
  | 2, e, he => ⟨_, rfl, Option.some.inj (show some (Tb.es.getD 2 ⟨"", [], false, []⟩) = some e from he) ▸ d2 X G c⟩
  | 3, e, he => ⟨_, rfl, Option.some.inj (show some (Tb.es.getD 3 ⟨"", [], false, []⟩) = some e from he) ▸ d3 X G c⟩
  | 4, e, he => ⟨_, rfl, Option.some.inj (show some (Tb.es.getD 4 ⟨"", [], false, []⟩) = some e from he) ▸ d4 X G c⟩
  | 5, e, he => ⟨_, rfl, Option.some.inj (show some (Tb.es.getD 5 ⟨"", [], false, []⟩) = some e from he) ▸ d5 X G c⟩
  | 6, e, he => ⟨_, rfl, Option.some.inj (show some (Tb.es.getD 6 ⟨"", [], false, []⟩) = some e from he) ▸ d6 X G c⟩
  | 7, e, he => ⟨_, rfl, Option.some.inj (show some (Tb.es.getD 7 ⟨"", [], false, []⟩) = some e from he) ▸ d7 X G c⟩
  | 8, e, he => ⟨_, rfl, Option.some.inj (show some (Tb.es.getD 8 ⟨"", [], false, []⟩) = some e from he) ▸ d8 X G c⟩
  | 9, e, he => ⟨_, rfl, Option.some.inj (show some (Tb.es.getD 9 ⟨"", [], false, []⟩) = some e from he) ▸ d9 X G c⟩
  | 10, e, he => ⟨_, rfl, Option.some.inj (show some (Tb.es.getD 10 ⟨"", [], false, []⟩) = some e from he) ▸ d10 X G c⟩
  | 11, e, he => ⟨_, rfl, Option.some.inj (show some (Tb.es.getD 11 ⟨"", [], false, []⟩) = some e from he) ▸ d11 X G c⟩
  | 12, e, he => ⟨_, rfl, Option.some.inj (show some (Tb.es.getD 12 ⟨"", [], false, []⟩) = some e from he) ▸ d12 X G c⟩
  | 13, e, he => ⟨_, rfl, Option.some.inj (show some (Tb.es.getD 13 ⟨"", [], false, []⟩) = some e from he) ▸ d13 X G c⟩
  | 14, e, he => ⟨_, rfl, Option.some.inj (show some (Tb.es.getD 14 ⟨"", [], false, []⟩) = some e from he) ▸ d14 X G c⟩
  | 15, e, he => ⟨_, rfl, Option.some.inj (show some (Tb.es.getD 15 ⟨"", [], false, []⟩) = some e from he) ▸ d15 X G c⟩
  | 16, e, he => ⟨_, rfl, Option.some.inj (show some (Tb.es.getD 16 ⟨"", [], false, []⟩) = some e from he) ▸ d16 X G c⟩
  | 17, e, he => ⟨_, rfl, Option.some.inj (show some (Tb.es.getD 17 ⟨"", [], false, []⟩) = some e from he) ▸ d17 X G c⟩
  | 18, e, he => ⟨_, rfl, Option.some.inj (show some (Tb.es.getD 18 ⟨"", [], false, []⟩) = some e from he) ▸ d18 X G c⟩
  | 19, e, he => ⟨_, rfl, Option.some.inj (show some (Tb.es.getD 19 ⟨"", [], false, []⟩) = some e from he) ▸ d19 X G c⟩
  | 20, e, he => ⟨_, rfl, Option.some.inj (show some (Tb.es.getD 20 ⟨"", [], false, []⟩) = some e from he) ▸ d20 X G c⟩
  | 21, e, he => ⟨_, rfl, Option.some.inj (show some (Tb.es.getD 21 ⟨"", [], false, []⟩) = some e from he) ▸ d21 X G c⟩
  | 22, e, he => ⟨_, rfl, Option.some.inj (show some (Tb.es.getD 22 ⟨"", [], false, []⟩) = some e from he) ▸ d22 X G c⟩
  | 23, e, he => ⟨_, rfl, Option.some.inj (show some (Tb.es.getD 23 ⟨"", [], false, []⟩) = some e from he) ▸ d23 X G c⟩
  | 24, e, he => ⟨_, rfl, Option.some.inj (show some (Tb.es.getD 24 ⟨"", [], false, []⟩) = some e from he) ▸ d24 X G c⟩
  | 25, e, he => ⟨_, rfl, Option.some.inj (show some (Tb.es.getD 25 ⟨"", [], false, []⟩) = some e from he) ▸ d25 X G c⟩
  | 26, e, he => ⟨_, rfl, Option.some.inj (show some (Tb.es.getD 26 ⟨"", [], false, []⟩) = some e from he) ▸ d26 X G c⟩
  | 27, e, he => ⟨_, rfl, Option.some.inj (show some (Tb.es.getD 27 ⟨"", [], false, []⟩) = some e from he) ▸ d27 X G c⟩
  | 28, e, he => ⟨_, rfl, Option.some.inj (show some (Tb.es.getD 28 ⟨"", [], false, []⟩) = some e from he) ▸ d28 X G c⟩
  | 29, e, he => ⟨_, rfl, Option.some.inj (show some (Tb.es.getD 29 ⟨"", [], false, []⟩) = some e from he) ▸ d29 X G c⟩
  | 30, e, he => ⟨_, rfl, Option.some.inj (show some (Tb.es.getD 30 ⟨"", [], false, []⟩) = some e from he) ▸ d30 X G c⟩
  | 31, e, he => ⟨_, rfl, Option.some.inj (show some (Tb.es.getD 31 ⟨"", [], false, []⟩) = some e from he) ▸ d31 X G c⟩
  | 32, e, he => ⟨_, rfl, Option.some.inj (show some (Tb.es.getD 32 ⟨"", [], false, []⟩) = some e from he) ▸ d32 X G c⟩
  | 33, e, he => ⟨_, rfl, Option.some.inj (show some (Tb.es.getD 33 ⟨"", [], false, []⟩) = some e from he) ▸ d33 X G c⟩
  | 34, e, he => ⟨_, rfl, Option.some.inj (show some (Tb.es.getD 34 ⟨"", [], false, []⟩) = some e from he) ▸ d34 X G c⟩
  | 35, e, he => ⟨_, rfl, Option.some.inj (show some (Tb.es.getD 35 ⟨"", [], false, []⟩) = some e from he) ▸ d35 X G c⟩
  | 36, e, he => ⟨_, rfl, Option.some.inj (show some (Tb.es.getD 36 ⟨"", [], false, []⟩) = some e from he) ▸ d36 X G c⟩
  | 37, e, he => ⟨_, rfl, Option.some.inj (show some (Tb.es.getD 37 ⟨"", [], false, []⟩) = some e from he) ▸ d37 X G c⟩
  | 38, e, he => ⟨_, rfl, Option.some.inj (show some (Tb.es.getD 38 ⟨"", [], false, []⟩) = some e from he) ▸ d38 X G c⟩
  | n + 39, e, he => by cases he
theorem blt (X : K.In h) (G : h.Ns mainGlobals mg) (c : PV.SaysE fa fn ex w K) : ∀ x ∈ bnames, mg x = none := by
  intro x hx
  simp only [bnames, List.mem_cons, List.not_mem_nil, or_false] at hx
  rcases hx with rfl | rfl | rfl | rfl | rfl | rfl | rfl | rfl | rfl | rfl | rfl | rfl | rfl | rfl | rfl | rfl | rfl | rfl
  · exact He.free_ok X G (c.t.d.fact 39 (f := .free "len") rfl)
  · exact He.free_ok X G (c.t.d.fact 40 (f := .free "abs") rfl)
  · exact He.free_ok X G (c.t.d.fact 41 (f := .free "int") rfl)
  · exact He.free_ok X G (c.t.d.fact 42 (f := .free "all") rfl)
  · exact He.free_ok X G (c.t.d.fact 43 (f := .free "any") rfl)
  · exact He.free_ok X G (c.t.d.fact 44 (f := .free "sum") rfl)
  · exact He.free_ok X G (c.t.d.fact 45 (f := .free "max") rfl)
  · exact He.free_ok X G (c.t.d.fact 46 (f := .free "min") rfl)
  · exact He.free_ok X G (c.t.d.fact 47 (f := .free "repr") rfl)
  · exact He.free_ok X G (c.t.d.fact 48 (f := .free "list") rfl)
  · exact He.free_ok X G (c.t.d.fact 49 (f := .free "tuple") rfl)
  · exact He.free_ok X G (c.t.d.fact 50 (f := .free "range") rfl)
  · exact He.free_ok X G (c.t.d.fact 51 (f := .free "str") rfl)
  · exact He.free_ok X G (c.t.d.fact 52 (f := .free "bool") rfl)
  · exact He.free_ok X G (c.t.d.fact 53 (f := .free "isinstance") rfl)
  · exact He.free_ok X G (c.t.d.fact 54 (f := .free "enumerate") rfl)
  · exact He.free_ok X G (c.t.d.fact 55 (f := .free "zip") rfl)
  · exact He.free_ok X G (c.t.d.fact 56 (f := .free "sorted") rfl)
theorem con (X : K.In h) (G : h.Ns mainGlobals mg) (c : PV.SaysE fa fn ex w K) : ∀ (i : Nat) (x : Str) (d : D), Tb.C.gs[i]? = some x → Tb.G[i]? = some d → ∃ u v, mg x = some u ∧ RelV v u ∧ ∀ F, RD K F d v
  | 0, x, d, hx, hd => by
    obtain rfl := Option.some.inj (show some ("LEAST_CROWD" : Str) = some x from hx)
    obtain rfl := Option.some.inj (show some (D.int 2 : D) = some d from hd)
    obtain ⟨t, e⟩ := He.int_ok X G (c.t.d.fact 61 (f := .int "LEAST_CROWD" 2) rfl)
    exact ⟨_, .int 2, e, ⟨t, rfl⟩, fun F => .int _⟩
  | 1, x, d, hx, hd => by
    obtain rfl := Option.some.inj (show some ("MOST_CROWD" : Str) = some x from hx)
    obtain rfl := Option.some.inj (show some (D.int 8 : D) = some d from hd)
    obtain ⟨t, e⟩ := He.int_ok X G (c.t.d.fact 62 (f := .int "MOST_CROWD" 8) rfl)
    exact ⟨_, .int 8, e, ⟨t, rfl⟩, fun F => .int _⟩
  | 2, x, d, hx, hd => by
    obtain rfl := Option.some.inj (show some ("NOUGHT" : Str) = some x from hx)
    obtain rfl := Option.some.inj (show some (D.tup [.int 0, .int 1] : D) = some d from hd)
    have e := He.glo_ok X G (c.t.d.fact 63 (f := .glo "NOUGHT") rfl)
    have m := c.more
    simp only [ex, exT, Bool.and_eq_true] at m
    have m := m.1
    exact ⟨_, .ref (He.ga K "NOUGHT"), e, rfl, fun F => .tup (He.tupB_ok m F) (.cons (.int _) (.cons (.int _) (.nil)))⟩
  | n + 3, x, d, hx, hd => by cases hx
theorem err (X : K.In h) (G : h.Ns mainGlobals mg) (c : PV.SaysE fa fn ex w K) : ∀ x ∈ Tb.C.es, ErrF prg K mg x := by
  have m := c.more
  simp only [ex, Bool.and_eq_true] at m
  have m2 := List.all_eq_true.mp m.2
  have hs : mg "super" = none := He.free_ok X G (c.t.d.fact 60 (f := .free "super") rfl)
  intro x hx
  have e := m2 x hx
  have hx : x ∈ Tb.errs := hx
  simp only [Tb.errs, List.mem_cons, List.not_mem_nil, or_false] at hx
  rcases hx with rfl | rfl | rfl
  · exact errB_ok e (He.glo_ok X G (c.t.d.fact 57 (f := .glo "GameError") rfl)) hs
  · exact errB_ok e (He.glo_ok X G (c.t.d.fact 58 (f := .glo "InvalidGame") rfl)) hs
  · exact errB_ok e (He.glo_ok X G (c.t.d.fact 59 (f := .glo "Unlike") rfl)) hs
end
end Hd

set_option maxRecDepth 100000
/-! Fractions. -/
namespace PV.PE
open PySem L2
theorem low_num (t : Int) (u : Int) (h : 0 < u) : (Rat.divInt t u).num = t / (Int.gcd t u : Nat) ∧ ((Rat.divInt t u).den : Int) = u / (Int.gcd t u : Nat) := by
  obtain ⟨n, rfl⟩ := Int.eq_ofNat_of_zero_le (Int.le_of_lt h)
  have hn : n ≠ 0 := by omega
  have e : Rat.divInt t (n : Int) = Rat.normalize t n hn := by rw [Rat.divInt_ofNat, Rat.normalize_eq_mkRat]
  rw [e, Rat.normalize_eq]
  exact ⟨rfl, by simp [Int.gcd]⟩
theorem rat_add (p q : Rat) : Rat.divInt (p.num * q.den + q.num * p.den) (p.den * q.den) = p + q := by
  rw [Rat.add_def, Rat.normalize_eq_mkRat, ← Rat.divInt_ofNat]; norm_cast
theorem rat_sub (p q : Rat) : Rat.divInt (p.num * q.den - q.num * p.den) (p.den * q.den) = p - q := by
  rw [Rat.sub_def, Rat.normalize_eq_mkRat, ← Rat.divInt_ofNat]; norm_cast
theorem rat_mul (p q : Rat) : Rat.divInt (p.num * q.num) (p.den * q.den) = p * q := by
  rw [Rat.mul_def, Rat.normalize_eq_mkRat, ← Rat.divInt_ofNat]; norm_cast
theorem rat_div (p q : Rat) : Rat.divInt (p.num * q.den) (p.den * q.num) = p / q := by
  rw [Rat.div_def, Rat.inv_def]
  conv => rhs; rw [← Rat.num_divInt_den p]
  rw [Rat.divInt_mul_divInt]
def Sm (n : Nat) (q : Rat) : Prop := q.num.natAbs < 2 ^ n ∧ q.den < 2 ^ n
theorem mul_lt_pow {a b n m : Nat} (h : a < 2 ^ n) (k : b < 2 ^ m) : a * b < 2 ^ (n + m) := by
  rw [Nat.pow_add]
  rcases Nat.eq_zero_or_pos b with rfl | hb
  · rw [Nat.mul_zero]; exact Nat.mul_pos (Nat.two_pow_pos _) (Nat.two_pow_pos _)
  · exact Nat.lt_of_lt_of_le (Nat.mul_lt_mul_of_pos_right h hb) (Nat.mul_le_mul_left _ (Nat.le_of_lt k))
theorem sm_divInt {t u : Int} {n m : Nat} (hu : 0 < u) (h : t.natAbs < 2 ^ n) (k : u.natAbs < 2 ^ m) (hn : n ≤ r) (hm : m ≤ r) : Sm r (Rat.divInt t u) := by
  obtain ⟨a, b⟩ := low_num t u hu
  have g : 0 < Int.gcd t u := Int.gcd_pos_of_ne_zero_right _ (by omega)
  refine ⟨?_, ?_⟩
  · rw [a, Int.natAbs_ediv_of_dvd (Int.gcd_dvd_left ..)]
    exact Nat.lt_of_le_of_lt (Nat.div_le_self ..) (Nat.lt_of_lt_of_le h (Nat.pow_le_pow_right (by decide) hn))
  · have c : (Rat.divInt t u).den = u.natAbs / Int.gcd t u := by
      have := congrArg Int.natAbs b
      rw [Int.natAbs_ediv_of_dvd (Int.gcd_dvd_right ..)] at this
      simpa using this
    rw [c]
    exact Nat.lt_of_le_of_lt (Nat.div_le_self ..) (Nat.lt_of_lt_of_le k (Nat.pow_le_pow_right (by decide) hm))
theorem Sm.add {p q : Rat} {n m : Nat} (h : Sm n p) (k : Sm m q) : Sm (n + m + 1) (p + q) := by
  rw [← rat_add]
  have a := mul_lt_pow h.1 k.2
  have b := mul_lt_pow k.1 h.2
  have c := mul_lt_pow h.2 k.2
  refine sm_divInt (n := n + m + 1) (m := n + m) ?_ ?_ ?_ (by omega) (by omega)
  · have := p.den_pos; have := q.den_pos; exact Int.mul_pos (by omega) (by omega)
  · refine Nat.lt_of_le_of_lt (Int.natAbs_add_le ..) ?_
    rw [Int.natAbs_mul, Int.natAbs_mul, Int.natAbs_natCast, Int.natAbs_natCast, Nat.pow_succ]
    rw [Nat.add_comm m n] at b
    omega
  · rw [← Int.natCast_mul, Int.natAbs_natCast]; exact c
theorem Sm.neg {p : Rat} {n : Nat} (h : Sm n p) : Sm n (-p) := by
  unfold Sm; rw [show (-p).num = -p.num by simp, show (-p).den = p.den by simp, Int.natAbs_neg]; exact h
theorem Sm.sub {p q : Rat} {n m : Nat} (h : Sm n p) (k : Sm m q) : Sm (n + m + 1) (p - q) := by
  rw [Rat.sub_eq_add_neg]; exact h.add k.neg
theorem Sm.mul {p q : Rat} {n m : Nat} (h : Sm n p) (k : Sm m q) : Sm (n + m) (p * q) := by
  rw [← rat_mul]
  refine sm_divInt (n := n + m) (m := n + m) ?_ ?_ ?_ (by omega) (by omega)
  · have := p.den_pos; have := q.den_pos; exact Int.mul_pos (by omega) (by omega)
  · rw [Int.natAbs_mul]; exact mul_lt_pow h.1 k.1
  · rw [← Int.natCast_mul, Int.natAbs_natCast]; exact mul_lt_pow h.2 k.2
theorem Sm.mono {p : Rat} {n m : Nat} (h : Sm n p) (k : n ≤ m) : Sm m p := ⟨Nat.lt_of_lt_of_le h.1 (Nat.pow_le_pow_right (by decide) k), Nat.lt_of_lt_of_le h.2 (Nat.pow_le_pow_right (by decide) k)⟩
theorem lt_num (p q : Rat) : (p.num * q.den < q.num * p.den) ↔ p < q := (Rat.lt_iff p q).symm
theorem num_pos (p : Rat) : 0 < p.num ↔ 0 < p := by
  have := Rat.lt_iff 0 p
  simp at this
  exact this.symm
theorem num_neg' (p : Rat) : p.num < 0 ↔ p < 0 := by
  have := Rat.lt_iff p 0
  simp at this
  exact this.symm
theorem log_lt {i : Int} {n : Nat} (h : i.natAbs < 2 ^ n) : i.natAbs.log2 ≤ n := by
  by_cases z : i.natAbs = 0
  · rw [z]; exact Nat.zero_le _
  · exact Nat.le_of_lt ((Nat.log2_lt z).mpr h)
theorem euclid_gen {c : Env → Res (Bool × Env)} {f : Env → SRes} {E : Nat → Nat → Env} {B : Nat} (h0 : ∀ x n, whS c f (n + 1) (E x 0) = .nx (E x 0)) (h1 : ∀ x y n, 0 < y → x < 2 ^ B → y < 2 ^ B → whS c f (n + 1) (E x y) = whS c f n (E y (x % y))) : ∀ (j n x y : Nat), y < 2 ^ j → x < 2 ^ B → y < 2 ^ B → 2 * j + 1 ≤ n → whS c f n (E x y) = .nx (E (Nat.gcd x y) 0)
  | 0, n, x, y, h, _, _, k => by
    obtain rfl : y = 0 := by simpa using h
    obtain ⟨m, rfl⟩ : ∃ m, n = m + 1 := ⟨n - 1, by omega⟩
    rw [h0, Nat.gcd_zero_right]
  | j + 1, n, x, y, h, hx, hy, k => by
    obtain ⟨m, rfl⟩ : ∃ m, n = m + 2 := ⟨n - 2, by omega⟩
    rcases Nat.eq_zero_or_pos y with rfl | p
    · rw [h0, Nat.gcd_zero_right]
    · rw [h1 x y _ p hx hy]
      have r := Nat.mod_lt x p
      have e : Nat.gcd y (x % y) = Nat.gcd x y := by rw [Nat.gcd_comm y, ← Nat.gcd_rec, Nat.gcd_comm]
      rcases Nat.eq_zero_or_pos (x % y) with z | q
      · rw [z, h0, ← e, z, Nat.gcd_zero_right]
      · rw [h1 _ _ _ q hy (by omega)]
        have r2 := Nat.mod_lt y q
        have e2 : Nat.gcd (x % y) (y % (x % y)) = Nat.gcd y (x % y) := by rw [Nat.gcd_comm (x % y), ← Nat.gcd_rec, Nat.gcd_comm]
        have l : 2 * (y % (x % y)) < y := by
          have := Nat.mod_add_div y (x % y)
          have d : 1 ≤ y / (x % y) := (Nat.le_div_iff_mul_le q).mpr (by omega)
          have := Nat.mul_le_mul_left (x % y) d
          omega
        rw [euclid_gen h0 h1 j m _ _ (by rw [Nat.pow_succ] at h; omega) (by omega) (by omega) (by omega), e2, e]
/-- a fraction's tuple -/
def fr (q : Rat) : D := .tup [.int q.num, .int q.den]
theorem fr_eq (q : Rat) : fr q = .tup [.int q.num, .int q.den] := (rfl)
@[simp] theorem fr_at0 (q : Rat) : CT.at (.d (fr q)) 0 = some (di q.num) := (rfl)
@[simp] theorem fr_at1 (q : Rat) : CT.at (.d (fr q)) 1 = some (di q.den) := (rfl)
@[simp] theorem fr_tup (q : Rat) : isif [.tuple] (fr q) = some true := (rfl)
@[simp] theorem len_tup (qs : List D) : bltf .len [.d (.tup qs)] = some (di qs.length) := by simp [bltf]
@[simp] theorem len_lst (qs : List D) : bltf .len [.d (.lst qs)] = some (di qs.length) := by simp [bltf]
@[simp] theorem fr_len (q : Rat) : bltf .len [.d (fr q)] = some (di 2) := len_tup _
theorem fr_mk (t u : Int) (h : 0 < u) : D.tup [.int (t / (Int.gcd t u : Nat)), .int (u / (Int.gcd t u : Nat))] = fr (Rat.divInt t u) := by
  obtain ⟨a, b⟩ := low_num t u h
  rw [fr_eq, a, b]
theorem fr_inj {p q : Rat} (h : fr p = fr q) : p = q := by
  simp only [fr_eq, D.tup.injEq, List.cons.injEq, D.int.injEq, and_true] at h
  exact Rat.ext h.1 (by omega)
theorem mul_ok {i j : Int} {n m : Nat} (h : i.natAbs < 2 ^ n) (k : j.natAbs < 2 ^ m) (z : n + m < 1000000) : mulOk i j := .inr (by
  have := log_lt h
  have := log_lt k
  show i.natAbs.log2 + j.natAbs.log2 < 1000000
  omega)
theorem div_ok {i j : Int} {m : Nat} (p : 0 < j) (k : j.natAbs < 2 ^ m) (z : m < 9000) : divOk i j := ⟨p, by have := log_lt k; omega⟩
theorem abs_int (i : Int) : bltf .abs [di i] = some (di (i.natAbs : Int)) := by
  show some (di (if i < 0 then -i else i)) = _
  congr 3
  split <;> omega
theorem Sm.numOk {p q : Rat} {n m : Nat} (h : Sm n p) (k : Sm m q) (z : n + m < 1000000) : mulOk p.num q.num ∧ mulOk p.num q.den ∧ mulOk p.den q.num ∧ mulOk p.den q.den :=
  ⟨mul_ok h.1 k.1 z, mul_ok h.1 (by rw [Int.natAbs_natCast]; exact k.2) z, mul_ok (by rw [Int.natAbs_natCast]; exact h.2) k.1 z, mul_ok (by rw [Int.natAbs_natCast]; exact h.2) (by rw [Int.natAbs_natCast]; exact k.2) z⟩
end PV.PE

set_option maxRecDepth 100000
/-! Equal data, repr, places in lists, loops that draw. -/
namespace PV.PE
open PySem L2
/-! ### what == and repr may be asked of -/
mutual
/-- no script inside -/
def nsc : D → Bool
  | .tup xs => nscs xs
  | .lst xs => nscs xs
  | .scr _ => false
  | _ => true
def nscs : List D → Bool
  | [] => true
  | x :: r => nsc x && nscs r
end
theorem char_lt (c : Char) : c.toNat < 0x110000 := by
  rcases c.valid with h | h
  · rw [Char.toNat]; omega
  · rw [Char.toNat]; omega
theorem ok_of (s : String) : PyData.strOk (Str.ofString s) = true := by
  rw [Str.ofString_eq_toList]
  simp only [PyData.strOk, List.all_toArray, List.all_eq_true, decide_eq_true_eq]
  intro x hx
  obtain ⟨c, _, rfl⟩ := List.mem_map.mp hx
  exact char_lt c
theorem ok_app {a b : Str} (h : PyData.strOk a = true) (k : PyData.strOk b = true) : PyData.strOk (a ++ b) = true := by
  show (a.cps ++ b.cps).all _ = true
  rw [Array.all_append]
  simp only [PyData.strOk] at h k
  rw [h, k]; rfl
theorem ok_from : ∀ (ts : List Str) (k : Nat) (acc : Str), PyData.strOk acc = true → (∀ t ∈ ts, PyData.strOk t = true) → PyData.strOk (textFrom k acc ts) = true
  | [], _, _, h, _ => h
  | t :: r, k, acc, h, l => ok_from r (k + 1) _ (ok_app (ok_app h (ok_of _)) (l t List.mem_cons_self)) fun x m => l x (List.mem_cons_of_mem _ m)
theorem ok_join (sep : Str) (hs : PyData.strOk sep = true) : ∀ ts : List Str, (∀ t ∈ ts, PyData.strOk t = true) → PyData.strOk (Str.join sep ts) = true
  | [], _ => by rw [Str.join]; simp [Str.empty, PyData.strOk]
  | [x], l => l x List.mem_cons_self
  | x :: y :: r, l => ok_app (ok_app (l x List.mem_cons_self) hs) (ok_join sep hs (y :: r) fun z m => l z (List.mem_cons_of_mem _ m))
mutual
/-- its texts, shown, are texts -/
def sok : D → Bool
  | .str s => PyData.strOk (reprText s)
  | .tup xs => soks xs
  | .lst xs => soks xs
  | _ => true
def soks : List D → Bool
  | [] => true
  | x :: r => sok x && soks r
end
mutual
theorem shown_ok : ∀ d : D, d.pl = true → sok d = true → PyData.strOk d.py.shown = true
  | .non, _, _ => ok_of _
  | .bl b, _, _ => by cases b <;> exact ok_of _
  | .int i, _, _ => ok_of _
  | .str s, _, h => by simp only [D.py, PyData.shown]; simpa [sok] using h
  | .tup xs, h, k => by
    simp only [D.py, PyData.shown]
    exact ok_app (ok_app (ok_of _) (ok_join _ (ok_of _) _ (showns_ok xs (by simpa [D.pl] using h) (by simpa [sok] using k)))) (ok_of _)
  | .lst xs, h, k => by
    simp only [D.py, PyData.shown]
    exact ok_app (ok_from _ _ _ (ok_of _) (showns_ok xs (by simpa [D.pl] using h) (by simpa [sok] using k))) (ok_of _)
  | .scr ns, _, _ => by
    simp only [D.py, PyData.shown]
    refine ok_app (ok_from _ _ _ (ok_of _) ?_) (ok_of _)
    induction ns with
    | nil => intro t h; simp [PyData.shownAll] at h
    | cons n r ih =>
      intro t h
      simp only [List.map_cons, PyData.shownAll, List.mem_cons] at h
      rcases h with rfl | h
      · exact ok_of _
      · exact ih rfl rfl t h
  | .dic, h, _ => by simp [D.pl] at h
  | .rng _ _, h, _ => by simp [D.pl] at h
  | .exn _ _, h, _ => by simp [D.pl] at h
  | .fn _, h, _ => by simp [D.pl] at h
theorem showns_ok : ∀ ds : List D, D.pls ds = true → soks ds = true → ∀ t ∈ PyData.shownAll (D.pys ds), PyData.strOk t = true
  | [], _, _, t, h => by simp [D.pys, PyData.shownAll] at h
  | d :: r, h, k, t, ht => by
    simp only [D.pls, Bool.and_eq_true] at h
    simp only [soks, Bool.and_eq_true] at k
    simp only [D.pys, PyData.shownAll, List.mem_cons] at ht
    rcases ht with rfl | ht
    · exact shown_ok d h.1 k.1
    · exact showns_ok r h.2 k.2 t ht
end
structure Fit (dep blk : Nat) (d : D) : Prop where
  so : sok d = true
  ns : nsc d = true
  pl : d.pl = true
  lay : d.py.canLay0 = true
  dep : d.py.depth ≤ dep
  sh : d.py.showable = true
  lv : d.py.leavesShort 600 = true
  blk : d.py.bulk ≤ blk
theorem Fit.mono {a b a' b' : Nat} {d : D} (h : Fit a b d) (k : a ≤ a') (l : b ≤ b') : Fit a' b' d := ⟨h.so, h.ns, h.pl, h.lay, Nat.le_trans h.dep k, h.sh, h.lv, Nat.le_trans h.blk l⟩
theorem Fit.int {i : Int} (h : i.natAbs < 2 ^ 1900) : Fit 0 0 (.int i) where
  so := rfl
  ns := rfl
  pl := rfl
  lay := by simp [D.py, PyData.canLay0]
  dep := by simp [D.py, PyData.depth]
  sh := by
    have := log_lt h
    simp only [D.py, PyData.showable, decide_eq_true_eq]
    omega
  lv := by
    have k : i.natAbs < 10 ^ 599 := Nat.lt_of_lt_of_le h (by decide +kernel)
    have e := int_text_length_le10 (k := 599) (by decide) k
    simp only [D.py, PyData.leavesShort, decide_eq_true_eq]
    show (Str.ofString (toString i)).length ≤ 600
    rw [PySem.ofString_length]; exact e
  blk := by simp [D.py, PyData.bulk]
theorem Fit.bl (b : Bool) : Fit 0 0 (.bl b) := ⟨rfl, rfl, rfl, by simp [D.py, PyData.canLay0], by simp [D.py, PyData.depth], by simp [D.py, PyData.showable], by simp [D.py, PyData.leavesShort], by simp [D.py, PyData.bulk]⟩
theorem Fit.non : Fit 0 0 .non := ⟨rfl, rfl, rfl, by simp [D.py, PyData.canLay0], by simp [D.py, PyData.depth], by simp [D.py, PyData.showable], by simp [D.py, PyData.leavesShort], by simp [D.py, PyData.bulk]⟩
theorem Fit.str {s : Str} {n : Nat} (h : (PyData.strOk s && decide (s.cps.size ≤ n)) = true) (h2 : PyData.strOk (reprText s) = true) : Fit 0 n (.str s) := by
  simp only [Bool.and_eq_true, decide_eq_true_eq] at h
  have c : (PyData.str s).canLay0 = true := by simp only [PyData.canLay0]; exact h.1
  exact ⟨by rw [sok]; exact h2, rfl, rfl, c, by simp [D.py, PyData.depth], by simp [D.py, PyData.showable], PyData.leavesShort_of_canLay0 600 _ c (by simp [D.py, PyData.intsShort]), by simp only [D.py, PyData.bulk]; exact h.2⟩
structure Fits (dep blk : Nat) (ds : List D) : Prop where
  so : soks ds = true
  ns : nscs ds = true
  pl : D.pls ds = true
  lay : PyData.canLayAll0 (D.pys ds) = true
  dep : PyData.depthAll (D.pys ds) ≤ dep
  sh : PyData.showableAll (D.pys ds) = true
  lv : PyData.leavesShortAll 600 (D.pys ds) = true
  blk : PyData.bulkAll (D.pys ds) ≤ blk
theorem Fits.nil : Fits 0 0 [] := ⟨rfl, rfl, rfl, rfl, by simp [D.pys, PyData.depthAll], rfl, rfl, by simp [D.pys, PyData.bulkAll]⟩
theorem Fits.cons {a b c e : Nat} {d : D} {ds : List D} (h : Fit a b d) (k : Fits c e ds) : Fits (max a c) (b + 1 + e) (d :: ds) where
  so := by simp [soks, h.so, k.so]
  ns := by simp [nscs, h.ns, k.ns]
  pl := by simp [D.pls, h.pl, k.pl]
  lay := by simp [D.pys, PyData.canLayAll0, h.lay, k.lay]
  dep := by have := h.dep; have := k.dep; simp only [D.pys, PyData.depthAll]; omega
  sh := by simp [D.pys, PyData.showableAll, h.sh, k.sh]
  lv := by simp [D.pys, PyData.leavesShortAll, h.lv, k.lv]
  blk := by have := h.blk; have := k.blk; simp only [D.pys, PyData.bulkAll]; omega
theorem Fits.all {a b : Nat} : ∀ {ds : List D}, (∀ d ∈ ds, Fit a b d) → Fits a (ds.length * (b + 1)) ds
  | [], _ => ⟨rfl, rfl, rfl, rfl, by simp [D.pys, PyData.depthAll], rfl, rfl, by simp [D.pys, PyData.bulkAll]⟩
  | d :: r, h => by
    have k := Fits.cons (h d List.mem_cons_self) (Fits.all fun x m => h x (List.mem_cons_of_mem _ m))
    rw [Nat.max_self] at k
    exact ⟨k.so, k.ns, k.pl, k.lay, k.dep, k.sh, k.lv, by have := k.blk; rw [List.length_cons, Nat.succ_mul]; omega⟩
theorem Fits.lst {a b : Nat} {ds : List D} (k : Fits a b ds) : Fit (a + 1) b (.lst ds) := ⟨by simp [sok, k.so], by simp [nsc, k.ns], by simp [D.pl, k.pl], by simp [D.py, PyData.canLay0, k.lay], by have := k.dep; simp only [D.py, PyData.depth]; omega, by simp [D.py, PyData.showable, k.sh], by simp [D.py, PyData.leavesShort, k.lv], by simp only [D.py, PyData.bulk]; exact k.blk⟩
theorem Fits.tup {a b : Nat} {ds : List D} (k : Fits a b ds) : Fit (a + 1) b (.tup ds) := ⟨by simp [sok, k.so], by simp [nsc, k.ns], by simp [D.pl, k.pl], by simp [D.py, PyData.canLay0, k.lay], by have := k.dep; simp only [D.py, PyData.depth]; omega, by simp [D.py, PyData.showable, k.sh], by simp [D.py, PyData.leavesShort, k.lv], by simp only [D.py, PyData.bulk]; exact k.blk⟩
theorem Fit.lstOf {a b n : Nat} {ds : List D} (h : ∀ d ∈ ds, Fit a b d) (k : ds.length ≤ n) : Fit (a + 1) (n * (b + 1)) (.lst ds) := (Fits.all h).lst.mono (Nat.le_refl _) (Nat.mul_le_mul_right _ k)
theorem Fit.fr {q : Rat} (h : Sm 1900 q) : Fit 1 2 (fr q) := by
  rw [fr_eq]
  exact (Fits.cons (Fit.int h.1) (.cons (Fit.int (by rw [Int.natAbs_natCast]; exact h.2)) .nil)).tup
theorem Fit.mem {a b : Nat} : ∀ {ds : List D}, Fits a b ds → ∀ d ∈ ds, Fit a b d
  | [], _, d, h => by cases h
  | x :: r, k, d, h => by
    have k0 := k.so; have k1 := k.ns; have k2 := k.pl; have k3 := k.lay; have k4 := k.dep; have k5 := k.sh; have k6 := k.lv; have k7 := k.blk
    simp only [soks, nscs, D.pls, D.pys, PyData.canLayAll0, PyData.depthAll, PyData.showableAll, PyData.leavesShortAll, PyData.bulkAll, Bool.and_eq_true] at k0 k1 k2 k3 k4 k5 k6 k7
    rcases List.mem_cons.mp h with rfl | h
    · exact ⟨k0.1, k1.1, k2.1, k3.1, by omega, k5.1, k6.1, by omega⟩
    · exact Fit.mem ⟨k0.2, k1.2, k2.2, k3.2, by omega, k5.2, k6.2, by omega⟩ d h
theorem Fit.outL {a b : Nat} {ds : List D} (h : Fit (a + 1) b (.lst ds)) : Fits a b ds := by
  have k0 := h.so; have k1 := h.ns; have k2 := h.pl; have k3 := h.lay; have k4 := h.dep; have k5 := h.sh; have k6 := h.lv; have k7 := h.blk
  simp only [sok, nsc, D.pl, D.py, PyData.canLay0, PyData.depth, PyData.showable, PyData.leavesShort, PyData.bulk] at k0 k1 k2 k3 k4 k5 k6 k7
  exact ⟨k0, k1, k2, k3, by omega, k5, k6, k7⟩
theorem Fit.outT {a b : Nat} {ds : List D} (h : Fit (a + 1) b (.tup ds)) : Fits a b ds := by
  have k0 := h.so; have k1 := h.ns; have k2 := h.pl; have k3 := h.lay; have k4 := h.dep; have k5 := h.sh; have k6 := h.lv; have k7 := h.blk
  simp only [sok, nsc, D.pl, D.py, PyData.canLay0, PyData.depth, PyData.showable, PyData.leavesShort, PyData.bulk] at k0 k1 k2 k3 k4 k5 k6 k7
  exact ⟨k0, k1, k2, k3, by omega, k5, k6, k7⟩
theorem Fit.dep0 {b : Nat} {ds : List D} (h : Fit 0 b (.lst ds) ∨ Fit 0 b (.tup ds)) : False := by
  rcases h with h | h
  all_goals (have := h.dep; simp only [D.py, PyData.depth] at this; omega)
theorem Fit.shaped {a b : Nat} {d : D} (h : Fit a b d) (k : a ≤ 64) : SeqAt.shaped d.py = true := by
  unfold SeqAt.shaped
  rw [h.lay, Bool.true_and, decide_eq_true_eq]
  exact Nat.le_trans h.dep k
theorem Fit.eqOk {a b a' b' : Nat} {d d' : D} (h : Fit a b d) (h' : Fit a' b' d') (k : a ≤ 64) (k' : a' ≤ 64) : eqOk d d' := ⟨h.pl, h'.pl, h.shaped k, h'.shaped k'⟩
theorem Fit.reprOk {a b : Nat} {d : D} (h : Fit a b d) (k : a ≤ 64) (l : b ≤ 1600) : reprOk d := ⟨h.pl, h.shaped k, h.sh, by
  have := PyData.shown_le_bulk 600 (by decide) d.py h.lv
  have := h.blk
  show _ ≤ 1000000
  omega⟩
theorem Fit.shownEq {a b : Nat} {d : D} (h : Fit a b d) : opf .eq (.d (.str d.py.shown)) (.d (.str d.py.shown)) = some (.d (.bl true)) := by
  show opEq false _ _ = _
  have c : (PyData.str d.py.shown).canLay0 = true := by simp only [PyData.canLay0]; exact shown_ok d h.pl h.so
  have e : PV.eqOk (.str d.py.shown) (.str d.py.shown) := ⟨rfl, rfl, by simp [SeqAt.shaped, D.py, c, PyData.depth], by simp [SeqAt.shaped, D.py, c, PyData.depth]⟩
  unfold opEq guardP
  rw [frz_d, if_pos e]
  simp [D.py, PyData.eqv, bD]
theorem repr_ok {a b : Nat} {d : D} (h : Fit a b d) (k : a ≤ 64) (l : b ≤ 1600) : bltf .repr [.d d] = some (.d (.str d.py.shown)) := by
  have e := h.reprOk k l
  simp only [bltf, frz_d, guardP, e, if_true]
mutual
theorem eqv_refl : ∀ d : D, d.pl = true → PyData.eqv d.py d.py = true
  | .non, _ => by simp [D.py, PyData.eqv]
  | .bl _, _ => by simp [D.py, PyData.eqv]
  | .int _, _ => by simp [D.py, PyData.eqv]
  | .str _, _ => by simp [D.py, PyData.eqv]
  | .tup xs, h => by simp only [D.py, PyData.eqv]; exact eqvs_refl xs (by simpa [D.pl] using h)
  | .lst xs, h => by simp only [D.py, PyData.eqv]; exact eqvs_refl xs (by simpa [D.pl] using h)
  | .scr ns, _ => by
    simp only [D.py, PyData.eqv]
    induction ns with
    | nil => simp [PyData.eqvAll]
    | cons n r ih => simp [PyData.eqvAll, PyData.eqv, ih rfl]
  | .dic, h => by simp [D.pl] at h
  | .rng _ _, h => by simp [D.pl] at h
  | .exn _ _, h => by simp [D.pl] at h
  | .fn _, h => by simp [D.pl] at h
theorem eqvs_refl : ∀ ds : List D, D.pls ds = true → PyData.eqvAll (D.pys ds) (D.pys ds) = true
  | [], _ => by simp [D.pys, PyData.eqvAll]
  | d :: r, h => by
    simp only [D.pls, Bool.and_eq_true] at h
    simp [D.pys, PyData.eqvAll, eqv_refl d h.1, eqvs_refl r h.2]
end
theorem op_eq_same {a b : CT} {d : D} {m n : Nat} (ha : a.frz = d) (hb : b.frz = d) (h : Fit m n d) (k : m ≤ 64) : opf .eq a b = some (.d (.bl true)) := by
  show opEq false a b = _
  unfold opEq guardP
  rw [ha, hb, if_pos (h.eqOk h k k), eqv_refl d h.pl]
  rfl
theorem op_ne_same {a b : CT} {d : D} {m n : Nat} (ha : a.frz = d) (hb : b.frz = d) (h : Fit m n d) (k : m ≤ 64) : opf .ne a b = some (.d (.bl false)) := by
  show opEq true a b = _
  unfold opEq guardP
  rw [ha, hb, if_pos (h.eqOk h k k), eqv_refl d h.pl]
  rfl
/-! ### places -/
theorem atI_nat {α : Type} (xs : List α) (i : Nat) (h : i < xs.length) : atI xs (i : Int) = some xs[i] := by
  unfold atI ixN
  rw [if_pos (by omega), if_pos (by omega), Int.toNat_natCast]
  exact List.getElem?_eq_getElem h
theorem atI_last {α : Type} (xs : List α) (h : xs ≠ []) : atI xs (-1) = some (xs.getLast h) := by
  have l : 0 < xs.length := List.length_pos_iff.mpr h
  unfold atI ixN
  rw [if_neg (by omega), if_pos (by omega), List.getLast_eq_getElem]
  rw [show ((-1 : Int) + (xs.length : Int)).toNat = xs.length - 1 by omega]
  exact List.getElem?_eq_getElem (by omega)
theorem at_lst (xs : List D) (i : Nat) (h : i < xs.length) : CT.at (.d (.lst xs)) (i : Int) = some (.d xs[i]) := by
  show (atI xs (i : Int)).map CT.d = _
  rw [atI_nat xs i h]; rfl
theorem at_ow (xs : List D) (i : Nat) (h : i < xs.length) : CT.at (.l (xs.map .d)) (i : Int) = some (.d xs[i]) := by
  show atI (xs.map CT.d) (i : Int) = _
  rw [atI_nat _ i (by rw [List.length_map]; exact h), List.getElem_map]
theorem at_ow_last (xs : List D) (h : xs ≠ []) : CT.at (.l (xs.map .d)) (-1) = some (.d (xs.getLast h)) := by
  show atI (xs.map CT.d) (-1) = _
  rw [atI_last _ (by simpa using h), List.getLast_map]
/-! ### loops that draw -/
theorem forE_gen {F : D → Env → Res (List CT × Env)} {P : Nat → Env → Prop} {Q : D → Prop} : ∀ {xs : List D} {m : Nat} {e : Env}, (∀ x ∈ xs, ∀ m e, P m e → ∃ (y : D) (e' : Env), F x e = .ok ([.d y], e') ∧ Q y ∧ P (m + 1) e') → P m e → ∃ (ys : List D) (e' : Env), forE F xs e = .ok (ys.map .d, e') ∧ ys.length = xs.length ∧ (∀ y ∈ ys, Q y) ∧ P (m + xs.length) e'
  | [], m, e, _, h => ⟨[], e, rfl, rfl, fun _ h => (by cases h), h⟩
  | x :: r, m, e, s, h => by
    obtain ⟨y, e1, a, b, c⟩ := s x List.mem_cons_self m e h
    obtain ⟨ys, e2, a2, l, q, p⟩ := forE_gen (fun x m => s x (List.mem_cons_of_mem _ m)) c
    refine ⟨y :: ys, e2, ?_, by simp [l], ?_, ?_⟩
    · rw [forE, a, bd_ok, a2]; rfl
    · intro z hz
      rcases List.mem_cons.mp hz with rfl | hz
      · exact b
      · exact q z hz
    · rw [List.length_cons, Nat.add_comm r.length 1, ← Nat.add_assoc]; exact p
/-- a loop that leaves what is asked -/
theorem forS_keep {F : D → Env → SRes} {P : Env → Prop} : ∀ {xs : List D} {e : Env}, (∀ x ∈ xs, ∀ e, P e → ∃ e', F x e = .nx e' ∧ P e') → P e → ∃ e', forS F xs e = .nx e' ∧ P e'
  | [], e, _, h => ⟨e, rfl, h⟩
  | x :: r, e, s, h => by
    obtain ⟨e1, a, b⟩ := s x List.mem_cons_self e h
    obtain ⟨e2, c, d⟩ := forS_keep (xs := r) (fun y m => s y (List.mem_cons_of_mem _ m)) b
    exact ⟨e2, by rw [forS, a, go_nx, c], d⟩
/-- a loop that puts things behind a list -/
theorem forS_app {F : D → Env → SRes} {E : List D → Option CT → Env} {g : D → List D} {N : Nat} : ∀ {xs : List D} (X : List D) (y : Option CT), (∀ (X : List D) (y : Option CT) (x : D), x ∈ xs → X.length + (g x).length ≤ N → F x (E X y) = .nx (E (X ++ g x) (some (.d x)))) → X.length + (xs.flatMap g).length ≤ N → ∃ y', forS F xs (E X y) = .nx (E (X ++ xs.flatMap g) y')
  | [], X, y, _, _ => ⟨y, by rw [List.flatMap_nil, List.append_nil]; rfl⟩
  | x :: r, X, y, h, hn => by
    rw [List.flatMap_cons, List.length_append] at hn
    obtain ⟨y', e⟩ := forS_app (xs := r) (X ++ g x) (some (.d x)) (fun X y z m => h X y z (List.mem_cons_of_mem _ m)) (by rw [List.length_append]; omega)
    exact ⟨y', by rw [forS, h X y x List.mem_cons_self (by omega), go_nx, e, List.flatMap_cons, List.append_assoc]⟩
/-! ### what a range is -/
theorem rgf_nat (n : Nat) (h : n < 2 ^ 60) : rgf [di (n : Int)] = some (.l (((List.range n).map fun (i : Nat) => D.int (i : Int)).map .d)) := by
  have s : smallR (n : Int) := ⟨by omega, by omega⟩
  show guardP (smallR (n : Int)) (CT.l ((rngL 0 (n : Int)).map .d)) = _
  unfold guardP
  rw [if_pos s]
  simp [rngL]
theorem blt_range_nat (n : Nat) (h : n < 2 ^ 60) : bltf .range [di (n : Int)] = some (.d (.rng 0 n)) := by
  have s : smallR (n : Int) := ⟨by omega, by omega⟩
  show guardP (smallR (n : Int)) (CT.d (.rng 0 n)) = _
  unfold guardP
  rw [if_pos s]
theorem walk_rng (n : Nat) (h : n < 2 ^ 60) : CT.walk (.d (.rng 0 (n : Int))) = some ((List.range n).map fun (i : Nat) => D.int (i : Int)) := by
  have s : smallR (n : Int) := ⟨by omega, by omega⟩
  have s0 : smallR 0 := ⟨by decide, by decide⟩
  show (if smallR 0 ∧ smallR (n : Int) then some (rngL 0 (n : Int)) else none) = _
  rw [if_pos ⟨s0, s⟩]
  simp [rngL]
/-- a range that is named: a thing that is walked so -/
theorem range_ok (n : Nat) (h : n < 2 ^ 60) : ∃ d : D, bltf .range [di (n : Int)] = some (.d d) ∧ CT.walk (.d d) = some ((List.range n).map fun (i : Nat) => D.int (i : Int)) := ⟨_, blt_range_nat n h, walk_rng n h⟩
@[simp] theorem walk_lst (xs : List D) : CT.walk (.d (.lst xs)) = some xs := (rfl)
@[simp] theorem walk_tup (xs : List D) : CT.walk (.d (.tup xs)) = some xs := (rfl)
@[simp] theorem walk_ow (xs : List D) : CT.walk (.l (xs.map .d)) = some xs := by
  show (match (CT.l (xs.map .d)).lels with | some xs => some xs | none => (CT.l (xs.map .d)).tels) = _
  rw [lels_ow]
/-! ### two lists one behind the other -/
theorem op_add_lst {a b : CT} {xs ys : List D} (ha : a.lels = some xs) (hb : b.lels = some ys) (h : xs.length + ys.length ≤ 1000000) : opf .add a b = some (.l ((xs ++ ys).map .d)) := by
  show opAdd a b = _
  unfold opAdd
  split
  · simp [CT.lels] at ha
  · simp [CT.lels] at ha
  · rw [ha, hb]
    show guardP (xs.length + ys.length ≤ lmax) _ = _
    unfold guardP
    rw [if_pos (show xs.length + ys.length ≤ lmax from h)]
theorem op_mul_lst {a : CT} {xs : List D} {k : Nat} (ha : a.lels = some xs) (h : xs.length * k ≤ 1000000) (hk : k < 2 ^ 63) : opf .mul a (di k) = some (.l ((List.replicate k xs).flatten.map .d)) := by
  have c : -(2 ^ 63) ≤ (k : Int) ∧ (k : Int) < 2 ^ 63 ∧ xs.length * (k : Int).toNat ≤ lmax := ⟨by omega, by omega, by rw [Int.toNat_natCast]; exact h⟩
  show opMul a (di k) = _
  unfold opMul
  split
  · rename_i e; cases e; simp [CT.lels] at ha
  · rename_i k' _ e
    cases e
    rw [ha]
    show guardP _ _ = _
    unfold guardP
    rw [if_pos c, Int.toNat_natCast]
  · rename_i h1 h2; exact (h1 (k : Int) rfl).elim
/-! ### parts of lists -/
theorem cutL_nat {α : Type} (xs : List α) (i j : Nat) : cutL xs (some (i : Int)) (some (j : Int)) = (xs.drop i).take (j - i) := by
  unfold cutL
  rw [HT.sIx_nat, HT.sIx_nat]
  rcases Nat.le_total i xs.length with hi | hi
  · rw [Nat.min_eq_left hi]
    rcases Nat.le_total j xs.length with hj | hj
    · rw [Nat.min_eq_left hj]
    · rw [Nat.min_eq_right hj, List.take_of_length_le (by rw [List.length_drop]; omega), List.take_of_length_le (by rw [List.length_drop]; omega)]
  · rw [Nat.min_eq_right hi, List.drop_of_length_le (Nat.le_refl _), List.drop_of_length_le hi, List.take_nil, List.take_nil]
theorem cutL_to {α : Type} (xs : List α) (j : Nat) : cutL xs none (some (j : Int)) = xs.take j := by
  have := cutL_nat xs 0 j
  rw [List.drop_zero, Nat.sub_zero] at this
  rw [← this]
  unfold cutL
  rw [HT.sIx_none, HT.sIx_nat xs.length 0 0, Nat.zero_min]
theorem cutL_from {α : Type} (xs : List α) (i : Nat) : cutL xs (some (i : Int)) none = xs.drop i := by
  unfold cutL
  rw [HT.sIx_none, HT.sIx_nat]
  rcases Nat.le_total i xs.length with hi | hi
  · rw [Nat.min_eq_left hi, List.take_of_length_le (by rw [List.length_drop]; exact Nat.le_refl _)]
  · rw [Nat.min_eq_right hi, List.drop_of_length_le (Nat.le_refl _), List.drop_of_length_le hi, List.take_nil]
theorem slcf_lst {a : CT} {xs : List D} (ha : a.lels = some xs) (l h : Option Int) : slcf a l h = some (.l ((cutL xs l h).map .d)) := by
  unfold slcf
  split
  · simp [CT.lels] at ha
  · simp [CT.lels] at ha
  · rw [ha]
theorem partOf_int (e : ME) (i : Int) (h : e ≠ .lit .non) : partOf e (di i) = some (some i) := by
  unfold partOf
  split
  · exact absurd rfl h
  · rfl
@[simp] theorem partOf_var (j : Nat) (i : Int) : partOf (.var j) (di i) = some (some i) := (rfl)
@[simp] theorem partOf_lit (j i : Int) : partOf (.lit (.int j)) (di i) = some (some i) := (rfl)
@[simp] theorem partOf_op (o : O2) (a b : ME) (i : Int) : partOf (.op o a b) (di i) = some (some i) := (rfl)
@[simp] theorem partOf_bi (o : BI) (a : List ME) (i : Int) : partOf (.bi o a) (di i) = some (some i) := (rfl)
@[simp] theorem partOf_non (c : CT) : partOf (.lit .non) c = some none := by cases c <;> rfl
theorem intsOf_map (ns : List Int) : intsOf (ns.map D.int) = some ns := by
  induction ns with
  | nil => rfl
  | cons x r ih => rw [List.map_cons, intsOf, ih]; rfl
theorem blsOf_map (bs : List Bool) : blsOf (bs.map D.bl) = some bs := by
  induction bs with
  | nil => rfl
  | cons b r ih => rw [List.map_cons, blsOf, ih]; rfl
theorem sum_ints {a : CT} {ns : List Int} (h : a.lels = some (ns.map D.int)) : bltf .sum [a] = some (di ns.sum) := by
  simp only [bltf, h, intsOf_map, Option.map]
theorem all_bls {a : CT} {bs : List Bool} (h : a.lels = some (bs.map D.bl)) : bltf .all [a] = some (.d (.bl (bs.all id))) := by
  simp only [bltf, h, blsOf_map, Option.map, bD]
theorem map_const {α β : Type} (xs : List α) (b : β) : xs.map (fun _ => b) = List.replicate xs.length b := by simp [List.map_const']
/-- all of a list of as many yeses -/
theorem all_true (n : Nat) : bltf .all [.l ((List.replicate n (D.bl true)).map .d)] = some (.d (.bl true)) := by
  rw [all_bls (bs := List.replicate n true) (by rw [lels_ow]; simp)]
  simp
@[simp] theorem blt_int (i : Int) : bltf .int [di i] = some (di i) := (rfl)
theorem blt_max (i j : Int) : bltf .max [di i, di j] = some (di (if j > i then j else i)) := (rfl)
@[simp] theorem isi_int_non  : isif [.int] .non = some false := (rfl)
@[simp] theorem isi_bool_non  : isif [.bool] .non = some false := (rfl)
@[simp] theorem isi_str_non  : isif [.str] .non = some false := (rfl)
@[simp] theorem isi_list_non  : isif [.list] .non = some false := (rfl)
@[simp] theorem isi_tuple_non  : isif [.tuple] .non = some false := (rfl)
@[simp] theorem isi_int_bl (b : Bool) : isif [.int] (.bl b) = some true := (rfl)
@[simp] theorem isi_bool_bl (b : Bool) : isif [.bool] (.bl b) = some true := (rfl)
@[simp] theorem isi_str_bl (b : Bool) : isif [.str] (.bl b) = some false := (rfl)
@[simp] theorem isi_list_bl (b : Bool) : isif [.list] (.bl b) = some false := (rfl)
@[simp] theorem isi_tuple_bl (b : Bool) : isif [.tuple] (.bl b) = some false := (rfl)
@[simp] theorem isi_int_int (i : Int) : isif [.int] (.int i) = some true := (rfl)
@[simp] theorem isi_bool_int (i : Int) : isif [.bool] (.int i) = some false := (rfl)
@[simp] theorem isi_str_int (i : Int) : isif [.str] (.int i) = some false := (rfl)
@[simp] theorem isi_list_int (i : Int) : isif [.list] (.int i) = some false := (rfl)
@[simp] theorem isi_tuple_int (i : Int) : isif [.tuple] (.int i) = some false := (rfl)
@[simp] theorem isi_int_str (s : Str) : isif [.int] (.str s) = some false := (rfl)
@[simp] theorem isi_bool_str (s : Str) : isif [.bool] (.str s) = some false := (rfl)
@[simp] theorem isi_str_str (s : Str) : isif [.str] (.str s) = some true := (rfl)
@[simp] theorem isi_list_str (s : Str) : isif [.list] (.str s) = some false := (rfl)
@[simp] theorem isi_tuple_str (s : Str) : isif [.tuple] (.str s) = some false := (rfl)
@[simp] theorem isi_int_tup (xs : List D) : isif [.int] (.tup xs) = some false := (rfl)
@[simp] theorem isi_bool_tup (xs : List D) : isif [.bool] (.tup xs) = some false := (rfl)
@[simp] theorem isi_str_tup (xs : List D) : isif [.str] (.tup xs) = some false := (rfl)
@[simp] theorem isi_list_tup (xs : List D) : isif [.list] (.tup xs) = some false := (rfl)
@[simp] theorem isi_tuple_tup (xs : List D) : isif [.tuple] (.tup xs) = some true := (rfl)
@[simp] theorem isi_int_lst (xs : List D) : isif [.int] (.lst xs) = some false := (rfl)
@[simp] theorem isi_bool_lst (xs : List D) : isif [.bool] (.lst xs) = some false := (rfl)
@[simp] theorem isi_str_lst (xs : List D) : isif [.str] (.lst xs) = some false := (rfl)
@[simp] theorem isi_list_lst (xs : List D) : isif [.list] (.lst xs) = some true := (rfl)
@[simp] theorem isi_tuple_lst (xs : List D) : isif [.tuple] (.lst xs) = some false := (rfl)
theorem eqOk_bl (i j : Bool) : eqOk (.bl i) (.bl j) := ⟨rfl, rfl, rfl, rfl⟩
@[simp] theorem op_eq_bl (i j : Bool) : opf .eq (.d (.bl i)) (.d (.bl j)) = some (.d (.bl (i == j))) := by
  show opEq _ _ _ = _
  unfold opEq guardP
  rw [if_pos (show eqOk (CT.d (D.bl i)).frz (CT.d (D.bl j)).frz by rw [frz_d, frz_d]; exact eqOk_bl i j), frz_d, frz_d]
  cases i <;> cases j <;> rfl
@[simp] theorem op_ne_bl (i j : Bool) : opf .ne (.d (.bl i)) (.d (.bl j)) = some (.d (.bl (i != j))) := by
  show opEq _ _ _ = _
  unfold opEq guardP
  rw [if_pos (show eqOk (CT.d (D.bl i)).frz (CT.d (D.bl j)).frz by rw [frz_d, frz_d]; exact eqOk_bl i j), frz_d, frz_d]
  cases i <;> cases j <;> rfl
theorem Fits.len_le : ∀ {ds : List D} {a b : Nat}, Fits a b ds → ds.length ≤ b
  | [], _, _, _ => by simp
  | y :: r, a, b, h => by
    have k7 := h.blk
    have k0 := h.so; have k1 := h.ns; have k2 := h.pl; have k3 := h.lay; have k4 := h.dep; have k5 := h.sh; have k6 := h.lv
    simp only [soks, nscs, D.pls, D.pys, PyData.canLayAll0, PyData.depthAll, PyData.showableAll, PyData.leavesShortAll, PyData.bulkAll, Bool.and_eq_true] at k0 k1 k2 k3 k4 k5 k6 k7
    have := Fits.len_le (ds := r) (a := a) (b := b - 1) ⟨k0.2, k1.2, k2.2, k3.2, by omega, k5.2, k6.2, by omega⟩
    rw [List.length_cons]; omega
end PV.PE

set_option maxRecDepth 100000
/-! The program's fractions. -/
namespace Pl
open PySem PV PV.PE Tb
theorem is_whole_int (k : Nat) (i : Int) : Rk (k + 1) i_is_whole [di i] = .ok (.d (.bl true), none) := by
  rw [r_is_whole]; simp [b_is_whole, ME.pu]
theorem c_divisor (k : Nat) (a b : Int) {n : Nat} (ha : a.natAbs < 2 ^ n) (hb : b.natAbs < 2 ^ n) (hn : n ≤ 9000) : Rk (k + 1) i_common_divisor [di a, di b] = .ok (di (Int.gcd a b : Nat), none) := by
  rw [r_common_divisor]
  have e := euclid_gen (c := wtest (Rk k) G (.op .gt (.var 1) (.lit (.int 0)))) (f := wbody (Rk k) G W w1_common_divisor) (E := fun x y => [some (di x), some (di y)]) (B := n) (fun x n => by simp [whS, wtest, ME.pu])
    (fun x y n p _ _ => by simp [whS, wtest, wbody, w1_common_divisor, ME.pu, ME.pus, op_mod, p, sets]) n W a.natAbs b.natAbs hb ha hb (by show _ ≤ 1000000; omega)
  simp [b_common_divisor, ME.pu, ME.pus, abs_int, sets, e]
  rfl
theorem lowest_pos (k : Nat) (a b : Int) {n : Nat} (p : 0 < b) (ha : a.natAbs < 2 ^ n) (hb : b.natAbs < 2 ^ n) (hn : n < 9000) : Rk (k + 2) i_lowest [di a, di b] = .ok (.d (fr (Rat.divInt a b)), none) := by
  rw [r_lowest]
  have e := c_divisor k a b ha hb (by omega)
  have g : 0 < Int.gcd a b := Int.gcd_pos_of_ne_zero_right _ (by omega)
  have gb : Int.gcd a b < 2 ^ n := by
    refine Nat.lt_of_le_of_lt ?_ hb
    exact Nat.le_of_dvd (by omega) (Int.gcd_dvd_natAbs_right ..)
  have d1 : ∀ i, divOk i (Int.gcd a b : Nat) := fun i => div_ok (by omega) (by rw [Int.natAbs_natCast]; exact gb) hn
  have hb' : ¬ b < 0 := by omega
  simp [b_lowest, ME.pu, ME.pus, hb', e, op_div, d1, CT.atom]
  exact fr_mk a b p
theorem lowest_nz (k : Nat) (a b : Int) {n : Nat} (p : b ≠ 0) (ha : a.natAbs < 2 ^ n) (hb : b.natAbs < 2 ^ n) (hn : n < 9000) : Rk (k + 2) i_lowest [di a, di b] = .ok (.d (fr (Rat.divInt a b)), none) := by
  by_cases h : 0 < b
  · exact lowest_pos k a b h ha hb hn
  · have h' : b < 0 := by omega
    rw [r_lowest]
    have ha' : (-a).natAbs < 2 ^ n := by rw [Int.natAbs_neg]; exact ha
    have hb' : (-b).natAbs < 2 ^ n := by rw [Int.natAbs_neg]; exact hb
    have e := c_divisor k (-a) (-b) ha' hb' (by omega)
    have g : 0 < Int.gcd (-a) (-b) := Int.gcd_pos_of_ne_zero_right _ (by omega)
    have gb : Int.gcd (-a) (-b) < 2 ^ n := by
      refine Nat.lt_of_le_of_lt ?_ hb'
      exact Nat.le_of_dvd (by omega) (Int.gcd_dvd_natAbs_right ..)
    have d1 : ∀ i, divOk i (Int.gcd (-a) (-b) : Nat) := fun i => div_ok (by omega) (by rw [Int.natAbs_natCast]; exact gb) hn
    have m := fr_mk (-a) (-b) (by omega)
    rw [Rat.neg_divInt_neg] at m
    simp only [Int.gcd_neg, Int.neg_gcd] at e d1 m
    simp [b_lowest, ME.pu, ME.pus, h', e, op_div, d1, CT.atom, sets]
    rw [← m]
theorem num_lt {p q : Rat} {n m : Nat} (hp : Sm n p) (hq : Sm m q) : (p.num * q.den).natAbs < 2 ^ (n + m) := by
  rw [Int.natAbs_mul, Int.natAbs_natCast]; exact mul_lt_pow hp.1 hq.2
theorem den_lt {p q : Rat} {n m : Nat} (hp : Sm n p) (hq : Sm m q) : ((p.den * q.den : Nat) : Int).natAbs < 2 ^ (n + m) := by
  rw [Int.natAbs_natCast]; exact mul_lt_pow hp.2 hq.2
theorem den_mul_pos (p q : Rat) : (0 : Int) < p.den * q.den := by
  have := p.den_pos; have := q.den_pos; exact Int.mul_pos (by omega) (by omega)
theorem plus_fr (k : Nat) {p q : Rat} {n m : Nat} (hp : Sm n p) (hq : Sm m q) (h : n + m < 8000) : Rk (k + 3) i_plus [.d (fr p), .d (fr q)] = .ok (.d (fr (p + q)), none) := by
  rw [r_plus]
  obtain ⟨m1, m2, m3, m4⟩ := hp.numOk hq (by omega)
  obtain ⟨m1', m2', m3', m4'⟩ := hq.numOk hp (by omega)
  have a := num_lt hp hq
  have b := num_lt hq hp
  have c := den_lt hp hq
  rw [Nat.add_comm m n] at b
  have e := lowest_pos k (p.num * q.den + q.num * p.den) (p.den * q.den) (n := n + m + 1) (den_mul_pos p q) (by rw [Nat.pow_succ]; omega) (by rw [Nat.pow_succ]; push_cast at c; omega) (by omega)
  rw [rat_add] at e
  simp [b_plus, ME.pu, ME.pus, op_mul, m2, m2', m4, e, CT.atom]
theorem less_fr (k : Nat) {p q : Rat} {n m : Nat} (hp : Sm n p) (hq : Sm m q) (h : n + m < 8000) : Rk (k + 3) i_less [.d (fr p), .d (fr q)] = .ok (.d (fr (p - q)), none) := by
  rw [r_less]
  obtain ⟨m1, m2, m3, m4⟩ := hp.numOk hq (by omega)
  obtain ⟨m1', m2', m3', m4'⟩ := hq.numOk hp (by omega)
  have a := num_lt hp hq
  have b := num_lt hq hp
  have c := den_lt hp hq
  rw [Nat.add_comm m n] at b
  have e := lowest_pos k (p.num * q.den - q.num * p.den) (p.den * q.den) (n := n + m + 1) (den_mul_pos p q) (by rw [Nat.pow_succ]; omega) (by rw [Nat.pow_succ]; push_cast at c; omega) (by omega)
  rw [rat_sub] at e
  simp [b_less, ME.pu, ME.pus, op_mul, m2, m2', m4, e, CT.atom]
theorem times_fr (k : Nat) {p q : Rat} {n m : Nat} (hp : Sm n p) (hq : Sm m q) (h : n + m < 8000) : Rk (k + 3) i_times [.d (fr p), .d (fr q)] = .ok (.d (fr (p * q)), none) := by
  rw [r_times]
  obtain ⟨m1, m2, m3, m4⟩ := hp.numOk hq (by omega)
  have a : (p.num * q.num).natAbs < 2 ^ (n + m) := by rw [Int.natAbs_mul]; exact mul_lt_pow hp.1 hq.1
  have c := den_lt hp hq
  have e := lowest_pos k (p.num * q.num) (p.den * q.den) (n := n + m + 1) (den_mul_pos p q) (by rw [Nat.pow_succ]; omega) (by rw [Nat.pow_succ]; push_cast at c; omega) (by omega)
  rw [rat_mul] at e
  simp [b_times, ME.pu, ME.pus, op_mul, m1, m4, e, CT.atom]
theorem is_fraction_fr (k : Nat) {p : Rat} {n : Nat} (hp : Sm n p) (h : n ≤ 9000) : Rk (k + 2) i_is_fraction [.d (fr p)] = .ok (.d (.bl true), none) := by
  rw [r_is_fraction]
  have e := c_divisor k p.num p.den hp.1 (by rw [Int.natAbs_natCast]; exact hp.2) h
  have g : Int.gcd p.num p.den = 1 := p.reduced
  rw [g] at e
  have d := p.den_pos
  simp [b_is_fraction, ME.pu, ME.pus, is_whole_int, e, d, CT.atom]
def frs (qs : List Rat) : D := .lst (qs.map fr)
@[simp] theorem frs_list (qs : List Rat) : isif [.list] (frs qs) = some true := (rfl)
theorem are_fractions_frs (k : Nat) {qs : List Rat} {n : Nat} (hp : ∀ q ∈ qs, Sm n q) (h : n ≤ 9000) (hl : qs.length ≤ 1000) : Rk (k + 3) i_are_fractions [.d (frs qs), di qs.length] = .ok (.d (.bl true), none) := by
  rw [r_are_fractions]
  have e := forE_map (F := cbody (Rk (k + 2)) G [("one", 2)] c1_are_fractions (.nm 2) []) (g := fun _ => .bl true) (e := [some (.d (.lst (qs.map fr))), some (di qs.length), none]) (xs := qs.map fr) (by
    intro x hx
    obtain ⟨q, hq, rfl⟩ := List.mem_map.mp hx
    have := is_fraction_fr k (hp q hq) h
    simp [cbody, asgC, c1_are_fractions, ME.pu, ME.pus, this, clr, CT.atom])
  rw [map_const, List.length_map] at e
  have l : qs.length ≤ lmax := by show _ ≤ 1000000; omega
  simp [-List.map_map, -List.map_replicate, b_are_fractions, ME.pu, ME.pus, CT.walk, clr, e, all_true, frs, back, dOnly, l]
end Pl

set_option maxRecDepth 100000
/-! The law's own draws and fractions. -/
namespace Pl
open PySem PV PV.PE Tb
/-- the generator's list, at most m draws made -/
structure Gen (m : Nat) (a b c : Int) : Prop where
  a0 : 0 ≤ a
  b0 : 0 ≤ b
  b1 : b < 2 ^ 31
  c0 : 0 ≤ c
  c1 : c ≤ m
def IsG (m : Nat) (g : CT) : Prop := ∃ a b c : Int, g = .l [di a, di b, di c] ∧ Gen m a b c
theorem IsG.mono {m n : Nat} {g : CT} (h : IsG m g) (k : m ≤ n) : IsG n g := by
  obtain ⟨a, b, c, e, h⟩ := h
  exact ⟨a, b, c, e, h.a0, h.b0, h.b1, h.c0, by have := h.c1; omega⟩
def hs1 (a b : Int) : Int := (a * 1140671 + 27644437 * b * b + 131 * b + 19) % 2147483629
def hs2 (a b : Int) : Int := (hs1 a b * hs1 a b + 62089 * b + 32416187) % 2147483587
def hs (a b : Int) : Int := (hs2 a b * 48271) % 2147483647
theorem hs_bd (a b : Int) : 0 ≤ hs a b ∧ hs a b < 2147483647 := by unfold hs; omega
theorem law_hash (k : Nat) (a b : Int) (ha : 0 ≤ a ∧ a < 2 ^ 31) (hb : 0 ≤ b ∧ b < 2 ^ 30) : Rk (k + 1) i__law_hash [di a, di b] = .ok (di (hs a b), none) := by
  rw [r__law_hash]
  have m1 : mulOk a 1140671 := .inl (.inr (by omega))
  have m2 : mulOk 27644437 b := .inl (.inl (by omega))
  have m3 : mulOk (27644437 * b) b := .inl (.inl (by omega))
  have m4 : mulOk 131 b := .inl (.inl (by omega))
  have m5 : mulOk 62089 b := .inl (.inl (by omega))
  have b1 : 0 ≤ hs1 a b ∧ hs1 a b < 2147483629 := by unfold hs1; omega
  have b2 : 0 ≤ hs2 a b ∧ hs2 a b < 2147483629 := by unfold hs2; omega
  have m6 : mulOk (hs1 a b) (hs1 a b) := .inl (.inl (by omega))
  have m7 : mulOk (hs2 a b) 48271 := .inl (.inl (by omega))
  have e1 : (a * 1140671 + 27644437 * b * b + 131 * b + 19) % 2147483629 = hs1 a b := rfl
  have e2 : (hs1 a b * hs1 a b + 62089 * b + 32416187) % 2147483587 = hs2 a b := rfl
  have e3 : (hs2 a b * 48271) % 2147483647 = hs a b := rfl
  simp [b__law_hash, ME.pu, ME.pus, op_mul, op_mod, m1, m2, m3, m4, m5, m6, m7, e1, e2, e3]
theorem log_small {n : Int} (h : 1 ≤ n ∧ n < 2 ^ 20) : n.natAbs.log2 < 20 := (Nat.log2_lt (by omega)).mpr (by omega)
theorem bits_small {n : Int} (h : 1 ≤ n ∧ n < 2 ^ 20) : ((Builtin.Int.intBits n : Nat) : Int) / 30 = 0 := by
  have l := log_small h
  unfold Builtin.Int.intBits
  split <;> omega
theorem blt_blen (i : Int) (h : i.natAbs.log2 < 1000000) : bltf .blen [di i] = some (di (Builtin.Int.intBits i)) := by
  simp only [bltf, guardP, h, if_true]
theorem at_gen0 (a b c : Int) : CT.at (.l [di a, di b, di c]) 0 = some (di a) := rfl
theorem at_gen1 (a b c : Int) : CT.at (.l [di a, di b, di c]) 1 = some (di b) := rfl
theorem at_gen2 (a b c : Int) : CT.at (.l [di a, di b, di c]) 2 = some (di c) := rfl
theorem set_gen0 (a b c x : Int) : setI (di x) (di 0) (some (.l [di a, di b, di c])) = some (.l [di x, di b, di c]) := rfl
theorem set_gen2 (a b c x : Int) : setI (di x) (di 2) (some (.l [di a, di b, di c])) = some (.l [di a, di b, di x]) := rfl
theorem law_random (k m : Nat) {g : CT} (n : Int) (hg : IsG m g) (hn : 1 ≤ n ∧ n < 2 ^ 20) (hm : m < 2 ^ 29) : ∃ (r : Int) (g' : CT), (0 ≤ r ∧ r < n) ∧ IsG (m + 1) g' ∧ Rk (k + 2) i__law_random [g, di n] = .ok (di r, some g') := by
  obtain ⟨a, b, c, rfl, a0, b0, b1, c0, c1⟩ := hg
  rw [r__law_random]
  have hp : 0 < n := by omega
  have dv : divOk a n := ⟨hp, by have := log_small hn; omega⟩
  by_cases ha : 0 < a
  · refine ⟨a % n, _, ⟨Int.emod_nonneg _ (by omega), Int.emod_lt_of_pos _ hp⟩, ⟨a / n, b, c, rfl, Int.ediv_nonneg a0 (by omega), b0, b1, c0, by omega⟩, ?_⟩
    simp [b__law_random, ME.pu, ME.pus, at_gen0, ha, op_mod, hp, op_div, dv, set_gen0]
  · have za : a = 0 := by omega
    subst za
    have lg : n.natAbs.log2 < 1000000 := by have := log_small hn; omega
    have d30 : divOk (Builtin.Int.intBits n : Nat) 30 := ⟨by omega, by decide⟩
    have h := law_hash k b (c + 1) ⟨b0, by omega⟩ ⟨by omega, by omega⟩
    have hb := hs_bd b (c + 1)
    refine ⟨hs b (c + 1) % n, _, ⟨Int.emod_nonneg _ (by omega), Int.emod_lt_of_pos _ hp⟩, ⟨0, b, c + 1, rfl, by omega, b0, b1, by omega, by omega⟩, ?_⟩
    have bs := bits_small hn
    have m0 : mulOk 0 2147483587 := .inl (.inl (by omega))
    have rg1 : rgf [di 1] = some (.l [di 0]) := rfl
    simp [b__law_random, ME.pu, ME.pus, at_gen0, at_gen1, at_gen2, op_mod, hp, op_div, dv, set_gen0, set_gen2, blt_blen, lg, d30, bs, rg1, forS, fbody, asgC, l1__law_random, h, op_mul, m0, CT.atom]
theorem law_cell (k : Nat) (ns : List Int) (j : Nat) : ∃ s : Int, Rk (k + 1) i__law_cell [.d (.scr ns), di j] = .ok (di s, none) := by
  rw [r__law_cell]
  have el : bltf .len [.d (.scr ns)] = some (di ns.length) := by simp [bltf]
  by_cases h : j < ns.length
  · refine ⟨ns[j], ?_⟩
    have ea : CT.at (.d (.scr ns)) (j : Int) = some (di ns[j]) := by
      show (L2.atI ns (j : Int)).map (fun n => CT.d (.int n)) = _
      rw [atI_nat ns j h]; rfl
    simp [b__law_cell, ME.pu, ME.pus, el, h, ea]
  · refine ⟨(cutL ns none (some 1)).sum % 1000003, ?_⟩
    have hs : bltf .sum [.l ((cutL ns none (some 1)).map fun n => CT.d (.int n))] = some (di (cutL ns none (some 1)).sum) := sum_ints (by
      rw [show ((cutL ns none (some 1)).map fun n => CT.d (.int n)) = ((cutL ns none (some 1)).map D.int).map CT.d by rw [List.map_map]; rfl, lels_ow])
    have es : slcf (.d (.scr ns)) none (some 1) = some (.l ((cutL ns none (some 1)).map fun n => CT.d (.int n))) := rfl
    simp [b__law_cell, ME.pu, ME.pus, el, h, es, hs, op_mod]
theorem law_generator (k : Nat) (ns : List Int) (j : Nat) (hj : j < 64) : ∃ g : CT, IsG 63000 g ∧ Rk (k + 2) i__law_generator [.d (.scr ns), di j] = .ok (g, none) := by
  obtain ⟨s, hc⟩ := law_cell k ns j
  rw [r__law_generator]
  have p1 : powOk 10 18 := by decide
  have p2 : powOk 10 60 := by decide
  have p3 : powOk (10 ^ 60) 10 := by decide +kernel
  have m1 : mulOk 1000 (j : Int) := .inl (.inl (by omega))
  have hp : (0 : Int) < (10 ^ 60) ^ 10 := by decide +kernel
  refine ⟨_, ⟨(if 0 > s - 10 ^ 18 then 0 else s - 10 ^ 18) % ((10 ^ 60) ^ 10), s % 2147483647, 1000 * j, rfl, Int.emod_nonneg _ (by omega), by omega, by omega, by omega, by omega⟩, ?_⟩
  have e1 : opf .pow (di 10) (di 18) = some (di (10 ^ 18)) := by show guardP (powOk 10 18) _ = _; unfold guardP; rw [if_pos p1]; rfl
  have e2 : opf .pow (di 10) (di 60) = some (di (10 ^ 60)) := by show guardP (powOk 10 60) _ = _; unfold guardP; rw [if_pos p2]; rfl
  have e3 : opf .pow (di (10 ^ 60)) (di 10) = some (di ((10 ^ 60) ^ 10)) := by show guardP (powOk (10 ^ 60) 10) _ = _; unfold guardP; rw [if_pos p3]; rfl
  have e4 : ∀ x : Int, opf .mod (di x) (di ((10 ^ 60) ^ 10)) = some (di (x % ((10 ^ 60) ^ 10))) := fun x => op_mod _ _ hp
  simp [-Int.reducePow, b__law_generator, ME.pu, ME.pus, hc, e1, e2, e3, e4, op_mod, op_mul, m1, blt_max, CT.atom]
/-! fractions -/
theorem law_lowest_pos (k : Nat) (a b : Int) {n : Nat} (p : 0 < b) (ha : a.natAbs < 2 ^ n) (hb : b.natAbs < 2 ^ n) (hn : n < 9000) : Rk (k + 1) i__law_lowest [di a, di b] = .ok (.d (fr (Rat.divInt a b)), none) := by
  rw [r__law_lowest]
  have e := euclid_gen (c := wtest (Rk k) G (.op .gt (.var 3) (.lit (.int 0)))) (f := wbody (Rk k) G W w1__law_lowest) (E := fun x y => [some (di a), some (di b), some (di x), some (di y)]) (B := n) (fun x n => by simp [whS, wtest, ME.pu])
    (fun x y m p hx hy => by
      have dv : divOk (x : Int) (y : Int) := div_ok (by omega) (by rw [Int.natAbs_natCast]; exact hy) hn
      have ml : mulOk ((x : Int) / (y : Int)) (y : Int) := mul_ok (n := n) (m := n) (by
        rw [← Int.natCast_ediv, Int.natAbs_natCast]
        exact Nat.lt_of_le_of_lt (Nat.div_le_self ..) hx) (by rw [Int.natAbs_natCast]; exact hy) (by omega)
      have em : (x : Int) - (x : Int) / (y : Int) * (y : Int) = ((x % y : Nat) : Int) := by
        rw [Int.natCast_emod, Int.emod_def, Int.mul_comm]
      simp [whS, wtest, wbody, w1__law_lowest, ME.pu, ME.pus, op_div, op_mul, dv, ml, em, p, sets]) n W a.natAbs b.natAbs hb ha hb (by show _ ≤ 1000000; omega)
  have g : 0 < Int.gcd a b := Int.gcd_pos_of_ne_zero_right _ (by omega)
  have gb : Int.gcd a b < 2 ^ n := by
    refine Nat.lt_of_le_of_lt ?_ hb
    exact Nat.le_of_dvd (by omega) (Int.gcd_dvd_natAbs_right ..)
  have d1 : ∀ i, divOk i (Int.gcd a b : Nat) := fun i => div_ok (by omega) (by rw [Int.natAbs_natCast]; exact gb) hn
  have eg : Nat.gcd a.natAbs b.natAbs = Int.gcd a b := rfl
  rw [eg] at e
  simp [b__law_lowest, ME.pu, ME.pus, abs_int, sets, e, p, op_div, d1]
  exact fr_mk a b p
theorem law_plus_fr (k : Nat) {p q : Rat} {n m : Nat} (hp : Sm n p) (hq : Sm m q) (h : n + m < 8000) : Rk (k + 2) i__law_plus [.d (fr p), .d (fr q)] = .ok (.d (fr (p + q)), none) := by
  rw [r__law_plus]
  obtain ⟨m1, m2, m3, m4⟩ := hp.numOk hq (by omega)
  obtain ⟨m1', m2', m3', m4'⟩ := hq.numOk hp (by omega)
  have a := num_lt hp hq
  have b := num_lt hq hp
  have c := den_lt hp hq
  rw [Nat.add_comm m n] at b
  have e := law_lowest_pos k (p.num * q.den + q.num * p.den) (p.den * q.den) (n := n + m + 1) (den_mul_pos p q) (by rw [Nat.pow_succ]; omega) (by rw [Nat.pow_succ]; push_cast at c; omega) (by omega)
  rw [rat_add] at e
  simp [b__law_plus, ME.pu, ME.pus, op_mul, m2, m2', m4, e, CT.atom]
theorem law_below_fr (k : Nat) {p q : Rat} {n m : Nat} (hp : Sm n p) (hq : Sm m q) (h : n + m < 8000) : Rk (k + 1) i__law_below [.d (fr p), .d (fr q)] = .ok (.d (.bl (decide (p < q))), none) := by
  rw [r__law_below]
  obtain ⟨m1, m2, m3, m4⟩ := hp.numOk hq (by omega)
  obtain ⟨m1', m2', m3', m4'⟩ := hq.numOk hp (by omega)
  simp [b__law_below, ME.pu, ME.pus, op_mul, m2, m2', lt_num]
theorem sm_small (a : Int) (b : Int) (ha : a.natAbs < 16) (hb : 0 < b ∧ b < 16) : Sm 4 (Rat.divInt a b) := sm_divInt (n := 4) (m := 4) hb.1 (by omega) (by omega) (by omega) (by omega)
theorem law_number_fr (k m : Nat) {g : CT} (hg : IsG m g) (hm : m < 2 ^ 28) : ∃ (q : Rat) (g' : CT), Sm 4 q ∧ IsG (m + 2) g' ∧ Rk (k + 3) i__law_number [g] = .ok (.d (fr q), some g') := by
  obtain ⟨r1, g1, h1, i1, e1⟩ := law_random k m 9 hg ⟨by omega, by omega⟩ (by omega)
  obtain ⟨r2, g2, h2, i2, e2⟩ := law_random k (m + 1) 2 i1 ⟨by omega, by omega⟩ (by omega)
  have s := sm_small (r1 - 3) (1 + r2) (by omega) ⟨by omega, by omega⟩
  have e := law_lowest_pos (k + 1) (r1 - 3) (1 + r2) (n := 4) (by omega) (by omega) (by omega) (by omega)
  refine ⟨_, g2, s, i2, ?_⟩
  rw [r__law_number]
  simp [b__law_number, ME.pu, ME.pus, e1, e2, e, CT.atom]
end Pl

set_option maxRecDepth 100000
namespace Pl
open PySem PV PV.PE Tb
@[simp] theorem op_is_true (b : Bool) : opf .is (.d (.bl b)) (.d (.bl true)) = some (.d (.bl b)) := by cases b <;> rfl
@[simp] theorem op_is_false (b : Bool) : opf .is (.d (.bl b)) (.d (.bl false)) = some (.d (.bl !b)) := by cases b <;> rfl
theorem law_same_refl (k : Nat) : ∀ (m : Nat) (b : Nat) (d : D), Fit m b d → m ≤ 60 → b ≤ 100000 → Rk (k + m + 1) i__law_same [.d d, .d d] = .ok (.d (.bl true), none) := by
  intro m
  induction m with
  | zero =>
    intro b d h _ _
    rw [r__law_same]
    cases d with
    | non => rfl
    | bl c => cases c <;> rfl
    | int i => simp [b__law_same, ME.pu, ME.pus]
    | str s => simp [b__law_same, ME.pu, ME.pus, op_eq_same (frz_d _) (frz_d _) h (by omega)]
    | tup xs => exact (Fit.dep0 (.inr h)).elim
    | lst xs => exact (Fit.dep0 (.inl h)).elim
    | scr ns => exact absurd h.ns (by simp [nsc])
    | dic => exact absurd h.pl (by simp [D.pl])
    | rng _ _ => exact absurd h.pl (by simp [D.pl])
    | exn _ _ => exact absurd h.pl (by simp [D.pl])
    | fn _ => exact absurd h.pl (by simp [D.pl])
  | succ m ih =>
    intro b d h hm hb
    rw [show k + (m + 1) + 1 = (k + m + 1) + 1 by omega, r__law_same]
    have seq : ∀ (xs : List D), (∀ (i : Int), CT.at (.d d) i = (L2.atI xs i).map .d) → Fits m b xs → forE (cbody (Rk (k + m + 1)) G [("at", 2)] c1__law_same (.nm 2) q2__law_same) ((List.range xs.length).map fun (i : Nat) => D.int (i : Int)) [some (.d d), some (.d d), none] = .ok ([], [some (.d d), some (.d d), none]) := by
      intro xs hx hf
      have e := forE_filter (F := cbody (Rk (k + m + 1)) G [("at", 2)] c1__law_same (.nm 2) q2__law_same) (c := fun _ => false) (g := id) (e := [some (.d d), some (.d d), none]) (xs := (List.range xs.length).map fun (i : Nat) => D.int (i : Int)) (by
        intro x hx'
        obtain ⟨i, hi, rfl⟩ := List.mem_map.mp hx'
        have hi := List.mem_range.mp hi
        have e := ih b xs[i] (Fit.mem hf _ (List.getElem_mem hi)) (by omega) hb
        have ea : CT.at (.d d) (i : Int) = some (.d xs[i]) := by rw [hx, atI_nat xs i hi]; rfl
        simp [cbody, asgC, q2__law_same, ME.pu, ME.pus, clr, ea, e])
      rw [e]; simp
    have fin : opf .eq (.l []) (.l []) = some (.d (.bl true)) := by
      exact op_eq_same (d := .lst []) (by rw [CT.frz, CT.frzs]) (by rw [CT.frz, CT.frzs]) (Fits.nil.lst) (by omega)
    cases d with
    | non => rfl
    | bl c => cases c <;> rfl
    | int i => simp [b__law_same, ME.pu, ME.pus]
    | str s => simp [b__law_same, ME.pu, ME.pus, op_eq_same (frz_d _) (frz_d _) h (by omega)]
    | tup xs =>
      have hl := h.outT
      have c : xs.length < 2 ^ 60 := by have := hl.len_le; omega
      have s := seq xs (fun i => rfl) hl
      simp [-List.map_map, b__law_same, ME.pu, ME.pus, rgf_nat, c, clr, s, back, dOnly, fin]
    | lst xs =>
      have hl := h.outL
      have c : xs.length < 2 ^ 60 := by have := hl.len_le; omega
      have s := seq xs (fun i => rfl) hl
      simp [-List.map_map, b__law_same, ME.pu, ME.pus, rgf_nat, c, clr, s, back, dOnly, fin]
    | scr ns => exact absurd h.ns (by simp [nsc])
    | dic => exact absurd h.pl (by simp [D.pl])
    | rng _ _ => exact absurd h.pl (by simp [D.pl])
    | exn _ _ => exact absurd h.pl (by simp [D.pl])
    | fn _ => exact absurd h.pl (by simp [D.pl])
end Pl

set_option maxRecDepth 100000
/-! Crowds. -/
namespace Pl
open PySem PV PV.PE Tb
def crowd (n : Nat) (lo hi : List Rat) : D := .tup [.str "crowd", .int n, frs lo, frs hi]
structure Cr (n : Nat) (lo hi : List Rat) : Prop where
  n2 : 2 ≤ n
  n8 : n ≤ 8
  ll : lo.length = n
  lh : hi.length = n
  sl : ∀ q ∈ lo, Sm 4 q
  sh : ∀ q ∈ hi, Sm 4 q
section
variable {n : Nat} {lo hi : List Rat}
@[simp] theorem crowd_at0 : CT.at (.d (crowd n lo hi)) 0 = some (.d (.str "crowd")) := (rfl)
@[simp] theorem crowd_at1 : CT.at (.d (crowd n lo hi)) 1 = some (di n) := (rfl)
@[simp] theorem crowd_at2 : CT.at (.d (crowd n lo hi)) 2 = some (.d (frs lo)) := (rfl)
@[simp] theorem crowd_at3 : CT.at (.d (crowd n lo hi)) 3 = some (.d (frs hi)) := (rfl)
@[simp] theorem crowd_tup : isif [.tuple] (crowd n lo hi) = some true := (rfl)
@[simp] theorem crowd_len : bltf .len [.d (crowd n lo hi)] = some (di 4) := len_tup _
@[simp] theorem crowd_slc : slcf (.d (crowd n lo hi)) (some 2) none = some (.d (.tup [frs lo, frs hi])) := (rfl)
def gt (qs : List Rat) (i : Nat) : Rat := qs.getD i 0
theorem gt_eq {qs : List Rat} {i : Nat} (h : i < qs.length) : gt qs i = qs[i] := by
  unfold gt; rw [List.getD_eq_getElem?_getD, List.getElem?_eq_getElem h]; rfl
theorem frs_at (qs : List Rat) (i : Nat) (h : i < qs.length) : CT.at (.d (frs qs)) (i : Int) = some (.d (fr (gt qs i))) := by
  show CT.at (.d (.lst (qs.map fr))) (i : Int) = _
  rw [at_lst _ i (by rw [List.length_map]; exact h), List.getElem_map, gt_eq h]
theorem sm_getD {qs : List Rat} {m : Nat} (h : ∀ q ∈ qs, Sm m q) (i : Nat) (hi : i < qs.length) : Sm m (gt qs i) := by
  rw [gt_eq hi]
  exact h _ (List.getElem_mem hi)
theorem strEq (s : Str) {b : Nat} (h : Fit 0 b (.str s)) : opf .ne (.d (.str s)) (.d (.str s)) = some (.d (.bl false)) := op_ne_same (frz_d _) (frz_d _) h (by omega)
theorem ne_crowd : opf .ne (.d (.str "crowd")) (.d (.str "crowd")) = some (.d (.bl false)) := strEq _ (b := 5) (Fit.str (by decide +kernel) (by decide +kernel))
theorem is_crowd_by (k : Nat) (c : Cr n lo hi) : Rk (k + 4) i_is_crowd_by [.d (crowd n lo hi)] = .ok (.d (.bl true), none) := by
  rw [r_is_crowd_by]
  have e := forE_map (F := cbody (Rk (k + 3)) G [("row", 1)] c1_is_crowd_by (.nm 1) []) (g := fun _ => .bl true) (e := [some (.d (crowd n lo hi)), none]) (xs := [frs lo, frs hi]) (by
    intro x hx
    have a1 := are_fractions_frs k c.sl (by omega) (by have := c.ll; have := c.n8; omega)
    have a2 := are_fractions_frs k c.sh (by omega) (by have := c.lh; have := c.n8; omega)
    rw [c.ll] at a1
    rw [c.lh] at a2
    simp only [List.mem_cons, List.not_mem_nil, or_false] at hx
    rcases hx with rfl | rfl
    · simp [cbody, asgC, c1_is_crowd_by, ME.pu, ME.pus, a1, clr, CT.atom]
    · simp [cbody, asgC, c1_is_crowd_by, ME.pu, ME.pus, a2, clr, CT.atom])
  rw [map_const] at e
  have h2 := c.n2
  have h8 := c.n8
  have h2' : (2 : Int) ≤ n := by omega
  have h8' : (n : Int) ≤ 8 := by omega
  have t : bltf .all [.l [.d (.bl true), .d (.bl true)]] = some (.d (.bl true)) := all_true 2
  have e' : forE (cbody (Rk (k + 3)) G [("row", 1)] c1_is_crowd_by (.nm 1) []) [frs lo, frs hi] [some (.d (crowd n lo hi)), none] = .ok ([.d (.bl true), .d (.bl true)], [some (.d (crowd n lo hi)), none]) := e
  have lm : (2 : Nat) ≤ lmax := by show 2 ≤ 1000000; omega
  simp [b_is_crowd_by, ME.pu, ME.pus, is_whole_int, ne_crowd, h2', h8', clr, e', t, back, dOnly, CT.atom, lm]
theorem check_crowd (k : Nat) (c : Cr n lo hi) : Rk (k + 5) i_check_crowd [.d (crowd n lo hi)] = .ok (.d .non, none) := by
  rw [r_check_crowd]
  simp [b_check_crowd, ME.pu, ME.pus, is_crowd_by k c, CT.atom]
theorem got_by0 (k : Nat) (c : Cr n lo hi) (j : Nat) (h : j < n) : Rk (k + 1) i_got_by [.d (crowd n lo hi), di 0, di j] = .ok (.d (fr (gt lo j)), none) := by
  rw [r_got_by]
  simp [b_got_by, ME.pu, ME.pus, frs_at lo j (by rw [c.ll]; exact h)]
theorem got_by1 (k : Nat) (c : Cr n lo hi) (j : Nat) (h : j < n) : Rk (k + 1) i_got_by [.d (crowd n lo hi), di 1, di j] = .ok (.d (fr (gt hi j)), none) := by
  rw [r_got_by]
  simp [b_got_by, ME.pu, ME.pus, frs_at hi j (by rw [c.lh]; exact h)]
/-- what the one who goes over gains -/
def gn (lo hi : List Rat) (j : Nat) : Rat := gt hi j - gt lo j
theorem sm_gn (c : Cr n lo hi) {j : Nat} (h : j < n) : Sm 9 (gn lo hi j) := (sm_getD c.sh j (by rw [c.lh]; exact h)).sub (sm_getD c.sl j (by rw [c.ll]; exact h))
theorem gain_of (k : Nat) (c : Cr n lo hi) (j : Nat) (h : j < n) : Rk (k + 4) i_gain_of [.d (crowd n lo hi), di j] = .ok (.d (fr (gn lo hi j)), none) := by
  rw [r_gain_of]
  have e := less_fr k (sm_getD c.sh j (by rw [c.lh]; exact h)) (sm_getD c.sl j (by rw [c.ll]; exact h)) (by omega)
  simp [b_gain_of, ME.pu, ME.pus, got_by0 (k + 2) c j h, got_by1 (k + 2) c j h, e, CT.atom, gn]
/-- the potential -/
def pot (g : Nat → Rat) : Nat → Rat
  | 0 => 0
  | j + 1 => pot g j + g j
theorem sm0 : Sm 1 (0 : Rat) := ⟨by decide, by decide⟩
theorem sm_pot (c : Cr n lo hi) : ∀ j, j ≤ n → Sm (10 * j + 1) (pot (gn lo hi) j)
  | 0, _ => sm0
  | j + 1, h => (Sm.add (sm_pot c j (by omega)) (sm_gn c (by omega))).mono (by omega)
def potL (g : Nat → Rat) (m : Nat) : List D := (List.range m).map fun j => fr (pot g j)
theorem potL_len (g : Nat → Rat) (m : Nat) : (potL g m).length = m := by simp [potL]
theorem potL_succ (g : Nat → Rat) (m : Nat) : potL g (m + 1) = potL g m ++ [fr (pot g m)] := by simp [potL, List.range_succ]
theorem potL_last (g : Nat → Rat) (m : Nat) : CT.at (.l ((potL g (m + 1)).map .d)) (-1) = some (.d (fr (pot g m))) := by
  rw [at_ow_last _ (by rw [potL_succ]; simp)]
  simp [potL_succ]
theorem potL_get (g : Nat → Rat) (m j : Nat) (h : j < m) : CT.at (.l ((potL g m).map .d)) (j : Int) = some (.d (fr (pot g j))) := by
  rw [at_ow _ j (by rw [potL_len]; exact h)]
  simp [potL]
theorem goes_up (k : Nat) (c : Cr n lo hi) (j : Nat) : Rk (k + 5) i_goes_up [.d (crowd n lo hi), di j] = .ok (.d (.bl (decide (j < n ∧ 0 < gn lo hi j))), none) := by
  rw [r_goes_up]
  by_cases h : j < n
  · have h' : (j : Int) < n := by omega
    simp [b_goes_up, ME.pu, ME.pus, h, h', gain_of k c j h, CT.atom, num_pos]
  · have h' : ¬ (j : Int) < n := by omega
    simp [b_goes_up, ME.pu, ME.pus, h, h']
theorem goes_down (k : Nat) (c : Cr n lo hi) (j : Nat) (hj : j ≤ n) : Rk (k + 5) i_goes_down [.d (crowd n lo hi), di j] = .ok (.d (.bl (decide (0 < j ∧ gn lo hi (j - 1) < 0))), none) := by
  rw [r_goes_down]
  have h2 := c.n2
  by_cases h : 0 < j
  · have h' : (0 : Int) < j := by omega
    have e : (j : Int) - 1 = ((j - 1 : Nat) : Int) := by omega
    simp [b_goes_down, ME.pu, ME.pus, h, h', e, gain_of k c (j - 1) (by omega), CT.atom, num_neg']
  · have h' : ¬ (0 : Int) < j := by omega
    simp [b_goes_down, ME.pu, ME.pus, h, h']
/-- a count at rest -/
def rest (n : Nat) (g : Nat → Rat) (j : Nat) : Bool := !decide (j < n ∧ 0 < g j) && !decide (0 < j ∧ g (j - 1) < 0)
def restL (n : Nat) (g : Nat → Rat) : List D := ((List.range (n + 1)).filter (rest n g)).map fun (i : Nat) => D.int (i : Int)
theorem rests_at (k : Nat) (c : Cr n lo hi) (d0 : CT) (j : Nat) (hj : j < n + 1) : cbody (Rk (k + 5)) G [("count", 2)] c1_rests_by (.nm 2) q2_rests_by (.int (j : Int)) [some (.d (crowd n lo hi)), some d0, none] = .ok (if rest n (gn lo hi) j = true then [.d (.int j)] else [], [some (.d (crowd n lo hi)), some d0, none]) := by
  have u := goes_up k c j
  have d := goes_down k c j (by omega)
  unfold rest
  generalize decide (j < n ∧ 0 < gn lo hi j) = b1 at u
  generalize decide (0 < j ∧ gn lo hi (j - 1) < 0) = b2 at d
  cases b1
  · cases b2
    · simp [cbody, asgC, q2_rests_by, c1_rests_by, ME.pu, ME.pus, u, d, clr, CT.atom]
    · simp [cbody, asgC, q2_rests_by, ME.pu, ME.pus, u, d, clr, CT.atom]
  · simp [cbody, asgC, q2_rests_by, ME.pu, ME.pus, u, d, clr, CT.atom]
theorem rests_by (k : Nat) (c : Cr n lo hi) : Rk (k + 6) i_rests_by [.d (crowd n lo hi)] = .ok (.l ((restL n (gn lo hi)).map .d), none) := by
  rw [r_rests_by]
  have h8 := c.n8
  obtain ⟨d0, r, w⟩ := range_ok (n + 1) (by omega)
  have e := forE_filter (F := cbody (Rk (k + 5)) G [("count", 2)] c1_rests_by (.nm 2) q2_rests_by) (c := fun d => match d with | .int i => rest n (gn lo hi) i.toNat | _ => false) (g := id) (e := [some (.d (crowd n lo hi)), some (.d d0), none]) (xs := (List.range (n + 1)).map fun (i : Nat) => D.int (i : Int)) (by
    intro x hx
    obtain ⟨j, hj, rfl⟩ := List.mem_map.mp hx
    exact rests_at k c (.d d0) j (List.mem_range.mp hj))
  have hl : (List.filter (rest n (gn lo hi)) (List.range (n + 1))).length ≤ lmax := by
    refine Nat.le_trans (List.length_filter_le ..) ?_
    rw [List.length_range]; show n + 1 ≤ 1000000; omega
  rw [List.map_id, List.filter_map] at e
  have fe : ((fun d => match d with | D.int i => rest n (gn lo hi) i.toNat | _ => false) ∘ fun (i : Nat) => D.int (i : Int)) = rest n (gn lo hi) := by
    funext i; simp
  rw [fe] at e
  push_cast at r
  simp [-List.map_map, b_rests_by, ME.pu, ME.pus, r, w, e, clr, back, dOnly, hl, restL]
theorem rest_counts (k : Nat) (c : Cr n lo hi) : Rk (k + 7) i_rest_counts [.d (crowd n lo hi)] = .ok (.l ((restL n (gn lo hi)).map .d), none) := by
  rw [r_rest_counts]
  simp [-List.map_map, b_rest_counts, ME.pu, ME.pus, check_crowd (k + 1) c, rests_by k c, CT.atom]
end
end Pl

set_option maxRecDepth 100000
/-! What the law draws. -/
namespace Pl
open PySem PV PV.PE Tb
theorem frs_of {m : Nat} : ∀ {ys : List D}, (∀ y ∈ ys, ∃ q : Rat, Sm m q ∧ y = fr q) → ∃ qs : List Rat, ys = qs.map fr ∧ ∀ q ∈ qs, Sm m q
  | [], _ => ⟨[], rfl, fun _ h => by cases h⟩
  | y :: r, h => by
    obtain ⟨q, hq, rfl⟩ := h y List.mem_cons_self
    obtain ⟨qs, rfl, hs⟩ := frs_of (ys := r) fun z hz => h z (List.mem_cons_of_mem _ hz)
    exact ⟨q :: qs, rfl, fun x hx => by
      rcases List.mem_cons.mp hx with rfl | hx
      · exact hq
      · exact hs x hx⟩
theorem law_pick (k m : Nat) {g : CT} (hg : IsG m g) (hm : m < 2 ^ 28) (ds : List D) (h : 1 ≤ ds.length) (h2 : ds.length < 2 ^ 20) : ∃ (d : D) (g' : CT), d ∈ ds ∧ IsG (m + 1) g' ∧ Rk (k + 3) i__law_pick [g, .d (.lst ds)] = .ok (.d d, some g') := by
  obtain ⟨r, g1, hr, i1, e1⟩ := law_random k m (ds.length : Nat) hg ⟨by omega, by omega⟩ (by omega)
  obtain ⟨j, rfl⟩ := Int.eq_ofNat_of_zero_le hr.1
  have hj : j < ds.length := by omega
  refine ⟨ds[j], g1, List.getElem_mem hj, i1, ?_⟩
  rw [r__law_pick]
  simp [b__law_pick, ME.pu, ME.pus, e1, at_lst ds j hj]
theorem draw_row {F : D → PV.Env → Res (List CT × PV.Env)} {E : CT → PV.Env} {m0 n : Nat} {g : CT} (hg : IsG m0 g) (hF : ∀ (x : D) (j : Nat) (g : CT), j < n → IsG (m0 + 2 * j) g → ∃ (q : Rat) (g' : CT), Sm 4 q ∧ IsG (m0 + 2 * (j + 1)) g' ∧ F x (E g) = .ok ([.d (fr q)], E g')) : ∃ (qs : List Rat) (g' : CT), forE F ((List.range n).map fun (i : Nat) => D.int (i : Int)) (E g) = .ok ((qs.map fr).map .d, E g') ∧ qs.length = n ∧ (∀ q ∈ qs, Sm 4 q) ∧ IsG (m0 + 2 * n) g' := by
  have gen : ∀ (xs : List D) (j : Nat) (g : CT), j + xs.length ≤ n → IsG (m0 + 2 * j) g → ∃ (qs : List Rat) (g' : CT), forE F xs (E g) = .ok ((qs.map fr).map .d, E g') ∧ qs.length = xs.length ∧ (∀ q ∈ qs, Sm 4 q) ∧ IsG (m0 + 2 * (j + xs.length)) g' := by
    intro xs
    induction xs with
    | nil => intro j g _ h; exact ⟨[], g, rfl, rfl, fun _ h => (by cases h), h⟩
    | cons x r ih =>
      intro j g hj h
      rw [List.length_cons] at hj
      obtain ⟨q, g1, s1, i1, e1⟩ := hF x j g (by omega) h
      obtain ⟨qs, g2, e2, l2, s2, i2⟩ := ih (j + 1) g1 (by omega) i1
      refine ⟨q :: qs, g2, ?_, by simp [l2], ?_, ?_⟩
      · rw [forE, e1, bd_ok, e2]; rfl
      · intro z hz
        rcases List.mem_cons.mp hz with rfl | hz
        · exact s1
        · exact s2 z hz
      · rw [List.length_cons, show j + (r.length + 1) = j + 1 + r.length by omega]; exact i2
  obtain ⟨qs, g', a, b, c, d⟩ := gen ((List.range n).map fun (i : Nat) => D.int (i : Int)) 0 g (by simp) hg
  rw [List.length_map, List.length_range] at b d
  exact ⟨qs, g', a, b, c, by rw [Nat.zero_add] at d; exact d⟩
theorem law_crowd (k m : Nat) {g : CT} (hg : IsG m g) (hm : m < 2 ^ 20) : ∃ (n : Nat) (lo hi : List Rat) (g' : CT), Cr n lo hi ∧ IsG (m + 40) g' ∧ Rk (k + 4) i__law_crowd [g, di 8] = .ok (.d (crowd n lo hi), some g') := by
  obtain ⟨r1, g1, h1, i1, e1⟩ := law_random (k + 1) m 7 hg ⟨by omega, by omega⟩ (by omega)
  obtain ⟨r2, g2, h2, i2, e2⟩ := law_random (k + 1) (m + 1) 3 i1 ⟨by omega, by omega⟩ (by omega)
  obtain ⟨n, hn⟩ := Int.eq_ofNat_of_zero_le (show 0 ≤ 2 + r1 by omega)
  have hn8 : n ≤ 8 := by omega
  have lm : n ≤ lmax := by show n ≤ 1000000; omega
  have rg := rgf_nat n (by omega)
  rw [r__law_crowd]
  by_cases z : r2 = 0
  · obtain ⟨c1, m1, m2, m3⟩ : ∃ c : CT, opf .mul (.l [.d (.tup [.int 0, .int 1])]) (di n) = some c ∧ c.frz = frs (List.replicate n 0) ∧ True := by
      refine ⟨_, op_mul_lst (a := .l [.d (fr 0)]) (xs := [fr 0]) (k := n) rfl (by simp; omega) (by omega), ?_, trivial⟩
      rw [frz_ow]
      have h : ∀ n, (List.replicate n [fr 0]).flatten = (List.replicate n (0 : Rat)).map fr := by
        intro n
        induction n with
        | zero => rfl
        | succ n ih => rw [List.replicate_succ, List.flatten_cons, ih, List.replicate_succ]; rfl
      exact congrArg D.lst (h n)
    obtain ⟨qs, g3, a1, a2, a3, a4⟩ := draw_row (F := cbody (Rk (k + 3)) G [("others", 4)] c1__law_crowd (.nm 4) []) (E := fun g => [some g, some (di 8), some (di n), some (.d (frs (List.replicate n 0))), none]) (n := n) i2 (by
      intro x j g _ hg
      obtain ⟨d, g', hd, hg', e⟩ := law_pick k _ hg (by omega) [fr 1, fr (-1), fr 0] (by simp) (by simp)
      have : ∃ q : Rat, Sm 4 q ∧ d = fr q := by
        simp only [List.mem_cons, List.not_mem_nil, or_false] at hd
        rcases hd with rfl | rfl | rfl
        · exact ⟨1, ⟨by decide, by decide⟩, rfl⟩
        · exact ⟨-1, ⟨by decide, by decide⟩, rfl⟩
        · exact ⟨0, ⟨by decide, by decide⟩, rfl⟩
      obtain ⟨q, hq, rfl⟩ := this
      refine ⟨q, g', hq, hg'.mono (by omega), ?_⟩
      have e' : Rk (k + 3) i__law_pick [g, .d (.lst [.tup [.int 1, .int 1], .tup [.int (-1), .int 1], .tup [.int 0, .int 1]])] = .ok (.d (fr q), some g') := e
      have f3 : (CT.l [.d (.tup [.int 1, .int 1]), .d (.tup [.int (-1), .int 1]), .d (.tup [.int 0, .int 1])]).frz = .lst [.tup [.int 1, .int 1], .tup [.int (-1), .int 1], .tup [.int 0, .int 1]] := frz_ow [.tup [.int 1, .int 1], .tup [.int (-1), .int 1], .tup [.int 0, .int 1]]
      simp [cbody, asgC, c1__law_crowd, ME.pu, ME.pus, clr, e', f3])
    rw [z] at e2
    refine ⟨n, List.replicate n 0, qs, g3, ⟨by omega, hn8, by simp, a2, fun q hq => by rw [List.eq_of_mem_replicate hq]; exact ⟨by decide, by decide⟩, a3⟩, a4.mono (by omega), ?_⟩
    have lq : qs.length ≤ lmax := by rw [a2]; exact lm
    simp [-List.map_map, b__law_crowd, ME.pu, ME.pus, e1, e2, hn, m1, m2, rg, clr, a1, back, dOnly, lq]
    rfl
  · obtain ⟨q1, g3, a1, a2, a3, a4⟩ := draw_row (F := cbody (Rk (k + 3)) G [("others", 4)] c2__law_crowd (.nm 4) []) (E := fun g => [some g, some (di 8), some (di n), none, none]) (n := n) i2 (by
      intro x j g _ hg
      obtain ⟨q, g', hq, hg', e⟩ := law_number_fr k _ hg (by omega)
      refine ⟨q, g', hq, hg'.mono (by omega), ?_⟩
      simp [cbody, asgC, c2__law_crowd, ME.pu, ME.pus, clr, e])
    obtain ⟨q2, g4, b1, b2, b3, b4⟩ := draw_row (F := cbody (Rk (k + 3)) G [("others", 4)] c3__law_crowd (.nm 4) []) (E := fun g => [some g, some (di 8), some (di n), none, none]) (n := n) a4 (by
      intro x j g _ hg
      obtain ⟨q, g', hq, hg', e⟩ := law_number_fr k _ hg (by omega)
      refine ⟨q, g', hq, hg'.mono (by omega), ?_⟩
      simp [cbody, asgC, c3__law_crowd, ME.pu, ME.pus, clr, e])
    refine ⟨n, q1, q2, g4, ⟨by omega, hn8, a2, b2, a3, b3⟩, b4.mono (by omega), ?_⟩
    have l1 : q1.length ≤ lmax := by rw [a2]; exact lm
    have l2 : q2.length ≤ lmax := by rw [b2]; exact lm
    simp [-List.map_map, b__law_crowd, ME.pu, ME.pus, e1, e2, hn, z, rg, clr, a1, b1, back, dOnly, l1, l2]
    rfl
end Pl

set_option maxRecDepth 100000
/-! What all get together; the best count. -/
namespace Pl
open PySem PV PV.PE Tb
section
variable {n : Nat} {lo hi : List Rat}
theorem law_over_fr (k : Nat) {p q : Rat} {n m : Nat} (hp : Sm n p) (hq : Sm m q) (h0 : 0 < q) (h : n + m < 8000) : Rk (k + 2) i__law_over [.d (fr p), .d (fr q)] = .ok (.d (fr (p / q)), none) := by
  rw [r__law_over]
  obtain ⟨m1, m2, m3, m4⟩ := hp.numOk hq (by omega)
  have a := num_lt hp hq
  have b := num_lt hq hp
  have hn := (num_pos q).mpr h0
  have e := law_lowest_pos k (p.num * q.den) (p.den * q.num) (n := n + m + 1) (Int.mul_pos (by have := p.den_pos; omega) hn) (by rw [Nat.pow_succ]; omega) (by rw [Int.mul_comm, Nat.pow_succ]; rw [Nat.add_comm m n] at b; omega) (by omega)
  rw [rat_div] at e
  simp [b__law_over, ME.pu, ME.pus, op_mul, m2, m3, e, CT.atom]
theorem over_fr (k : Nat) {p q : Rat} {n m : Nat} (hp : Sm n p) (hq : Sm m q) (h0 : 0 < q) (h : n + m < 8000) : Rk (k + 3) i_over [.d (fr p), .d (fr q)] = .ok (.d (fr (p / q)), none) := by
  rw [r_over]
  obtain ⟨m1, m2, m3, m4⟩ := hp.numOk hq (by omega)
  have a := num_lt hp hq
  have b := num_lt hq hp
  have hn := (num_pos q).mpr h0
  have e := lowest_pos k (p.num * q.den) (p.den * q.num) (n := n + m + 1) (Int.mul_pos (by have := p.den_pos; omega) hn) (by rw [Nat.pow_succ]; omega) (by rw [Int.mul_comm, Nat.pow_succ]; rw [Nat.add_comm m n] at b; omega) (by omega)
  rw [rat_div] at e
  simp [b_over, ME.pu, ME.pus, op_mul, m2, m3, e, CT.atom]
theorem is_less_fr (k : Nat) {p q : Rat} {n m : Nat} (hp : Sm n p) (hq : Sm m q) (h : n + m < 8000) : Rk (k + 1) i_is_less [.d (fr p), .d (fr q)] = .ok (.d (.bl (decide (p < q))), none) := by
  rw [r_is_less]
  obtain ⟨m1, m2, m3, m4⟩ := hp.numOk hq (by omega)
  obtain ⟨m1', m2', m3', m4'⟩ := hq.numOk hp (by omega)
  simp [b_is_less, ME.pu, ME.pus, op_mul, m2, m2', lt_num]
/-- what all get together -/
def sm (n : Nat) (lo hi : List Rat) (c : Nat) : Rat := (if 0 < c then (c : Rat) * gt hi (c - 1) else 0) + (if c < n then ((n - c : Nat) : Rat) * gt lo c else 0)
theorem fr_nat (c : Nat) : fr (c : Rat) = .tup [.int c, .int 1] := rfl
theorem sm_nat {c : Nat} (h : c ≤ 8) : Sm 4 (c : Rat) := ⟨by show (Int.natAbs (c : Int)) < 2 ^ 4; omega, by show 1 < 2 ^ 4; decide⟩
theorem sm_sm (c : Cr n lo hi) {j : Nat} (hj : j ≤ n) : Sm 20 (sm n lo hi j) := by
  have h8 := c.n8
  unfold sm
  have a : Sm 8 (if 0 < j then (j : Rat) * gt hi (j - 1) else 0) := by
    split
    · exact (sm_nat (by omega)).mul (sm_getD c.sh (j - 1) (by rw [c.lh]; omega))
    · exact sm0.mono (by omega)
  have b : Sm 8 (if j < n then ((n - j : Nat) : Rat) * gt lo j else 0) := by
    split
    · exact (sm_nat (by omega)).mul (sm_getD c.sl j (by rw [c.ll]; omega))
    · exact sm0.mono (by omega)
  exact (a.add b).mono (by omega)
@[simp] theorem crowd_parts : CT.tparts (.d (crowd n lo hi)) = some [.d (.str "crowd"), di n, .d (frs lo), .d (frs hi)] := (rfl)
theorem sum_by (k : Nat) (c : Cr n lo hi) (j : Nat) (hj : j ≤ n) : Rk (k + 4) i_sum_by [.d (crowd n lo hi), di j] = .ok (.d (fr (sm n lo hi j)), none) := by
  have h8 := c.n8
  have h2 := c.n2
  rw [r_sum_by]
  have t1 : 0 < j → Rk (k + 3) i_times [.d (.tup [.int j, .int 1]), .d (fr (gt hi (j - 1)))] = .ok (.d (fr ((j : Rat) * gt hi (j - 1))), none) := fun h => by
    have z := times_fr k (sm_nat (c := j) (by omega)) (sm_getD c.sh (j - 1) (by rw [c.lh]; omega)) (by omega)
    rw [fr_nat] at z
    exact z
  have t2 : j < n → Rk (k + 3) i_times [.d (.tup [.int ((n : Int) - j), .int 1]), .d (fr (gt lo j))] = .ok (.d (fr (((n - j : Nat) : Rat) * gt lo j)), none) := fun h => by
    have e : ((n : Int) - j) = ((n - j : Nat) : Int) := by omega
    rw [e]
    have z := times_fr k (sm_nat (c := n - j) (by omega)) (sm_getD c.sl j (by rw [c.ll]; exact h)) (by omega)
    rw [fr_nat] at z
    exact z
  have g1 : 0 < j → Rk (k + 3) i_got_by [.d (crowd n lo hi), di 1, di ((j : Int) - 1)] = .ok (.d (fr (gt hi (j - 1))), none) := fun h => by
    have e : ((j : Int) - 1) = ((j - 1 : Nat) : Int) := by omega
    rw [e]
    exact got_by1 (k + 2) c (j - 1) (by omega)
  have g0 : j < n → Rk (k + 3) i_got_by [.d (crowd n lo hi), di 0, di j] = .ok (.d (fr (gt lo j)), none) := fun h => got_by0 (k + 2) c j h
  have s1 : 0 < j → Sm 8 ((j : Rat) * gt hi (j - 1)) := fun h => (sm_nat (by omega)).mul (sm_getD c.sh (j - 1) (by rw [c.lh]; omega))
  have s2 : j < n → Sm 8 (((n - j : Nat) : Rat) * gt lo j) := fun h => (sm_nat (by omega)).mul (sm_getD c.sl j (by rw [c.ll]; exact h))
  by_cases a : 0 < j <;> by_cases b : j < n
  · have p := plus_fr k (s1 a) (s2 b) (by omega)
    have e : sm n lo hi j = (j : Rat) * gt hi (j - 1) + ((n - j : Nat) : Rat) * gt lo j := by unfold sm; rw [if_pos a, if_pos b]
    have a' : (0 : Int) < j := by omega
    have b' : (j : Int) < n := by omega
    simp [b_sum_by, ME.pu, ME.pus, a, b, a', b', t1 a, t2 b, g1 a, g0 b, p, e, CT.atom]
  · have e : sm n lo hi j = (j : Rat) * gt hi (j - 1) := by unfold sm; rw [if_pos a, if_neg b]; grind
    have a' : (0 : Int) < j := by omega
    have b' : ¬ (j : Int) < n := by omega
    simp [b_sum_by, ME.pu, ME.pus, a, b, a', b', t1 a, g1 a, e, CT.atom]
  · have p := plus_fr k (Pl.sm0) (s2 b) (by omega)
    have e : sm n lo hi j = 0 + ((n - j : Nat) : Rat) * gt lo j := by unfold sm; rw [if_neg a, if_pos b]
    have p : Rk (k + 3) i_plus [.d (.tup [.int 0, .int 1]), .d (fr (((n - j : Nat) : Rat) * gt lo j))] = .ok (.d (fr (0 + ((n - j : Nat) : Rat) * gt lo j)), none) := p
    have a' : ¬ (0 : Int) < j := by omega
    have b' : (j : Int) < n := by omega
    simp only [e]
    simp [b_sum_by, ME.pu, ME.pus, a, b, a', b', t2 b, g0 b, p, CT.atom, -Rat.zero_add]
  · omega
theorem fold_rep (x : Rat) : ∀ (k : Nat) (a : Rat), (List.replicate k x).foldl (· + ·) a = a + (k : Rat) * x
  | 0, a => by simp; grind
  | k + 1, a => by
    rw [List.replicate_succ, List.foldl_cons, fold_rep x k]
    push_cast
    grind
theorem summed_loop (k m : Nat) (A : CT) : ∀ (qs : List Rat) (a : Rat) (b : Nat) (x : Option CT), Sm b a → (∀ q ∈ qs, Sm m q) → b + qs.length * (m + 1) < 4000 → ∃ x', forS (fbody (Rk (k + 2)) G W (.nm 2) l1__law_summed) (qs.map fr) [some A, some (.d (fr a)), x] = .nx [some A, some (.d (fr (qs.foldl (· + ·) a))), x']
  | [], a, b, x, _, _, _ => ⟨x, rfl⟩
  | q :: r, a, b, x, ha, hq, hb => by
    have sq := hq q List.mem_cons_self
    rw [List.length_cons, Nat.succ_mul] at hb
    have p := law_plus_fr k ha sq (by omega)
    obtain ⟨x', e⟩ := summed_loop k m A r (a + q) (b + m + 1) (some (.d (fr q))) (ha.add sq) (fun z h => hq z (List.mem_cons_of_mem _ h)) (by omega)
    refine ⟨x', ?_⟩
    have s1 : fbody (Rk (k + 2)) G W (.nm 2) l1__law_summed (fr q) [some A, some (.d (fr a)), x] = .nx [some A, some (.d (fr (a + q))), some (.d (fr q))] := by
      simp [fbody, asgC, l1__law_summed, ME.pu, ME.pus, p, CT.atom]
    rw [List.map_cons, forS, s1, go_nx, e]
    rfl
theorem law_summed (k m : Nat) {qs : List Rat} (hq : ∀ q ∈ qs, Sm m q) (hb : qs.length * (m + 1) < 3990) : Rk (k + 3) i__law_summed [.d (frs qs)] = .ok (.d (fr (qs.foldl (· + ·) 0)), none) := by
  rw [r__law_summed]
  obtain ⟨x', e⟩ := summed_loop k m (.d (frs qs)) qs 0 1 none Pl.sm0 hq (by omega)
  have e : forS (fbody (Rk (k + 2)) G W (.nm 2) l1__law_summed) (qs.map fr) [some (.d (frs qs)), some (.d (.tup [.int 0, .int 1])), none] = _ := e
  have w : CT.walk (.d (frs qs)) = some (qs.map fr) := rfl
  simp [-List.map_map, b__law_summed, ME.pu, ME.pus, w, e]
theorem at_last (qs : List Rat) (h : qs ≠ []) : ∃ d, CT.at (.d (frs qs)) (-1) = some (.d d) := by
  have e := atI_last (qs.map fr) (by simpa using h)
  exact ⟨_, by show (L2.atI (qs.map fr) (-1)).map CT.d = _; rw [e]; rfl⟩
theorem flat_rep (d : D) : ∀ k, (List.replicate k [d]).flatten = List.replicate k d
  | 0 => rfl
  | k + 1 => by rw [List.replicate_succ, List.flatten_cons, flat_rep d k, List.replicate_succ]; rfl
theorem law_sum (k : Nat) (c : Cr n lo hi) (j : Nat) (hj : j ≤ n) : Rk (k + 4) i__law_sum [.d (crowd n lo hi), di j] = .ok (.d (fr (sm n lo hi j)), none) := by
  have h8 := c.n8
  have h2 := c.n2
  rw [r__law_sum]
  -- what is looked up first
  obtain ⟨d1, x1, hx1⟩ : ∃ d1, CT.at (.d (frs hi)) ((j : Int) - 1) = some (.d d1) ∧ (0 < j → d1 = fr (gt hi (j - 1))) := by
    by_cases a : 0 < j
    · have e : ((j : Int) - 1) = ((j - 1 : Nat) : Int) := by omega
      exact ⟨_, by rw [e]; exact frs_at hi (j - 1) (by rw [c.lh]; omega), fun _ => rfl⟩
    · obtain ⟨d, e⟩ := at_last hi (fun z => by have := c.lh; rw [z] at this; simp at this; omega)
      have e0 : ((j : Int) - 1) = -1 := by omega
      exact ⟨d, by rw [e0]; exact e, fun h => absurd h a⟩
  have m1 := op_mul_lst (a := .l [.d d1]) (xs := [d1]) (k := j) rfl (by simp; omega) (by omega)
  rw [flat_rep] at m1
  have L1 : List.replicate j d1 = (List.replicate j (gt hi (j - 1))).map fr := by
    rw [List.map_replicate]
    by_cases a : 0 < j
    · rw [hx1 a]
    · rw [show j = 0 by omega]; rfl
  rw [L1] at m1
  by_cases b : j < n
  · have b' : (j : Int) < n := by omega
    have e : ((n : Int) - j) = ((n - j : Nat) : Int) := by omega
    have m2 := op_mul_lst (a := .l [.d (fr (gt lo j))]) (xs := [fr (gt lo j)]) (k := n - j) rfl (by simp; omega) (by omega)
    rw [flat_rep, ← List.map_replicate (f := fr), ← e] at m2
    have ad := op_add_lst (a := .l (((List.replicate j (gt hi (j - 1))).map fr).map .d)) (b := .l (((List.replicate (n - j) (gt lo j)).map fr).map .d)) (lels_ow _) (lels_ow _) (by simp; omega)
    rw [← List.map_append] at ad
    have su := law_summed k 4 (qs := List.replicate j (gt hi (j - 1)) ++ List.replicate (n - j) (gt lo j)) (fun q hq => by
      rcases List.mem_append.mp hq with h | h
      · obtain ⟨h0, rfl⟩ := List.mem_replicate.mp h
        exact sm_getD c.sh (j - 1) (by rw [c.lh]; omega)
      · rw [List.eq_of_mem_replicate h]
        exact sm_getD c.sl j (by rw [c.ll]; exact b)) (by simp; omega)
    have ev : (List.replicate j (gt hi (j - 1)) ++ List.replicate (n - j) (gt lo j)).foldl (· + ·) 0 = sm n lo hi j := by
      rw [List.foldl_append, fold_rep, fold_rep]
      unfold sm
      rw [if_pos b]
      by_cases a : 0 < j
      · rw [if_pos a]; grind
      · rw [if_neg a, show j = 0 by omega]; simp; grind
    rw [ev] at su
    generalize (List.replicate j (gt hi (j - 1)) ++ List.replicate (n - j) (gt lo j)) = QS at ad su
    generalize (List.replicate j (gt hi (j - 1))) = Q1 at m1 ad
    generalize (List.replicate (n - j) (gt lo j)) = Q2 at m2 ad
    have fz : D.lst (QS.map fr) = frs QS := rfl
    simp [-List.map_map, b__law_sum, ME.pu, ME.pus, asgC, asgCs, x1, m1, b, b', frs_at lo j (by rw [c.ll]; exact b), m2, ad, fz, su, CT.atom]
  · have b' : ¬ (j : Int) < n := by omega
    have ad := op_add_lst (a := .l (((List.replicate j (gt hi (j - 1))).map fr).map .d)) (b := .l []) (lels_ow _) (ys := []) rfl (by simp; omega)
    rw [List.append_nil] at ad
    have su := law_summed k 4 (qs := List.replicate j (gt hi (j - 1))) (fun q hq => by
      obtain ⟨h0, rfl⟩ := List.mem_replicate.mp hq
      exact sm_getD c.sh (j - 1) (by rw [c.lh]; omega)) (by simp; omega)
    have ev : (List.replicate j (gt hi (j - 1))).foldl (· + ·) 0 = sm n lo hi j := by
      rw [fold_rep]
      unfold sm
      rw [if_neg b]
      by_cases a : 0 < j
      · rw [if_pos a]; grind
      · omega
    rw [ev] at su
    generalize (List.replicate j (gt hi (j - 1))) = Q1 at m1 ad su
    have fz : D.lst (Q1.map fr) = frs Q1 := rfl
    simp [-List.map_map, b__law_sum, ME.pu, ME.pus, asgC, asgCs, x1, m1, b, b', ad, fz, su, CT.atom]
end
end Pl

set_option maxRecDepth 100000
/-! The best count; shares. -/
namespace Pl
open PySem PV PV.PE Tb
section
variable {n : Nat} {lo hi : List Rat}
/-- the first best one of the counts up to i, and what all get -/
def bst (s : Nat → Rat) : Nat → Nat × Rat
  | 0 => (0, s 0)
  | i + 1 => if (bst s i).2 < s (i + 1) then (i + 1, s (i + 1)) else bst s i
theorem bst_s (s : Nat → Rat) (i : Nat) : bst s (i + 1) = if (bst s i).2 < s (i + 1) then (i + 1, s (i + 1)) else bst s i := rfl
def bstD (p : Nat × Rat) : D := .tup [.int p.1, fr p.2]
@[simp] theorem bstD_at0 (p : Nat × Rat) : CT.at (.d (bstD p)) 0 = some (di p.1) := (rfl)
@[simp] theorem bstD_at1 (p : Nat × Rat) : CT.at (.d (bstD p)) 1 = some (.d (fr p.2)) := (rfl)
theorem bst_is (s : Nat → Rat) : ∀ i, ∃ j, j ≤ i ∧ bst s i = (j, s j)
  | 0 => ⟨0, Nat.le_refl _, rfl⟩
  | i + 1 => by
    obtain ⟨j, hj, e⟩ := bst_is s i
    rw [bst_s]
    split
    · exact ⟨i + 1, Nat.le_refl _, rfl⟩
    · exact ⟨j, by omega, e⟩
theorem bst_max (s : Nat → Rat) : ∀ i j, j ≤ i → s j ≤ (bst s i).2
  | 0, j, h => by rw [show j = 0 by omega]; exact Rat.le_refl
  | i + 1, j, h => by
    rw [bst_s]
    split
    · rename_i q
      by_cases e : j = i + 1
      · subst e; exact Rat.le_refl
      · have := bst_max s i j (by omega); grind
    · rename_i q
      by_cases e : j = i + 1
      · subst e; exact Rat.not_lt.mp q
      · exact bst_max s i j (by omega)
theorem bst_sm (c : Cr n lo hi) (i : Nat) (h : i ≤ n) : Sm 20 (bst (sm n lo hi) i).2 := by
  obtain ⟨j, hj, e⟩ := bst_is (sm n lo hi) i
  rw [e]
  exact sm_sm c (by omega)
theorem rgf_from1 (n : Nat) (h : n < 2 ^ 50) : rgf [di 1, di ((n : Int) + 1)] = some (.l (((List.range n).map fun (i : Nat) => D.int ((i : Int) + 1)).map .d)) := by
  have s : smallR ((n : Int) + 1) := ⟨by omega, by omega⟩
  have s1 : smallR 1 := ⟨by decide, by decide⟩
  show guardP (smallR 1 ∧ smallR ((n : Int) + 1)) (CT.l ((rngL 1 ((n : Int) + 1)).map .d)) = _
  unfold guardP
  rw [if_pos ⟨s1, s⟩]
  unfold rngL
  rw [show ((n : Int) + 1 - 1).toNat = n by omega]
  congr 3
  apply List.map_congr_left
  intro i _
  rw [Int.add_comm]
theorem best_by (k : Nat) (c : Cr n lo hi) : Rk (k + 5) i_best_by [.d (crowd n lo hi)] = .ok (.d (bstD (bst (sm n lo hi) n)), none) := by
  have h8 := c.n8
  rw [r_best_by]
  obtain ⟨e', h1, x, y, rfl⟩ := forS_nat (F := fbody (Rk (k + 4)) G W (.nm 2) l1_best_by) (n := n) (f := fun (i : Nat) => D.int ((i : Int) + 1)) (P := fun i e => ∃ x y, e = [some (.d (crowd n lo hi)), some (.d (bstD (bst (sm n lo hi) i))), x, y]) (e := [some (.d (crowd n lo hi)), some (.d (.tup [.int 0, fr (sm n lo hi 0)])), none, none]) ⟨none, none, rfl⟩ (by
    rintro i _ hi' ⟨x, y, rfl⟩
    have s := sum_by k c (i + 1) (by omega)
    push_cast at s
    have l := is_less_fr (k + 3) (bst_sm c i (by omega)) (sm_sm c (j := i + 1) (by omega)) (by omega)
    refine ⟨[some (.d (crowd n lo hi)), some (.d (bstD (bst (sm n lo hi) (i + 1)))), some (di ((i : Int) + 1)), some (.d (fr (sm n lo hi (i + 1))))], ?_, _, _, rfl⟩
    rw [bst_s]
    by_cases q : (bst (sm n lo hi) i).2 < sm n lo hi (i + 1)
    · rw [decide_eq_true q] at l
      rw [if_pos q]
      simp [fbody, asgC, l1_best_by, ME.pu, ME.pus, s, l, CT.atom]
      rfl
    · rw [decide_eq_false q] at l
      rw [if_neg q]
      simp [fbody, asgC, l1_best_by, ME.pu, ME.pus, s, l, CT.atom])
  have s0 := sum_by k c 0 (by omega)
  have rg := rgf_from1 n (by omega)
  have s0 : Rk (k + 4) i_sum_by [.d (crowd n lo hi), di 0] = .ok (.d (fr (sm n lo hi 0)), none) := s0
  simp [-List.map_map, b_best_by, ME.pu, ME.pus, s0, rg, h1, CT.atom]
theorem best_count (k : Nat) (c : Cr n lo hi) : Rk (k + 6) i_best_count [.d (crowd n lo hi)] = .ok (.d (bstD (bst (sm n lo hi) n)), none) := by
  rw [r_best_count]
  simp [b_best_count, ME.pu, ME.pus, check_crowd k c, best_by k c, CT.atom]
theorem law_best (k : Nat) (c : Cr n lo hi) : Rk (k + 5) i__law_best [.d (crowd n lo hi)] = .ok (.d (bstD (bst (sm n lo hi) n)), none) := by
  have h8 := c.n8
  rw [r__law_best]
  obtain ⟨e', h1, x, y, rfl⟩ := forS_nat (F := fbody (Rk (k + 4)) G W (.nm 2) l1__law_best) (n := n) (f := fun (i : Nat) => D.int ((i : Int) + 1)) (P := fun i e => ∃ x y, e = [some (.d (crowd n lo hi)), some (.d (bstD (bst (sm n lo hi) i))), x, y]) (e := [some (.d (crowd n lo hi)), some (.d (.tup [.int 0, fr (sm n lo hi 0)])), none, none]) ⟨none, none, rfl⟩ (by
    rintro i _ hi' ⟨x, y, rfl⟩
    have s := law_sum k c (i + 1) (by omega)
    push_cast at s
    have l := law_below_fr (k + 3) (bst_sm c i (by omega)) (sm_sm c (j := i + 1) (by omega)) (by omega)
    refine ⟨[some (.d (crowd n lo hi)), some (.d (bstD (bst (sm n lo hi) (i + 1)))), some (di ((i : Int) + 1)), some (.d (fr (sm n lo hi (i + 1))))], ?_, _, _, rfl⟩
    rw [bst_s]
    by_cases q : (bst (sm n lo hi) i).2 < sm n lo hi (i + 1)
    · rw [decide_eq_true q] at l
      rw [if_pos q]
      simp [fbody, asgC, l1__law_best, ME.pu, ME.pus, s, l, CT.atom]
      rfl
    · rw [decide_eq_false q] at l
      rw [if_neg q]
      simp [fbody, asgC, l1__law_best, ME.pu, ME.pus, s, l, CT.atom])
  have s0 : Rk (k + 4) i__law_sum [.d (crowd n lo hi), di 0] = .ok (.d (fr (sm n lo hi 0)), none) := law_sum k c 0 (by omega)
  have rg := rgf_from1 n (by omega)
  simp [-List.map_map, b__law_best, ME.pu, ME.pus, s0, rg, h1, CT.atom]
/-! the sums at rest -/
def restN (n : Nat) (g : Nat → Rat) : List Nat := (List.range (n + 1)).filter (rest n g)
theorem restL_nats (n : Nat) (g : Nat → Rat) : restL n g = (restN n g).map fun (i : Nat) => D.int (i : Int) := rfl
theorem restN_le {n : Nat} {g : Nat → Rat} {j : Nat} (h : j ∈ restN n g) : j ≤ n := by
  have := List.mem_range.mp (List.mem_filter.mp h).1
  omega
theorem restN_len (n : Nat) (g : Nat → Rat) : (restN n g).length ≤ n + 1 := by
  have := List.length_filter_le (rest n g) (List.range (n + 1))
  rw [List.length_range] at this
  exact this
theorem restN_ne (n : Nat) (g : Nat → Rat) : restN n g ≠ [] := by
  have up : ∀ j, rest n g j = true ↔ (¬ (j < n ∧ 0 < g j) ∧ ¬ (0 < j ∧ g (j - 1) < 0)) := fun j => by unfold rest; rw [Bool.and_eq_true]; simp only [Bool.not_eq_true', decide_eq_false_iff_not]
  have go : ∀ m j, j + m = n → (0 < j → ¬ g (j - 1) < 0) → ∃ i, i ≤ n ∧ rest n g i = true := by
    intro m
    induction m with
    | zero => intro j e h; exact ⟨j, by omega, (up j).mpr ⟨fun h => by omega, fun h0 => h h0.1 h0.2⟩⟩
    | succ m ih =>
      intro j e h
      by_cases q : 0 < g j
      · exact ih (j + 1) (by omega) fun _ => by rw [Nat.add_sub_cancel]; exact Rat.not_lt.mpr (Rat.le_of_lt q)
      · exact ⟨j, by omega, (up j).mpr ⟨fun h => q h.2, fun h0 => h h0.1 h0.2⟩⟩
  obtain ⟨i, hi, hr⟩ := go n 0 (by omega) (fun h => by omega)
  intro z
  have : i ∈ restN n g := List.mem_filter.mpr ⟨List.mem_range.mpr (by omega), hr⟩
  rw [z] at this
  cases this
theorem restN_iff {n : Nat} {g : Nat → Rat} {j : Nat} : j ∈ restN n g ↔ j ≤ n ∧ ¬ (j < n ∧ 0 < g j) ∧ ¬ (0 < j ∧ g (j - 1) < 0) := by
  unfold restN
  rw [List.mem_filter, List.mem_range]
  unfold rest
  rw [Bool.and_eq_true]
  simp only [Bool.not_eq_true', decide_eq_false_iff_not]
  constructor
  · rintro ⟨a, b⟩; exact ⟨by omega, b⟩
  · rintro ⟨a, b⟩; exact ⟨by omega, b⟩
def lowF (a x : Rat) : Rat := if x < a then x else a
def highF (a x : Rat) : Rat := if a < x then x else a
end
end Pl

set_option maxRecDepth 100000
/-! Shares of the best. -/
namespace Pl
open PySem PV PV.PE Tb
section
variable {n : Nat} {lo hi : List Rat}
theorem fold_all {P : Rat → Prop} {F : Rat → Rat → Rat} (hF : ∀ a b, F a b = a ∨ F a b = b) : ∀ (r : List Rat) (a : Rat), P a → (∀ q ∈ r, P q) → P (r.foldl F a)
  | [], a, h, _ => h
  | q :: r, a, h, hq => by
    refine fold_all hF r (F a q) ?_ fun z hz => hq z (List.mem_cons_of_mem _ hz)
    rcases hF a q with e | e
    · rw [e]; exact h
    · rw [e]; exact hq q List.mem_cons_self
theorem lowF_or (a b : Rat) : lowF a b = a ∨ lowF a b = b := by unfold lowF; split <;> simp
theorem highF_or (a b : Rat) : highF a b = a ∨ highF a b = b := by unfold highF; split <;> simp
theorem lowF_self (a : Rat) : lowF a a = a := by unfold lowF; split <;> rfl
theorem highF_self (a : Rat) : highF a a = a := by unfold highF; split <;> rfl
/-- the sums at rest -/
def rs (n : Nat) (lo hi : List Rat) : List Rat := (restN n (gn lo hi)).map (sm n lo hi)
theorem rs_len (n : Nat) (lo hi : List Rat) : (rs n lo hi).length ≤ n + 1 := by unfold rs; rw [List.length_map]; exact restN_len _ _
theorem rs_ne (n : Nat) (lo hi : List Rat) : ∃ a r, rs n lo hi = a :: r := by
  have h := restN_ne n (gn lo hi)
  unfold rs
  cases e : restN n (gn lo hi) with
  | nil => exact absurd e h
  | cons x r => exact ⟨_, _, rfl⟩
theorem rs_all {P : Rat → Prop} (h : ∀ j ≤ n, P (sm n lo hi j)) : ∀ q ∈ rs n lo hi, P q := by
  intro q hq
  obtain ⟨j, hj, rfl⟩ := List.mem_map.mp hq
  exact h j (restN_le hj)
def lowR (n : Nat) (lo hi : List Rat) : Rat := match rs n lo hi with
  | [] => 0
  | a :: r => r.foldl lowF a
def highR (n : Nat) (lo hi : List Rat) : Rat := match rs n lo hi with
  | [] => 0
  | a :: r => r.foldl highF a
theorem lowR_all {P : Rat → Prop} (h : ∀ q ∈ rs n lo hi, P q) : P (lowR n lo hi) := by
  obtain ⟨a, r, e⟩ := rs_ne n lo hi
  unfold lowR
  rw [e] at h ⊢
  exact fold_all lowF_or r a (h a List.mem_cons_self) fun q hq => h q (List.mem_cons_of_mem _ hq)
theorem highR_all {P : Rat → Prop} (h : ∀ q ∈ rs n lo hi, P q) : P (highR n lo hi) := by
  obtain ⟨a, r, e⟩ := rs_ne n lo hi
  unfold highR
  rw [e] at h ⊢
  exact fold_all highF_or r a (h a List.mem_cons_self) fun q hq => h q (List.mem_cons_of_mem _ hq)
theorem rs_sm (c : Cr n lo hi) : ∀ q ∈ rs n lo hi, Sm 20 q := rs_all fun j hj => sm_sm c hj
/-- what all get at best -/
def B (n : Nat) (lo hi : List Rat) : Rat := (bst (sm n lo hi) n).2
theorem rs_le : ∀ q ∈ rs n lo hi, q ≤ B n lo hi := rs_all fun j hj => bst_max _ n j hj
def shD (n : Nat) (lo hi : List Rat) : D := .tup [fr (lowR n lo hi / B n lo hi), fr (highR n lo hi / B n lo hi)]
theorem share_loop (k : Nat) (A C0 C1 : CT) (C2 : Option CT) : ∀ (qs : List Rat) (a b : Rat) (x : Option CT), Sm 20 a → Sm 20 b → (∀ q ∈ qs, Sm 20 q) → ∃ x', forS (fbody (Rk (k + 1)) G W (.nm 6) l2_shares_of_best) (qs.map fr) [some A, some C0, some C1, C2, some (.d (fr a)), some (.d (fr b)), x] = .nx [some A, some C0, some C1, C2, some (.d (fr (qs.foldl lowF a))), some (.d (fr (qs.foldl highF b))), x']
  | [], a, b, x, _, _, _ => ⟨x, rfl⟩
  | q :: r, a, b, x, ha, hb, hq => by
    have sq := hq q List.mem_cons_self
    have l1 := is_less_fr k sq ha (by omega)
    have l2 := is_less_fr k hb sq (by omega)
    have sa : Sm 20 (lowF a q) := by rcases lowF_or a q with e | e <;> rw [e] <;> assumption
    have sb : Sm 20 (highF b q) := by rcases highF_or b q with e | e <;> rw [e] <;> assumption
    obtain ⟨x', e⟩ := share_loop k A C0 C1 C2 r (lowF a q) (highF b q) (some (.d (fr q))) sa sb (fun z h => hq z (List.mem_cons_of_mem _ h))
    refine ⟨x', ?_⟩
    have s1 : fbody (Rk (k + 1)) G W (.nm 6) l2_shares_of_best (fr q) [some A, some C0, some C1, C2, some (.d (fr a)), some (.d (fr b)), x] = .nx [some A, some C0, some C1, C2, some (.d (fr (lowF a q))), some (.d (fr (highF b q))), some (.d (fr q))] := by
      unfold lowF highF
      by_cases u : q < a <;> by_cases v : b < q <;> simp [fbody, asgC, l2_shares_of_best, ME.pu, ME.pus, l1, l2, u, v, CT.atom]
    rw [List.map_cons, forS, s1, go_nx, e]
    rfl
theorem law_loop (k : Nat) (A0 A1 A2 A3 A6 : CT) (A4 A5 A7 A11 : Option CT) : ∀ (qs : List Rat) (a b : Rat) (x : Option CT), Sm 20 a → Sm 20 b → (∀ q ∈ qs, Sm 20 q) → ∃ x', forS (fbody (Rk (k + 1)) G W (.nm 10) l2__law_right) (qs.map fr) [some A0, some A1, some A2, some A3, A4, A5, some A6, A7, some (.d (fr a)), some (.d (fr b)), x, A11] = .nx [some A0, some A1, some A2, some A3, A4, A5, some A6, A7, some (.d (fr (qs.foldl lowF a))), some (.d (fr (qs.foldl highF b))), x', A11]
  | [], a, b, x, _, _, _ => ⟨x, rfl⟩
  | q :: r, a, b, x, ha, hb, hq => by
    have sq := hq q List.mem_cons_self
    have l1 := law_below_fr k sq ha (by omega)
    have l2 := law_below_fr k hb sq (by omega)
    have sa : Sm 20 (lowF a q) := by rcases lowF_or a q with e | e <;> rw [e] <;> assumption
    have sb : Sm 20 (highF b q) := by rcases highF_or b q with e | e <;> rw [e] <;> assumption
    obtain ⟨x', e⟩ := law_loop k A0 A1 A2 A3 A6 A4 A5 A7 A11 r (lowF a q) (highF b q) (some (.d (fr q))) sa sb (fun z h => hq z (List.mem_cons_of_mem _ h))
    refine ⟨x', ?_⟩
    have s1 : fbody (Rk (k + 1)) G W (.nm 10) l2__law_right (fr q) [some A0, some A1, some A2, some A3, A4, A5, some A6, A7, some (.d (fr a)), some (.d (fr b)), x, A11] = .nx [some A0, some A1, some A2, some A3, A4, A5, some A6, A7, some (.d (fr (lowF a q))), some (.d (fr (highF b q))), some (.d (fr q)), A11] := by
      unfold lowF highF
      by_cases u : q < a <;> by_cases v : b < q <;> simp [fbody, asgC, l2__law_right, ME.pu, ME.pus, l1, l2, u, v, CT.atom, sets]
    rw [List.map_cons, forS, s1, go_nx, e]
    rfl
def smD (n : Nat) (lo hi : List Rat) : D → D
  | .int i => fr (sm n lo hi i.toNat)
  | _ => .non
theorem smD_map (n : Nat) (lo hi : List Rat) : (restL n (gn lo hi)).map (smD n lo hi) = (rs n lo hi).map fr := by
  rw [restL_nats]
  unfold rs
  rw [List.map_map, List.map_map]
  apply List.map_congr_left
  intro j _
  simp [smD]
theorem sums_at (k : Nat) (c : Cr n lo hi) (A1 : CT) (A2 A4 A5 A6 : Option CT) : forE (cbody (Rk (k + 4)) G [("count", 3)] c1_shares_of_best (.nm 3) []) (restL n (gn lo hi)) [some (.d (crowd n lo hi)), some A1, A2, none, A4, A5, A6] = .ok (((rs n lo hi).map fr).map .d, [some (.d (crowd n lo hi)), some A1, A2, none, A4, A5, A6]) := by
  have e := forE_map (F := cbody (Rk (k + 4)) G [("count", 3)] c1_shares_of_best (.nm 3) []) (g := smD n lo hi) (e := [some (.d (crowd n lo hi)), some A1, A2, none, A4, A5, A6]) (xs := restL n (gn lo hi)) (by
    intro x hx
    rw [restL_nats] at hx
    obtain ⟨j, hj, rfl⟩ := List.mem_map.mp hx
    have s := sum_by k c j (restN_le hj)
    simp [cbody, asgC, c1_shares_of_best, ME.pu, ME.pus, s, clr, smD])
  rw [e, smD_map]
theorem law_sums_at (k : Nat) (c : Cr n lo hi) (A1 A2 A3 : CT) (A4 A5 A6 A8 A9 A10 A11 : Option CT) : forE (cbody (Rk (k + 4)) G [("count", 7)] c1__law_right (.nm 7) []) (restL n (gn lo hi)) [some (.d (crowd n lo hi)), some A1, some A2, some A3, A4, A5, A6, none, A8, A9, A10, A11] = .ok (((rs n lo hi).map fr).map .d, [some (.d (crowd n lo hi)), some A1, some A2, some A3, A4, A5, A6, none, A8, A9, A10, A11]) := by
  have e := forE_map (F := cbody (Rk (k + 4)) G [("count", 7)] c1__law_right (.nm 7) []) (g := smD n lo hi) (e := [some (.d (crowd n lo hi)), some A1, some A2, some A3, A4, A5, A6, none, A8, A9, A10, A11]) (xs := restL n (gn lo hi)) (by
    intro x hx
    rw [restL_nats] at hx
    obtain ⟨j, hj, rfl⟩ := List.mem_map.mp hx
    have s := law_sum k c j (restN_le hj)
    simp [cbody, asgC, c1__law_right, ME.pu, ME.pus, s, clr, smD])
  rw [e, smD_map]
@[simp] theorem fin1_exc (b : Bool) (c : Str) (v : D) : fin1 b (.exc c v) = .exc c v := by cases b <;> rfl
@[simp] theorem SRes.go_exc (c : Str) (v : D) (f : PV.Env → SRes) : (SRes.exc c v).go f = .exc c v := (rfl)
theorem shares_bad (k : Nat) (c : Cr n lo hi) (hb : ¬ 0 < B n lo hi) : Rk (k + 6) i_shares_of_best [.d (crowd n lo hi)] = .exc "Unlike" (crowd n lo hi) := by
  rw [r_shares_of_best]
  have b := best_by k c
  have h : (B n lo hi).num ≤ 0 := by have z : ¬ 0 < (B n lo hi).num := fun x => hb ((num_pos (B n lo hi)).mp x); omega
  unfold B at h
  simp [b_shares_of_best, ME.pu, ME.pus, check_crowd k c, b, CT.atom, h]
theorem shares_ok (k : Nat) (c : Cr n lo hi) (hb : 0 < B n lo hi) : Rk (k + 7) i_shares_of_best [.d (crowd n lo hi)] = .ok (.d (shD n lo hi), none) := by
  rw [r_shares_of_best]
  have h8 := c.n8
  have b := best_by (k + 1) c
  have h : ¬ (bst (sm n lo hi) n).2.num ≤ 0 := by have := (num_pos (B n lo hi)).mpr hb; unfold B at this; omega
  obtain ⟨a, r, e⟩ := rs_ne n lo hi
  have sa := rs_sm c
  rw [e] at sa
  obtain ⟨x', fl⟩ := share_loop (k + 5) (.d (crowd n lo hi)) (.d (fr (B n lo hi))) (.l (((a :: r).map fr).map .d)) none r a a none (sa a List.mem_cons_self) (sa a List.mem_cons_self) fun q hq => sa q (List.mem_cons_of_mem _ hq)
  have rb := rests_by k c
  have sat := sums_at (k + 2) c (.d (fr (B n lo hi))) none none none none
  rw [e] at sat
  have la : lowR n lo hi = r.foldl lowF a := by unfold lowR; rw [e]
  have ha : highR n lo hi = r.foldl highF a := by unfold highR; rw [e]
  have sB : Sm 20 (B n lo hi) := bst_sm c n (Nat.le_refl _)
  have o1 := over_fr (k + 3) (lowR_all (rs_sm c)) sB hb (by omega)
  have o2 := over_fr (k + 3) (highR_all (rs_sm c)) sB hb (by omega)
  have ll := rs_len n lo hi
  rw [e] at ll
  have lm : ((a :: r).map fr).length ≤ lmax := by rw [List.length_map]; show _ ≤ 1000000; omega
  have sl : slcf (.l (((a :: r).map fr).map .d)) (some 1) none = some (.l ((r.map fr).map .d)) := by
    have := slcf_lst (a := .l (((a :: r).map fr).map .d)) (xs := (a :: r).map fr) (lels_ow _) (some ((1 : Nat) : Int)) none
    rw [cutL_from] at this
    exact this
  have at0 : CT.at (.l (((a :: r).map fr).map .d)) 0 = some (.d (fr a)) := at_ow ((a :: r).map fr) 0 (by simp)
  have at0' : CT.at (.d (.lst ((a :: r).map fr))) 0 = some (.d (fr a)) := at_lst ((a :: r).map fr) 0 (by simp)
  have fz : (CT.l (((a :: r).map fr).map .d)).frz = .lst ((a :: r).map fr) := frz_ow _
  have w : CT.walk (.d (.lst (restL n (gn lo hi)))) = some (restL n (gn lo hi)) := rfl
  unfold shD
  rw [la] at o1 ⊢
  rw [ha] at o2 ⊢
  unfold B at *
  generalize hL : (a :: r).map fr = L at *
  simp [-List.map_map, b_shares_of_best, ME.pu, ME.pus, check_crowd (k + 1) c, b, CT.atom, h, rb, sat, clr, back, dOnly, lm, at0, at0', fz, sl, fl, sets, o1, o2]
end
end Pl

set_option maxRecDepth 100000
/-! One crowd is as the law asks. -/
namespace Pl
open PySem PV PV.PE Tb
section
variable {n : Nat} {lo hi : List Rat}
theorem crowd_fit (c : Cr n lo hi) : Fit 3 100 (crowd n lo hi) := by
  have h8 := c.n8
  have f : ∀ qs : List Rat, qs.length = n → (∀ q ∈ qs, Sm 4 q) → Fit 2 24 (frs qs) := fun qs hl hs =>
    Fit.lstOf (a := 1) (b := 2) (n := 8) (fun d hd => by
      obtain ⟨q, hq, rfl⟩ := List.mem_map.mp hd
      exact Fit.fr ((hs q hq).mono (by omega))) (by rw [List.length_map, hl]; exact h8)
  have fi : Fit 0 0 (.int (n : Int)) := Fit.int (by
    rw [Int.natAbs_natCast]
    exact Nat.lt_of_le_of_lt h8 (Nat.lt_of_lt_of_le (by decide : 8 < 2 ^ 4) (Nat.pow_le_pow_right (by decide) (by decide))))
  exact (Fits.cons (Fit.str (n := 5) (by decide +kernel) (by decide +kernel)) (.cons fi (.cons (f lo c.ll c.sl) (.cons (f hi c.lh c.sh) .nil)))).tup.mono (by decide) (by decide)
theorem sm_div {p q : Rat} {n m : Nat} (hp : Sm n p) (hq : Sm m q) (h0 : 0 < q) : Sm (n + m + 1) (p / q) := by
  have a := num_lt hp hq
  have b := num_lt hq hp
  have hn := (num_pos q).mpr h0
  rw [← rat_div]
  exact sm_divInt (n := n + m + 1) (m := n + m + 1) (Int.mul_pos (by have := p.den_pos; omega) hn) (by rw [Nat.pow_succ]; omega) (by rw [Int.mul_comm, Nat.pow_succ]; rw [Nat.add_comm m n] at b; omega) (Nat.le_refl _) (Nat.le_refl _)
theorem bst_fit (c : Cr n lo hi) : Fit 2 10 (bstD (bst (sm n lo hi) n)) := by
  have h8 := c.n8
  obtain ⟨j, hj, e⟩ := bst_is (sm n lo hi) n
  have s := bst_sm c n (Nat.le_refl _)
  rw [e] at s ⊢
  have fi : Fit 0 0 (.int (j : Int)) := Fit.int (by
    rw [Int.natAbs_natCast]
    exact Nat.lt_of_lt_of_le (show j < 2 ^ 4 by omega) (Nat.pow_le_pow_right (by decide) (by decide)))
  exact (Fits.cons fi (.cons (Fit.fr (s.mono (by omega))) .nil)).tup.mono (by decide) (by decide)
theorem B_sm (c : Cr n lo hi) : Sm 20 (B n lo hi) := bst_sm c n (Nat.le_refl _)
theorem sh_fit (c : Cr n lo hi) (hb : 0 < B n lo hi) : Fit 2 10 (shD n lo hi) :=
  (Fits.cons (Fit.fr ((sm_div (lowR_all (rs_sm c)) (B_sm c) hb).mono (by omega))) (.cons (Fit.fr ((sm_div (highR_all (rs_sm c)) (B_sm c) hb).mono (by omega))) .nil)).tup.mono (by decide) (by decide)
theorem two_fit {d : D} (h : Fit 2 10 d) : Fit 3 30 (.lst [d, d]) := (Fits.cons h (.cons h .nil)).lst.mono (by decide) (by decide)
theorem high_le (hb : 0 < B n lo hi) : ¬ 1 < highR n lo hi / B n lo hi := by
  have h := highR_all (P := fun q => q ≤ B n lo hi) rs_le
  rw [Rat.lt_div_iff hb]
  grind
@[simp] theorem op_isn_exn (c : Str) (v : D) : opf .isn (.d (.exn c v)) (.d .non) = some (.d (.bl true)) := (rfl)
theorem law_right_bad (k : Nat) (c : Cr n lo hi) (pl : Bool) (hb : ¬ 0 < B n lo hi) : Rk (k + 10) i__law_right [.d (crowd n lo hi), .d (.bl pl)] = .ok (.d (.bl true), none) := by
  rw [r__law_right]
  have rp := repr_ok (crowd_fit c) (by omega) (by omega)
  have rpe := (crowd_fit c).shownEq
  have lb := law_best (k + 4) c
  have bc := best_count (k + 3) c
  have sb := shares_bad (k + 3) c hb
  have s1 := law_same_refl (k + 5) 3 30 _ (two_fit (bst_fit c)) (by omega) (by omega)
  have h : (B n lo hi).num ≤ 0 := by have z : ¬ 0 < (B n lo hi).num := fun x => hb ((num_pos (B n lo hi)).mp x); omega
  unfold B at h
  have pm : perms [0] [CT.d (crowd n lo hi)] = [CT.d (crowd n lo hi)] := rfl
  have fz : (CT.l [.d (bstD (bst (sm n lo hi) n)), .d (bstD (bst (sm n lo hi) n))]).frz = .lst [bstD (bst (sm n lo hi) n), bstD (bst (sm n lo hi) n)] := frz_ow [_, _]
  have me : ("Unlike" : Str) ∈ errs := by simp [errs]
  simp [-List.map_map, b__law_right, ME.pu, ME.pus, rp, lb, bc, sb, sets, pm, fz, s1, CT.atom, h, dEnv, dOnly, xval, me, rpe]
theorem law_right_ok (k : Nat) (c : Cr n lo hi) (pl : Bool) (hb : 0 < B n lo hi) (hp : pl = true → lowR n lo hi / B n lo hi = 1) : Rk (k + 10) i__law_right [.d (crowd n lo hi), .d (.bl pl)] = .ok (.d (.bl true), none) := by
  rw [r__law_right]
  have h8 := c.n8
  have rp := repr_ok (crowd_fit c) (by omega) (by omega)
  have rpe := (crowd_fit c).shownEq
  have lb := law_best (k + 4) c
  have bc := best_count (k + 3) c
  have so := shares_ok (k + 2) c hb
  have s1 := law_same_refl (k + 5) 3 30 _ (two_fit (bst_fit c)) (by omega) (by omega)
  have s2 := law_same_refl (k + 5) 3 30 _ (two_fit (sh_fit c hb)) (by omega) (by omega)
  have h : ¬ (bst (sm n lo hi) n).2.num ≤ 0 := by have := (num_pos (B n lo hi)).mpr hb; unfold B at this; omega
  have pm : perms [0] [CT.d (crowd n lo hi)] = [CT.d (crowd n lo hi)] := rfl
  have fz : (CT.l [.d (bstD (bst (sm n lo hi) n)), .d (bstD (bst (sm n lo hi) n))]).frz = .lst [bstD (bst (sm n lo hi) n), bstD (bst (sm n lo hi) n)] := frz_ow [_, _]
  have fz2 : (CT.l [.d (shD n lo hi), .d (shD n lo hi)]).frz = .lst [shD n lo hi, shD n lo hi] := frz_ow [_, _]
  obtain ⟨a, r, e⟩ := rs_ne n lo hi
  have sa := rs_sm c
  rw [e] at sa
  have rc := rest_counts (k + 2) c
  have sat := law_sums_at (k + 5) c (.d (.bl pl)) (.d (.str (crowd n lo hi).py.shown)) (.d (bstD (bst (sm n lo hi) n))) none none none none none none none
  rw [e] at sat
  obtain ⟨x', fl⟩ := law_loop (k + 8) (.d (crowd n lo hi)) (.d (.bl pl)) (.d (.str (crowd n lo hi).py.shown)) (.d (bstD (bst (sm n lo hi) n))) (.d (.lst ((a :: r).map fr))) none none none none (a :: r) a a none (sa a List.mem_cons_self) (sa a List.mem_cons_self) sa
  have la : lowR n lo hi = (a :: r).foldl lowF a := by unfold lowR; rw [e, List.foldl_cons, lowF_self]
  have ha : highR n lo hi = (a :: r).foldl highF a := by unfold highR; rw [e, List.foldl_cons, highF_self]
  have o1 := law_over_fr (k + 7) (lowR_all (rs_sm c)) (B_sm c) hb (by omega)
  have o2 := law_over_fr (k + 7) (highR_all (rs_sm c)) (B_sm c) hb (by omega)
  have bl := law_below_fr (k + 8) (p := 1) (n := 1) ⟨by decide, by decide⟩ (sm_div (highR_all (rs_sm c)) (B_sm c) hb) (by omega)
  rw [decide_eq_false (high_le hb)] at bl
  have bl : Rk (k + 9) i__law_below [.d (.tup [.int 1, .int 1]), .d (fr (highR n lo hi / B n lo hi))] = _ := bl
  have ll := rs_len n lo hi
  rw [e] at ll
  have lm : ((a :: r).map fr).length ≤ lmax := by rw [List.length_map]; show _ ≤ 1000000; omega
  have at0 : CT.at (.l (((a :: r).map fr).map .d)) 0 = some (.d (fr a)) := at_ow ((a :: r).map fr) 0 (by simp)
  have w : CT.walk (.d (.lst (restL n (gn lo hi)))) = some (restL n (gn lo hi)) := rfl
  have w1 : CT.lels (.l (((a :: r).map fr).map .d)) = some ((a :: r).map fr) := lels_ow _
  have fzL : (CT.l (((a :: r).map fr).map .d)).frz = .lst ((a :: r).map fr) := frz_ow _
  have mk : D.tup [fr (lowR n lo hi / B n lo hi), fr (highR n lo hi / B n lo hi)] = shD n lo hi := rfl
  have sat0 : CT.at (.d (shD n lo hi)) 0 = some (.d (fr (lowR n lo hi / B n lo hi))) := rfl
  have sat1 : CT.at (.d (shD n lo hi)) 1 = some (.d (fr (highR n lo hi / B n lo hi))) := rfl
  have ne : pl = true → opf .ne (.d (fr (lowR n lo hi / B n lo hi))) (.d (.tup [.int 1, .int 1])) = some (.d (.bl false)) := fun z => by
    rw [hp z]
    exact op_ne_same (frz_d _) (frz_d _) (Fit.fr (q := 1) ⟨by decide, Nat.one_lt_two_pow (by decide)⟩) (by omega)
  rw [← la, ← ha] at fl
  generalize hL : (a :: r).map fr = L at *
  unfold B at *
  cases pl
  · simp [-List.map_map, b__law_right, ME.pu, ME.pus, rp, lb, bc, sets, pm, fz, s1, CT.atom, h, rc, sat, clr, back, dOnly, lm, at0, w1, fzL, fl, o1, o2, mk, so, fz2, s2, sat1, bl, rpe]
  · have ne := ne rfl
    simp [-List.map_map, b__law_right, ME.pu, ME.pus, rp, lb, bc, sets, pm, fz, s1, CT.atom, h, rc, sat, clr, back, dOnly, lm, at0, w1, fzL, fl, o1, o2, mk, so, fz2, s2, sat0, sat1, ne, bl, rpe]
end
end Pl

set_option maxRecDepth 100000
/-! The law. -/
namespace Pl
open PySem PV PV.PE Tb
theorem law_right (k : Nat) {n : Nat} {lo hi : List Rat} (c : Cr n lo hi) (pl : Bool) (hp : pl = true → 0 < B n lo hi → lowR n lo hi / B n lo hi = 1) : Rk (k + 10) i__law_right [.d (crowd n lo hi), .d (.bl pl)] = .ok (.d (.bl true), none) := by
  by_cases hb : 0 < B n lo hi
  · exact law_right_ok k c pl hb fun z => hp z hb
  · exact law_right_bad k c pl hb
theorem cr_rep {n : Nat} (a b : Rat) (h2 : 2 ≤ n) (h8 : n ≤ 8) (ha : Sm 4 a) (hb : Sm 4 b) : Cr n (List.replicate n a) (List.replicate n b) :=
  ⟨h2, h8, List.length_replicate .., List.length_replicate .., fun q hq => by rw [List.eq_of_mem_replicate hq]; exact ha, fun q hq => by rw [List.eq_of_mem_replicate hq]; exact hb⟩
theorem gt_rep {n i : Nat} (a : Rat) (h : i < n) : gt (List.replicate n a) i = a := by
  rw [gt_eq (by rw [List.length_replicate]; exact h), List.getElem_replicate]
theorem sm_rep (n : Nat) (a b : Rat) (j : Nat) (h : j ≤ n) : sm n (List.replicate n a) (List.replicate n b) j = (n : Rat) * a + (j : Rat) * (b - a) := by
  have e : ((n - j : Nat) : Rat) = (n : Rat) - (j : Rat) := by
    obtain ⟨d, rfl⟩ : ∃ d, n = j + d := ⟨n - j, by omega⟩
    rw [Nat.add_sub_cancel_left]
    push_cast
    grind
  unfold sm
  by_cases p : 0 < j <;> by_cases q : j < n
  · rw [if_pos p, if_pos q, gt_rep b (by omega), gt_rep a (by omega), e]; grind
  · rw [if_pos p, if_neg q, gt_rep b (by omega), show j = n by omega]; grind
  · rw [if_neg p, if_pos q, gt_rep a (by omega), e, show j = 0 by omega]; simp; grind
  · rw [if_neg p, if_neg q, show n = 0 by omega, show j = 0 by omega]; simp
theorem rest_top {n : Nat} (a b : Rat) (h0 : 0 < n) {j i : Nat} (hj : j ∈ restN n (gn (List.replicate n a) (List.replicate n b))) (hi : i ≤ n) : sm n (List.replicate n a) (List.replicate n b) i ≤ sm n (List.replicate n a) (List.replicate n b) j := by
  obtain ⟨jn, u, d⟩ := restN_iff.mp hj
  rw [sm_rep n a b i hi, sm_rep n a b j jn]
  have g : ∀ m, m < n → gn (List.replicate n a) (List.replicate n b) m = b - a := fun m hm => by
    unfold gn; rw [gt_rep a hm, gt_rep b hm]
  by_cases p : 0 < b - a
  · have e : j = n := by
      by_cases q : j < n
      · exact absurd ⟨q, by rw [g j q]; exact p⟩ u
      · omega
    have := Rat.mul_le_mul_of_nonneg_right (a := (i : Rat)) (b := (j : Rat)) (c := b - a) (by rw [e]; exact_mod_cast hi) (Rat.le_of_lt p)
    grind
  · by_cases q : b - a < 0
    · have e : j = 0 := by
        by_cases r : 0 < j
        · exact absurd ⟨r, by rw [g (j - 1) (by omega)]; exact q⟩ d
        · omega
      have z := Rat.mul_le_mul_of_nonneg_right (a := (0 : Rat)) (b := (i : Rat)) (c := -(b - a)) (by exact_mod_cast Nat.zero_le i) (by grind)
      rw [e]
      have : ((0 : Nat) : Rat) = 0 := rfl
      rw [this]
      grind
    · have e : b - a = 0 := by grind
      rw [e]; grind
theorem low_rep {n : Nat} (a b : Rat) (h0 : 0 < n) : lowR n (List.replicate n a) (List.replicate n b) = B n (List.replicate n a) (List.replicate n b) := by
  refine lowR_all (P := fun q => q = B n (List.replicate n a) (List.replicate n b)) ?_
  intro q hq
  have hle := rs_le q hq
  obtain ⟨j, hj, rfl⟩ := List.mem_map.mp hq
  obtain ⟨i, hi, e⟩ := bst_is (sm n (List.replicate n a) (List.replicate n b)) n
  have := rest_top a b h0 hj hi
  unfold B at hle ⊢
  rw [e] at hle ⊢
  grind
theorem mul_rep (q : Rat) (n : Nat) (hn : n ≤ 8) : opf .mul (.l [.d (fr q)]) (di n) = some (.l (((List.replicate n q).map fr).map .d)) := by
  have m := op_mul_lst (a := .l [.d (fr q)]) (xs := [fr q]) (k := n) rfl (by simp; omega) (by omega)
  rw [flat_rep, ← List.map_replicate (f := fr)] at m
  exact m
theorem law_step (k : Nat) (A : CT) (ns : List Int) (i : Nat) (hi : i < 8) (x1 x2 x3 x4 x5 : Option CT) : ∃ y1 y2 y3 y4 y5, fbody (Rk (k + 10)) G W (.nm 1) l1_law (.int (i : Int)) [some (.d (.scr ns)), x1, x2, x3, x4, x5] = .nx [some (.d (.scr ns)), y1, y2, y3, y4, y5] := by
  obtain ⟨g, ig, eg⟩ := law_generator (k + 8) ns i (by omega)
  obtain ⟨n, lo, hh, g1, c, i1, e1⟩ := law_crowd (k + 6) _ ig (by omega)
  obtain ⟨a, g2, sa, i2, e2⟩ := law_number_fr (k + 7) _ i1 (by omega)
  obtain ⟨b, g3, sb, i3, e3⟩ := law_number_fr (k + 7) _ i2 (by omega)
  have h2 := c.n2
  have h8 := c.n8
  have r1 := law_right k c false (fun z => by cases z)
  have r2 := law_right k (cr_rep a b h2 h8 sa sb) true (fun _ hb => by rw [low_rep a b (by omega), Rat.div_def, Rat.mul_inv_cancel _ (by grind)])
  have r3 := law_right k (cr_rep 0 (-1 / 2) h2 h8 ⟨by decide, by decide⟩ ⟨by decide +kernel, by decide +kernel⟩) false (fun z => by cases z)
  have m1 := mul_rep a n h8
  have m2 := mul_rep b n h8
  have m3 := mul_rep 0 n h8
  have m4 := mul_rep (-1 / 2) n h8
  have f3 : fr (-1 / 2) = .tup [.int (-1), .int 2] := by
    show D.tup [.int (-1 / 2 : Rat).num, .int ((-1 / 2 : Rat).den : Nat)] = _
    rw [show (-1 / 2 : Rat).num = -1 by decide +kernel, show (-1 / 2 : Rat).den = 2 by decide +kernel]; rfl
  have f0 : fr 0 = .tup [.int 0, .int 1] := rfl
  rw [f3] at m4
  rw [f0] at m3
  have fc : ∀ qs ps : List Rat, D.tup [.str "crowd", .int n, .lst (qs.map fr), .lst (ps.map fr)] = crowd n qs ps := fun _ _ => rfl
  generalize List.replicate n a = A1 at *
  generalize List.replicate n b = A2 at *
  generalize List.replicate n (0 : Rat) = A3 at *
  generalize List.replicate n (-1 / 2 : Rat) = A4 at *
  refine ⟨some (di i), some g3, some (.d (crowd n lo hh)), some (.d (fr a)), some (.d (fr b)), ?_⟩
  simp [-List.map_map, fbody, asgC, l1_law, ME.pu, ME.pus, eg, e1, e2, e3, sets, r1, m1, m2, m3, m4, CT.atom, fc, r2, r3]
instance (n : Nat) (q : Rat) : Decidable (Sm n q) := by unfold Sm; exact inferInstance
theorem law_ok (k : Nat) (ns : List Int) : Rk (k + 11) i_law [.d (.scr ns)] = .ok (.d (.bl true), none) := by
  rw [r_law]
  obtain ⟨e', h1, x1, x2, x3, x4, x5, rfl⟩ := forS_nat (F := fbody (Rk (k + 10)) G W (.nm 1) l1_law) (n := 8) (f := fun (i : Nat) => D.int (i : Int)) (P := fun i e => ∃ x1 x2 x3 x4 x5, e = [some (.d (.scr ns)), x1, x2, x3, x4, x5]) (e := [some (.d (.scr ns)), none, none, none, none, none]) ⟨none, none, none, none, none, rfl⟩ (by
    rintro i _ hi ⟨x1, x2, x3, x4, x5, rfl⟩
    obtain ⟨y1, y2, y3, y4, y5, e⟩ := law_step k (di i) ns i hi x1 x2 x3 x4 x5
    exact ⟨_, e, y1, y2, y3, y4, y5, rfl⟩)
  have rg := rgf_nat 8 (by omega)
  have rg' : rgf [di 8] = _ := rg
  have cr : Cr 3 [1, 1, 1] [0, 0, 3] := ⟨by omega, by omega, rfl, rfl, by decide +kernel, by decide +kernel⟩
  have bB : B 3 [1, 1, 1] [0, 0, 3] = 9 := by decide +kernel
  have so := shares_ok (k + 3) cr (by rw [bB]; decide)
  have sh : shD 3 [1, 1, 1] [0, 0, 3] = .tup [.tup [.int 1, .int 3], .tup [.int 1, .int 1]] := by
    have l : lowR 3 [1, 1, 1] [0, 0, 3] = 3 := by decide +kernel
    have h : highR 3 [1, 1, 1] [0, 0, 3] = 9 := by decide +kernel
    unfold shD
    rw [l, h, bB, show (9 / 9 : Rat) = 1 by decide +kernel]
    show D.tup [.tup [.int (3 / 9 : Rat).num, .int ((3 / 9 : Rat).den : Nat)], fr 1] = _
    rw [show (3 / 9 : Rat).num = 1 by decide +kernel, show (3 / 9 : Rat).den = 3 by decide +kernel]; rfl
  have sf := sh_fit cr (by rw [bB]; decide)
  rw [sh] at so sf
  have m1 : opf .mul (.l [.d (.tup [.int 1, .int 1])]) (di 3) = some (.l (([1, 1, 1].map fr).map .d)) := mul_rep 1 3 (by omega)
  have fz : (CT.l (([1, 1, 1].map fr).map .d)).frz = .lst ([1, 1, 1].map fr) := frz_ow _
  have f2 : (CT.l [.d (.tup [.int 0, .int 1]), .d (.tup [.int 0, .int 1]), .d (.tup [.int 3, .int 1])]).frz = .lst ([0, 0, 3].map fr) := frz_ow [_, _, _]
  have fc : D.tup [.str "crowd", .int 3, .lst ([1, 1, 1].map fr), .lst ([0, 0, 3].map fr)] = crowd 3 [1, 1, 1] [0, 0, 3] := rfl
  have eq : opf .eq (.d (.tup [.tup [.int 1, .int 3], .tup [.int 1, .int 1]])) (.d (.tup [.tup [.int 1, .int 3], .tup [.int 1, .int 1]])) = some (.d (.bl true)) := op_eq_same (frz_d _) (frz_d _) sf (by omega)
  generalize ([1, 1, 1].map fr) = A1 at *
  generalize ([0, 0, 3].map fr) = A2 at *
  simp [-List.map_map, b_law, ME.pu, ME.pus, rg', h1, m1, fz, f2, fc, so, CT.atom, eq]
end Pl

set_option maxRecDepth 100000
set_option maxHeartbeats 0
namespace Pl
open PySem PV
theorem law_true (ns : List Int) (hn : ns.length ≤ 63) : run Tb.G Tb.W Tb.fs 40 38 [.d (.scr ns)] = .ok (.d (.bl true), none) := Pl.law_ok 29 ns
end Pl

open PySem PySem.W PySem.Calls PyProof.Rows
theorem PySem.Challenge.cw_gamestold_k75_whole_best_counts_and_shar_holds : PySem.Challenge.rw_gamestold_k75_whole_best_counts_and_shar.Holds := by
  w_on; o_law
  refine HandSHeadRun.head_any (r := OpenLaw.row PySem.Challenge.rw_gamestold_k75_whole_best_counts_and_shar) (q := view (OpenLaw.row PySem.Challenge.rw_gamestold_k75_whole_best_counts_and_shar).prog [48]) (H := Hd.hk) (ob := Hd.ob) (M := 6000) (loose := Hd.loose) (d := HandSHeadRun.topDef (OpenLaw.row PySem.Challenge.rw_gamestold_k75_whole_best_counts_and_shar).prog 48) (kwd := []) Hd.ob_eq
    (by kernel_rfl) (fun s => by kernel_rfl) Hd.run (by kernel_rfl) (by kernel_rfl) (by kernel_rfl) (by rfl) (by first | assumption | decide +kernel) (by decide +kernel) ⟨rfl, rfl, rfl, rfl, rfl, by decide +kernel⟩ ?hw ?hc
  case hw => w_witness2
  case hc =>
    refine PV.walk_G (l := PySem.Challenge.rw_gamestold_k75_whole_best_counts_and_shar) (n := 63) (k := 40) (x := "script") rfl (by decide) (by kernel_rfl) ⟨rfl, by decide, by decide⟩ ?F (fun w H s e s' z => PV.cx_none H s e s' z)
    intro w mg fa h Y G hmg0
    obtain ⟨K, KX, c⟩ := Y
    have hmg : mg ("law" : PySem.Str) = some (.ref fa) := by
      have e : (HandSHeadRun.topDef (OpenLaw.row PySem.Challenge.rw_gamestold_k75_whole_best_counts_and_shar).prog 48).name = ("law" : PySem.Str) := by kernel_rfl
      rw [← e]
      exact hmg0
    obtain ⟨fd, F⟩ := c.t.d.def_ 38 (d := Hd.dd "law" 48) rfl
    have e := hmg.symm.trans (He.glo_ok KX G (c.t.d.fact 38 (f := .glo "law") rfl))
    cases e
    have b := L2.FunD.bindsA (ps := ["script"]) F fun _ _ _ _ _ _ us hl => match us, hl with | [_], _ => rfl
    refine ⟨K, fd, PV.spR K mg 1 false (PV.run Tb.G Tb.W Tb.fs 40 38), KX, fun s v => b s [v] rfl, fun Hh a ns hn _ hs => PV.law_sp (Pl.law_true ns hn) hs, fun base kb nb => ?_⟩
    obtain ⟨f2, fd2, m1, _, _, _, ⟨oc2, od2, osl2, lk2⟩, go⟩ := PV.fn_level (P := (PySem.Challenge.rw_gamestold_k75_whole_best_counts_and_shar).prog) (w := w) (base := base) (W := Tb.W) (fs := Tb.fs) (Hd.stat KX G c) (Hd.blt KX G c) (Hd.con KX G c) (Hd.err KX G c) 40 38 _ rfl
    obtain ⟨oc, od, dV, kV, doc, pm, an, cdv, ct, osl, _, lk, _⟩ := F.ex
    have e2 := m1.symm.trans hmg
    cases e2
    have e3 := lk2.symm.trans lk
    cases e3
    exact go

