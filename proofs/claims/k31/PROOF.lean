import PyProof.Rows.All
import Wide.All
import OpenK.AllK
import Wide.FinOn
import HandS.ForMost
import HandS.ForExc
import HandS.IsInst
import HandS.Deep
import HandS.TupAny
import HandS.TupMul
import HandS.TupLe
import HandS.Wide
import HandS.Lambda
import HandS.EndTab
import HandS.ExcIs
import HandS.HotCalls
import HandS.Iter
import KE.GoesEnum
import HandS.Style
import KE.GoesComp
import KE.GoesMore
import PyProof.SumWalkG
import HandS.CallRecv
import HandS.EndOwn
import PySem.Challenge.RW_samepictures_k31_whole_drawings
set_option Elab.async false
set_option linter.all false
set_option maxRecDepth 100000
namespace VL
open PySem PySem.Spec PyProof.Rows L2
abbrev D := PyData
mutual
inductive Ob where
  | lst (xs : List D)
  | dct (kvs : List (D × D))
  | dcl (kvs : List (D × List D))
  | rws (xs : List (D × List D))
  | ins (c : Nat) (fs : Fs)
inductive Fs where
  | nil | cons (f : Str) (a : AV) (r : Fs)
inductive AV where
  | d (x : D) | o (x : Ob) | clo (n : Nat) (env : List D)
end
def Fs.get : Fs → Str → Option AV
  | .nil, _ => none
  | .cons g a r, f => if g = f then some a else r.get f
def Fs.put : Fs → Str → AV → Fs
  | .nil, f, b => .cons f b .nil
  | .cons g a r, f, b => if g = f then .cons g b r else .cons g a (r.put f b)
def Fs.len : Fs → Nat
  | .nil => 0
  | .cons _ _ r => r.len + 1
structure Pl where
  i : Nat
  f : Option Str
  deriving DecidableEq
inductive SV where
  | d (x : D) | ob (w : Bool) (o : Ob) | clo (n : Nat) (env : List D)
inductive RV where
  | d (x : D) | ob (o : Ob) | clo (n : Nat) (env : List D) | bor (p : Pl)
def Ob.toD : Ob → Option D
  | .lst xs => some (.list xs)
  | _ => none
def RV.toD : RV → Option D
  | .d x => some x
  | .ob o => o.toD
  | _ => none
def RV.toSV : RV → Option SV
  | .d x => some (.d x)
  | .ob o => some (.ob true o)
  | .clo n e => some (.clo n e)
  | .bor _ => none
def RV.toAV : RV → Option AV
  | .d x => some (.d x)
  | .ob o => some (.o o)
  | .clo n e => some (.clo n e)
  | .bor _ => none
abbrev S := List (Option SV)
inductive R (α : Type) where
  | ok (a : α) (s : S) | exc (c : Str) (s : S) | stuck
abbrev M (α : Type) := S → R α
@[inline] def R.bind {α β : Type} (r : R α) (f : α → M β) : R β := match r with
  | .ok a s => f a s
  | .exc c s => .exc c s
  | .stuck => .stuck
@[inline] def bindM {α β : Type} (m : M α) (f : α → M β) : M β := fun s => (m s).bind f
@[inline] def pureM {α : Type} (a : α) : M α := fun s => .ok a s
@[inline] def stuckM {α : Type} : M α := fun _ => .stuck
inductive RC where
  | ok (d : D) (os : List Ob) | exc (c : Str) (os : List Ob) | stuck
abbrev CF := Nat → List AV → RC
def one : List RV → M RV
  | [r] => pureM r
  | _ => stuckM
def optM {α : Type} : Option α → M α
  | some a => pureM a
  | none => stuckM
def okMul (i j : Int) : Bool := !((decide (Builtin.Int.intBits i > shortFactorBits) && decide (Builtin.Int.intBits j > shortFactorBits) && Builtin.Int.intTooBig (Builtin.Int.intBits i + Builtin.Int.intBits j)))
def okDiv (j : Int) : Bool := !(j == 0) && decide (j.natAbs.log2 < 9000)
def okPow (i j : Int) : Bool := decide (0 ≤ j) && decide (j ≤ 1000000) && decide (i.natAbs < 2 ^ 64)
def okLen (n : Nat) : Bool := decide (n ≤ 1000000)
def guardL (n : Nat) : Option Unit := if okLen n then some () else none
inductive Bop where
  | add | sub | mul | fdiv | mod | pow
def bop : Bop → RV → RV → Option RV
  | .add, .d (.int i), .d (.int j) => some (.d (.int (i + j)))
  | .add, .d (.tuple xs), .d (.tuple ys) => if okLen (xs.length + ys.length) then some (.d (.tuple (xs ++ ys))) else none
  | .add, .d (.list xs), .d (.list ys) => if okLen (xs.length + ys.length) then some (.ob (.lst (xs ++ ys))) else none
  | .add, .d (.str x), .d (.str y) => if okLen (x.length + y.length) then some (.d (.str (x ++ y))) else none
  | .sub, .d (.int i), .d (.int j) => some (.d (.int (i - j)))
  | .mul, .d (.int i), .d (.int j) => if okMul i j then some (.d (.int (i * j))) else none
  | .mul, .d (.tuple xs), .d (.int k) => if xs ≠ [] ∧ 2 ≤ k ∧ k ≤ 1000 ∧ xs.length ≤ 1000 then some (.d (.tuple (List.replicate k.toNat xs).flatten)) else none
  | .fdiv, .d (.int i), .d (.int j) => if okDiv j then some (.d (.int (i.fdiv j))) else none
  | .mod, .d (.int i), .d (.int j) => if j ≠ 0 then some (.d (.int (i.fmod j))) else none
  | .pow, .d (.int i), .d (.int j) => if okPow i j then some (.d (.int (i ^ j.toNat))) else none
  | _, _, _ => none
inductive Cop where
  | eq | ne | lt | le | gt | ge | isN | notN | inn | notIn | isB | notB
def isNoneD : D → Bool
  | .none => true
  | _ => false
def flatD : D → Bool
  | .none => true
  | .bool _ => true
  | .int _ => true
  | .str _ => true
  | _ => false
def cop : Cop → D → D → Option Bool
  | .eq, .int i, .int j => some (i == j)
  | .ne, .int i, .int j => some (!(i == j))
  | .eq, .str i, .str j => some (i == j)
  | .ne, .str i, .str j => some (!(i == j))
  | .eq, a, b => if SeqAt.shaped a && SeqAt.shaped b then some (PyData.eqv a b) else none
  | .ne, a, b => if SeqAt.shaped a && SeqAt.shaped b then some (!PyData.eqv a b) else none
  | .lt, .int i, .int j => some (decide (i < j))
  | .le, .int i, .int j => some (decide (i ≤ j))
  | .gt, .int i, .int j => some (decide (j < i))
  | .ge, .int i, .int j => some (decide (j ≤ i))
  | .isN, a, .none => some (isNoneD a)
  | .notN, a, .none => some (!isNoneD a)
  | .inn, a, .list xs => if SeqAt.shaped a && SeqAt.shaped (.list xs) then some (xs.any fun z => PyData.eqv z a) else none
  | .notIn, a, .list xs => if SeqAt.shaped a && SeqAt.shaped (.list xs) then some (!xs.any fun z => PyData.eqv z a) else none
  | .inn, a, .tuple xs => if flatD a && xs.all flatD then some (xs.any fun z => PyData.eqv z a) else none
  | .notIn, a, .tuple xs => if flatD a && xs.all flatD then some (!xs.any fun z => PyData.eqv z a) else none
  | .isB, .bool a, .bool b => some (decide (a = b))
  | .notB, .bool a, .bool b => some (!decide (a = b))
  | .isB, .int _, .bool _ => some false
  | .notB, .int _, .bool _ => some true
  | _, _, _ => none
inductive Blt where
  | len | all | any | sum | abs | max2 | min2 | tuple | list | int1
def boolsD : List D → Option (List Bool)
  | [] => some []
  | .bool b :: r => (boolsD r).map (b :: ·)
  | _ => none
def intsD : List D → Option (List Int)
  | [] => some []
  | .int b :: r => (intsD r).map (b :: ·)
  | _ => none
def blt : Blt → List D → Option RV
  | .len, [.list xs] => some (.d (.int xs.length))
  | .len, [.tuple xs] => some (.d (.int xs.length))
  | .len, [.str x] => if okLen x.length then some (.d (.int x.length)) else none
  | .all, [.list xs] => (boolsD xs).map fun bs => .d (.bool (bs.all id))
  | .any, [.list xs] => (boolsD xs).map fun bs => .d (.bool (bs.any id))
  | .sum, [.list xs] => (intsD xs).map fun ns => .d (.int ns.sum)
  | .abs, [.int i] => some (.d (.int (if i < 0 then -i else i)))
  | .max2, [.int i, .int j] => some (.d (.int (if j > i then j else i)))
  | .min2, [.int i, .int j] => some (.d (.int (if j < i then j else i)))
  | .tuple, [.list xs] => some (.d (.tuple xs))
  | .tuple, [.tuple xs] => some (.d (.tuple xs))
  | .list, [.list xs] => some (.ob (.lst xs))
  | .list, [.tuple xs] => some (.ob (.lst xs))
  | .int1, [.bool b] => some (.d (.int (if b then 1 else 0)))
  | .int1, [.int i] => some (.d (.int i))
  | _, _ => none
inductive Ty where
  | int | bool | str | tuple | list
def isiD : D → Ty → Option Bool
  | .none, _ => some false
  | .bool _, .int => some true | .bool _, .bool => some true | .bool _, _ => some false
  | .int _, .int => some true | .int _, _ => some false
  | .str _, .str => some true | .str _, _ => some false
  | .tuple _, .tuple => some true | .tuple _, _ => some false
  | .list _, .list => some true | .list _, _ => some false
  | .dict _, _ => some false
def ixD : D → D → Option D
  | .list xs, .int i => atI xs i
  | .tuple xs, .int i => atI xs i
  | _, _ => none
def cutL {α : Type} (xs : List α) (lo hi : Option Int) : List α := (xs.drop (HT.sIx xs.length 0 lo)).take (HT.sIx xs.length xs.length hi - HT.sIx xs.length 0 lo)
def slcD : D → Option Int → Option Int → Option RV
  | .list xs, lo, hi => some (.ob (.lst (cutL xs lo hi)))
  | .tuple xs, lo, hi => some (.d (.tuple (cutL xs lo hi)))
  | _, _, _ => none
inductive Itk where
  | seq | range1 | range2 | enum
def itR1 : List D → Option (List D)
  | [.int j] => if -1000000 < j ∧ j < 1000000 then some ((List.range j.toNat).map fun (i : Nat) => .int (i : Int)) else none
  | _ => none
def itR2 : List D → Option (List D)
  | [.int i, .int j] => if -400000 < i ∧ i < 400000 ∧ -400000 < j ∧ j < 400000 then some ((List.range (j - i).toNat).map fun (k : Nat) => .int (i + (k : Int))) else none
  | _ => none
def itSeq : List D → Option (List D)
  | [.list xs] => if okLen xs.length then some xs else none
  | [.tuple xs] => if okLen xs.length then some xs else none
  | _ => none
def numbered : Nat → List D → List D
  | _, [] => []
  | n, x :: xs => .tuple [.int n, x] :: numbered (n + 1) xs
def itD : Itk → List D → Option (List D)
  | .seq => itSeq
  | .range1 => itR1
  | .range2 => itR2
  | .enum => fun l => (itSeq l).map (numbered 0)
mutual
inductive Tg where
  | nm (i : Nat) | tp (ts : Tgs)
inductive Tgs where
  | nil | cons (t : Tg) (r : Tgs)
end
def setSlot (s : S) (i : Nat) (v : SV) : Option S := match s[i]? with
  | some (some (.ob false _)) => none
  | _ => some (s.set i (some v))
mutual
def setT : Tg → D → S → Option S
  | .nm i, x, s => setSlot s i (.d x)
  | .tp ts, .tuple xs, s => setTs ts xs s
  | .tp _, _, _ => none
def setTs : Tgs → List D → S → Option S
  | .nil, [], s => some s
  | .cons t r, x :: xs, s => (setT t x s).bind (setTs r xs)
  | .nil, _ :: _, _ => none
  | .cons _ _, [], _ => none
end
def setTg (t : Tg) (x : D) : M Unit := fun s => match setT t x s with
  | some s' => .ok () s'
  | none => .stuck
mutual
def Tg.slots : Tg → List Nat
  | .nm i => [i]
  | .tp ts => ts.slots
def Tgs.slots : Tgs → List Nat
  | .nil => []
  | .cons t r => t.slots ++ r.slots
end
def hideO : Option SV → Option SV
  | some (.ob _ o) => some (.ob false o)
  | o => o
def wipeL (s : S) : List Nat → S
  | [] => s
  | v :: vs => (wipeL s vs).set v none
def hide (s : S) (vs : List Nat) : S := wipeL (s.map hideO) vs
def unhideO : Option SV → Option SV → Option SV
  | some (.ob w _), some (.ob _ o) => some (.ob w o)
  | x, _ => x
def unhideL : S → S → S
  | x :: s, y :: t => unhideO x y :: unhideL s t
  | s, _ => s
def unhide (vs : List Nat) (s t : S) : S := unhideL s (wipeL t vs)
inductive IE where
  | nil | cons (a b : IE)
  | var (i : Nat)
  | fld (p : Pl)
  | bor (i : Nat)
  | cst (d : D)
  | glb (x : Str) (d : D)
  | tup (l : IE) | lst (l : IE)
  | op (o : Bop) (a b : IE) | neg (a : IE)
  | opB (o : Bop) (p : Pl) (b : IE)
  | cmp (o : Cop) (a b : IE) | cmpL (o : Cop) (p : Pl) (b : IE) | cmpR (o : Cop) (a : IE) (p : Pl)
  | chain (o o' : Cop) (a b c : IE)
  | not (a : IE) | and (a b : IE) | or (a b : IE)
  | ife (t a b : IE)
  | call (f : Nat) (l : IE)
  | new (c f : Nat) (l : IE)
  | meth (m : Str) (ms : List (Nat × Nat)) (i : Nat) (l : IE)
  | methT (m : Str) (ms : List (Nat × Nat)) (a l : IE)
  | methF (m : Str) (ms : List (Nat × Nat)) (p : Pl) (js : List Nat)
  | callC (p : Pl) (l : IE)
  | blt (b : Blt) (l : IE) | bltB (b : Blt) (p : Pl)
  | isi (a : IE) (t : Ty)
  | ix (a b : IE) | ixB (p : Pl) (b : IE)
  | slc (bl bh : Bool) (a lo hi : IE) | slcB (bl bh : Bool) (p : Pl) (lo hi : IE)
  | lc (fz vs : List Nat) (tg : Tg) (k : Itk) (l cond elt : IE)
  | told (ks : List Str) (a : IE)
def Ob.fld : Ob → Str → Option AV
  | .ins _ fs, f => fs.get f
  | _, _ => none
def atPl (s : S) (p : Pl) : Option AV := match s[p.i]? with
  | some (some (.d x)) => match p.f with
    | none => some (.d x)
    | some _ => none
  | some (some (.ob _ o)) => match p.f with
    | none => some (.o o)
    | some f => o.fld f
  | some (some (.clo n e)) => match p.f with
    | none => some (.clo n e)
    | some _ => none
  | _ => none
def AV.toD : AV → Option D
  | .d x => some x
  | .o x => x.toD
  | .clo _ _ => none
def peek (p : Pl) : M D := fun s => match (atPl s p).bind AV.toD with
  | some d => .ok d s
  | none => .stuck
def take (i : Nat) : M RV := fun s => match s[i]? with
  | some (some (.d x)) => .ok (.d x) s
  | some (some (.ob true (.lst xs))) => .ok (.d (.list xs)) (s.set i (some (.d (.list xs))))
  | some (some (.clo n e)) => .ok (.clo n e) s
  | _ => .stuck
def fldM (p : Pl) : M RV := fun s => match p.f with
  | none => .stuck
  | some _ => match atPl s p with
    | some (.d x) => .ok (.d x) s
    | some (.clo n e) => .ok (.clo n e) s
    | _ => .stuck
def putPl (s : S) (p : Pl) (o : Ob) : Option S := match s[p.i]? with
  | some (some (.ob w o0)) => match p.f with
    | none => some (s.set p.i (some (.ob w o)))
    | some f => match o0 with
      | .ins c fs => match fs.get f with
        | some (.o _) => some (s.set p.i (some (.ob w (.ins c (fs.put f (.o o))))))
        | _ => none
      | _ => none
  | _ => none
def RV.arg : RV → RV
  | .ob (.lst xs) => .d (.list xs)
  | r => r
def toDs : List RV → Option (List D)
  | [] => some []
  | r :: rs => r.toD.bind fun d => (toDs rs).map (d :: ·)
def lend (s : S) : List RV → Option (List AV)
  | [] => some []
  | .bor p :: r => match atPl s p with
    | some (.o o) => (lend s r).map (.o o :: ·)
    | _ => none
  | .d x :: r => (lend s r).map (.d x :: ·)
  | .ob x :: r => (lend s r).map (.o x :: ·)
  | .clo n e :: r => (lend s r).map (.clo n e :: ·)
def back : List RV → List Ob → S → Option S
  | [], [], s => some s
  | .bor p :: r, o :: os, s => (putPl s p o).bind (back r os)
  | .ob _ :: r, _ :: os, s => back r os s
  | .d _ :: r, os, s => back r os s
  | .clo _ _ :: r, os, s => back r os s
  | _, _, _ => none
def bors : List RV → List Nat
  | [] => []
  | .bor p :: r => p.i :: bors r
  | _ :: r => bors r
def dupFree : List Nat → Bool
  | [] => true
  | x :: xs => !xs.contains x && dupFree xs
def fromRC (xs : List RV) : RC → M (List RV)
  | .ok d os => fun s => match back xs os s with
    | some s' => .ok [.d d] s'
    | none => .stuck
  | .exc c os => fun s => match back xs os s with
    | some s' => .exc c s'
    | none => .stuck
  | .stuck => stuckM
def callM (cf : CF) (f : Nat) (xs : List RV) : M (List RV) := fun s => match dupFree (bors xs) with
  | true => match lend s xs with
    | some as => fromRC xs (cf f as) s
    | none => .stuck
  | false => .stuck
def newM (cf : CF) (c f : Nat) (xs : List RV) : M (List RV) := fun s => match dupFree (bors xs) with
  | true => match lend s xs with
    | some as => match cf f (.o (.ins c .nil) :: as) with
      | .ok .none (o :: os) => match back xs os s with
        | some s' => .ok [.ob o] s'
        | none => .stuck
      | .exc e (_ :: os) => match back xs os s with
        | some s' => .exc e s'
        | none => .stuck
      | _ => .stuck
    | none => .stuck
  | false => .stuck
def Ob.cls (m : Str) : Ob → Option Nat
  | .ins c fs => match fs.get m with
    | none => some c
    | some _ => none
  | _ => none
def methAt (m : Str) (ms : List (Nat × Nat)) (p : Pl) (s : S) : Option Nat := match atPl s p with
  | some (.o o) => (o.cls m).bind fun c => ms.lookup c
  | _ => none
def methOf (m : Str) (ms : List (Nat × Nat)) : RV → Option Nat
  | .ob o => (o.cls m).bind fun c => ms.lookup c
  | _ => none
def borM (i : Nat) : M (List RV) := fun s => match s[i]? with
  | some (some (.ob _ _)) => .ok [.bor ⟨i, none⟩] s
  | _ => .stuck
def dataAt (s : S) : List Nat → Option (List RV)
  | [] => some []
  | j :: js => match s[j]? with
    | some (some (.d x)) => (dataAt s js).map (.d x :: ·)
    | _ => none
def cloAt (p : Pl) : M (Nat × List D) := fun s => match atPl s p with
  | some (.clo n e) => .ok (n, e) s
  | _ => .stuck
def asB : RV → M Bool
  | .d (.bool b) => pureM b
  | _ => stuckM
def asC (l : List RV) : M Bool := bindM (one l) asB
def part : List RV → M (Option Int)
  | [.d (.int i)] => pureM (some i)
  | _ => stuckM
def partB (b : Bool) (m : M (List RV)) : M (Option Int) := match b with
  | true => bindM m part
  | false => pureM none
def frzAll : List Nat → S → S
  | [], s => s
  | i :: is, s => match s[i]? with
    | some (some (.ob true (.lst xs))) => frzAll is (s.set i (some (.d (.list xs))))
    | _ => frzAll is s
def itM (k : Itk) (m : M (List RV)) : M (List D) := bindM m fun xs => bindM (optM (toDs xs)) fun ds => optM (itD k ds)
def one1 (m : M (List RV)) : M D := bindM m fun l => bindM (one l) fun r => optM r.toD
def lcBack {α : Type} (vs : List Nat) (s : S) : R α → R α
  | .ok a t => .ok a (unhide vs s t)
  | .exc c t => .exc c (unhide vs s t)
  | .stuck => .stuck
def lcT (vs : List Nat) (tg : Tg) (cond : M Bool) (elt : M (List RV)) (x : D) : M (Option D) := fun s => lcBack vs s ((bindM (setTg tg x) fun _ => bindM cond fun b => match b with
  | true => bindM (one1 elt) fun d => pureM (some d)
  | false => pureM none) (hide s vs))
def lcM (vs : List Nat) (tg : Tg) (cond : M Bool) (elt : M (List RV)) : List D → M (List D)
  | [] => pureM []
  | x :: xs => bindM (lcT vs tg cond elt x) fun o => bindM (lcM vs tg cond elt xs) fun ys => match o with
    | some d => pureM (d :: ys)
    | none => pureM ys
def toldKinds : List Str := ["InvalidNumber", "InvalidPoint", "InvalidShape", "InvalidLayer", "InvalidDrawing", "InvalidRegion", "InvalidPlan", "InvalidIndex", "InvalidBox", "InvalidMove", "InvalidText", "OnEdge", "Blank", "TooMany", "NothingToUndo"]
def toldEnd (ks : List Str) : R D → R (List RV)
  | .ok d t => .ok [.d d] t
  | .exc c t => if c ∈ ks then .ok [.d (.tuple [.str "error", .str c])] t else .stuck
  | .stuck => .stuck
def ev (cf : CF) : IE → M (List RV)
  | .nil => pureM []
  | .cons a b => bindM (ev cf a) fun x => bindM (one x) fun r => bindM (ev cf b) fun xs => pureM (r.arg :: xs)
  | .var i => bindM (take i) fun r => pureM [r]
  | .fld p => bindM (fldM p) fun r => pureM [r]
  | .bor i => borM i
  | .cst d => pureM [.d d]
  | .glb _ d => pureM [.d d]
  | .tup l => bindM (ev cf l) fun xs => bindM (optM (toDs xs)) fun ds => bindM (optM (guardL ds.length)) fun _ => pureM [.d (.tuple ds)]
  | .lst l => bindM (ev cf l) fun xs => bindM (optM (toDs xs)) fun ds => bindM (optM (guardL ds.length)) fun _ => pureM [.ob (.lst ds)]
  | .op o a b => bindM (one1 (ev cf a)) fun x => bindM (one1 (ev cf b)) fun y => bindM (optM (bop o (.d x) (.d y))) fun r => pureM [r]
  | .neg a => bindM (one1 (ev cf a)) fun x => match x with
    | .int i => pureM [.d (.int (-i))]
    | _ => stuckM
  | .opB o p b => bindM (peek p) fun _ => bindM (one1 (ev cf b)) fun y => bindM (peek p) fun x => bindM (optM (bop o (.d x) (.d y))) fun r => pureM [r]
  | .cmp o a b => bindM (one1 (ev cf a)) fun x => bindM (one1 (ev cf b)) fun y => bindM (optM (cop o x y)) fun c => pureM [.d (.bool c)]
  | .cmpL o p b => bindM (peek p) fun _ => bindM (one1 (ev cf b)) fun y => bindM (peek p) fun x => bindM (optM (cop o x y)) fun c => pureM [.d (.bool c)]
  | .cmpR o a p => bindM (one1 (ev cf a)) fun x => bindM (peek p) fun y => bindM (optM (cop o x y)) fun c => pureM [.d (.bool c)]
  | .chain o o' a b c => bindM (one1 (ev cf a)) fun x => bindM (one1 (ev cf b)) fun y => bindM (optM (cop o x y)) fun k => match k with
    | true => bindM (one1 (ev cf c)) fun z => bindM (optM (cop o' y z)) fun k' => pureM [.d (.bool k')]
    | false => pureM [.d (.bool false)]
  | .not a => bindM (bindM (ev cf a) asC) fun b => pureM [.d (.bool !b)]
  | .and a b => bindM (bindM (ev cf a) asC) fun c => match c with
    | true => ev cf b
    | false => pureM [.d (.bool false)]
  | .or a b => bindM (bindM (ev cf a) asC) fun c => match c with
    | true => pureM [.d (.bool true)]
    | false => ev cf b
  | .ife t a b => bindM (bindM (ev cf t) asC) fun c => match c with
    | true => ev cf a
    | false => ev cf b
  | .call f l => bindM (ev cf l) fun xs => callM cf f xs
  | .new c f l => bindM (ev cf l) fun xs => newM cf c f xs
  | .meth m ms i l => fun s => bindM (optM (methAt m ms ⟨i, none⟩ s)) (fun f => bindM (ev cf l) fun xs => callM cf f (.bor ⟨i, none⟩ :: xs)) s
  | .methT m ms a l => bindM (ev cf a) fun x => bindM (one x) fun r => bindM (optM (methOf m ms r)) fun f => bindM (ev cf l) fun xs => callM cf f (r :: xs)
  | .methF m ms p js => fun s => bindM (optM (methAt m ms p s)) (fun f => bindM (optM (dataAt s js)) fun xs => callM cf f (.bor p :: xs)) s
  | .callC p l => bindM (cloAt p) fun c => bindM (ev cf l) fun xs => callM cf c.1 (c.2.map RV.d ++ xs)
  | .blt b l => bindM (ev cf l) fun xs => bindM (optM (toDs xs)) fun ds => bindM (optM (blt b ds)) fun r => pureM [r]
  | .bltB b p => bindM (peek p) fun x => bindM (optM (blt b [x])) fun r => pureM [r]
  | .isi a t => bindM (one1 (ev cf a)) fun x => bindM (optM (isiD x t)) fun b => pureM [.d (.bool b)]
  | .ix a b => bindM (one1 (ev cf a)) fun x => bindM (one1 (ev cf b)) fun y => bindM (optM (ixD x y)) fun d => pureM [.d d]
  | .ixB p b => bindM (peek p) fun _ => bindM (one1 (ev cf b)) fun y => bindM (peek p) fun x => bindM (optM (ixD x y)) fun d => pureM [.d d]
  | .slc bl bh a lo hi => bindM (one1 (ev cf a)) fun x => bindM (partB bl (ev cf lo)) fun l => bindM (partB bh (ev cf hi)) fun h => bindM (optM (slcD x l h)) fun r => pureM [r]
  | .slcB bl bh p lo hi => bindM (peek p) fun _ => bindM (partB bl (ev cf lo)) fun l => bindM (partB bh (ev cf hi)) fun h => bindM (peek p) fun x => bindM (optM (slcD x l h)) fun r => pureM [r]
  | .lc fz vs tg k l cond elt => bindM (itM k (ev cf l)) fun ys s => bindM (lcM vs tg (bindM (ev cf cond) asC) (ev cf elt) ys) (fun zs => pureM [.ob (.lst zs)]) (frzAll fz s)
  | .told ks a => fun s => toldEnd ks (one1 (ev cf a) s)
inductive Fl where
  | next | ret (d : D) | brk | cont
inductive IS where
  | skip | seq (a b : IS)
  | asg (i : Nat) (e : IE)
  | asgT (tg : Tg) (e : IE)
  | par (is : List Nat) (l : IE)
  | aug (o : Bop) (i : Nat) (e : IE)
  | setF (i : Nat) (f : Str) (e : IE)
  | augF (o : Bop) (i : Nat) (f : Str) (e : IE)
  | setI (p : Pl) (k e : IE)
  | app (p : Pl) (e : IE)
  | ife (t : IE) (a b : IS)
  | forS (tg : Tg) (k : Itk) (l : IE) (b : IS)
  | whl (t : IE) (b : IS)
  | ret (e : IE) | expr (e : IE)
  | raise (c : Str) | brk | cont
def augI : Bop → D → D → Option Int
  | .add, .int x, .int y => some (x + y)
  | .sub, .int x, .int y => some (x - y)
  | _, _, _ => none
def stM (o : Option S) : R Fl := match o with
  | some s => .ok .next s
  | none => .stuck
def forM (tg : Tg) (body : M Fl) : List D → M Fl
  | [] => pureM .next
  | x :: xs => bindM (setTg tg x) fun _ => bindM body fun f => match f with
    | .next => forM tg body xs
    | .cont => forM tg body xs
    | .brk => pureM .next
    | .ret d => pureM (.ret d)
def whlM (t : M Bool) (body : M Fl) : Nat → M Fl
  | 0 => stuckM
  | n + 1 => bindM t fun b => match b with
    | false => pureM .next
    | true => bindM body fun f => match f with
      | .next => whlM t body n
      | .cont => whlM t body n
      | .brk => pureM .next
      | .ret d => pureM (.ret d)
def whlFuel : Nat := 1000000000000
def setDs : List Nat → List D → S → Option S
  | [], [], s => some s
  | i :: is, x :: xs, s => (setSlot s i (.d x)).bind (setDs is xs)
  | _, _, _ => none
def putF (s : S) (i : Nat) (f : Str) (a : AV) : Option S := match s[i]? with
  | some (some (.ob w (.ins c fs))) => if fs.len < 900 then some (s.set i (some (.ob w (.ins c (fs.put f a))))) else none
  | _ => none
def setIx (s : S) (p : Pl) (j x : D) : Option S := match atPl s p, j with
  | some (.o (.lst xs)), .int j => match ixN xs.length j with
    | some n => putPl s p (.lst (xs.set n x))
    | none => none
  | _, _ => none
def appAt (s : S) (p : Pl) (x : D) : Option S := match atPl s p with
  | some (.o (.lst xs)) => if okLen xs.length then putPl s p (.lst (xs ++ [x])) else none
  | _ => none
def isLst (p : Pl) : M Unit := fun s => match atPl s p with
  | some (.o (.lst _)) => .ok () s
  | _ => .stuck
def evS (cf : CF) : IS → M Fl
  | .skip => pureM .next
  | .seq a b => bindM (evS cf a) fun f => match f with
    | .next => evS cf b
    | f => pureM f
  | .asg i e => bindM (ev cf e) fun l => bindM (one l) fun r => bindM (optM r.toSV) fun v s => stM (setSlot s i v)
  | .asgT tg e => bindM (one1 (ev cf e)) fun d => bindM (setTg tg d) fun _ => pureM .next
  | .par is l => bindM (ev cf l) fun rs => bindM (optM (toDs rs)) fun ds s => stM (setDs is ds s)
  | .aug o i e => bindM (peek ⟨i, none⟩) fun x => bindM (one1 (ev cf e)) fun y => bindM (optM (augI o x y)) fun z s => stM (setSlot s i (.d (.int z)))
  | .setF i f e => bindM (ev cf e) fun l => bindM (one l) fun r => bindM (optM r.toAV) fun a s => stM (putF s i f a)
  | .augF o i f e => bindM (fldM ⟨i, some f⟩) fun r => bindM (one1 (ev cf e)) fun y => bindM (optM r.toD) fun x => bindM (optM (augI o x y)) fun z s => stM (putF s i f (.d (.int z)))
  | .setI p k e => bindM (one1 (ev cf e)) fun x => bindM (isLst p) fun _ => bindM (one1 (ev cf k)) fun j s => stM (setIx s p j x)
  | .app p e => bindM (isLst p) fun _ => bindM (one1 (ev cf e)) fun x s => stM (appAt s p x)
  | .ife t a b => bindM (bindM (ev cf t) asC) fun c => match c with
    | true => evS cf a
    | false => evS cf b
  | .forS tg k l b => bindM (itM k (ev cf l)) fun ys => forM tg (evS cf b) ys
  | .whl t b => whlM (bindM (ev cf t) asC) (evS cf b) whlFuel
  | .ret e => bindM (one1 (ev cf e)) fun d => pureM (.ret d)
  | .expr e => bindM (one1 (ev cf e)) fun _ => pureM .next
  | .raise c => fun s => .exc c s
  | .brk => pureM .brk
  | .cont => pureM .cont
structure Def where
  n : Nat
  arity : Nat
  body : IS
def AV.toSV : AV → SV
  | .d x => .d x
  | .o x => .ob false x
  | .clo n e => .clo n e
def startS (f : Def) (as : List AV) : S := as.map (fun a => some a.toSV) ++ List.replicate (f.n - as.length) none
def okCall (f : Def) (as : List AV) : Bool := decide (as.length = f.arity) && decide (f.arity ≤ f.n)
def collect : List AV → S → Option (List Ob)
  | [], _ => some []
  | .o _ :: as, some (.ob false o) :: s => (collect as s).map (o :: ·)
  | .d _ :: as, _ :: s => collect as s
  | .clo _ _ :: as, _ :: s => collect as s
  | _, _ => none
def endRC (as : List AV) : R Fl → RC
  | .ok (.ret d) s => match collect as s with
    | some os => .ok d os
    | none => .stuck
  | .ok .next s => match collect as s with
    | some os => .ok .none os
    | none => .stuck
  | .ok _ _ => .stuck
  | .exc c s => match collect as s with
    | some os => .exc c os
    | none => .stuck
  | .stuck => .stuck
def runDef (cf : CF) (f : Def) (as : List AV) : RC := match okCall f as with
  | true => endRC as (evS cf f.body (startS f as))
  | false => .stuck
end VL
set_option maxHeartbeats 1000000
namespace VL
open PySem PySem.Spec PyProof.Rows L2
mutual
inductive Rp (K : PySem.W.Frag) (F : Hp) : V → D → Prop
  | non : Rp K F .non .none
  | bl (b : Bool) : Rp K F (.bl b) (.bool b)
  | int (i : Int) : Rp K F (.int i) (.int i)
  | str (x : Str) : Rp K F (.str x) (.str x)
  | lst {a : Addr} {xs : List V} {ds : List D} : F a = some (.lst xs) → Rps K F xs ds → Rp K F (.ref a) (.list ds)
  | tup {a : Addr} {xs : List V} {ds : List D} : SqT K F a xs → Rps K F xs ds → Rp K F (.ref a) (.tuple ds)
inductive Rps (K : PySem.W.Frag) (F : Hp) : List V → List D → Prop
  | nil : Rps K F [] []
  | cons {v : V} {vs : List V} {d : D} {ds : List D} : Rp K F v d → Rps K F vs ds → Rps K F (v :: vs) (d :: ds)
end
section
variable {K : PySem.W.Frag} {F F' H : Hp}
theorem sqT_mono {a : Addr} {xs : List V} (e : Same F F') (h : SqT K F a xs) : SqT K F' a xs := by
  rcases h with (h | ⟨o, h⟩) | h
  · exact .inl (.inl (e _ _ h))
  · exact .inl (.inr ⟨o, e _ _ h⟩)
  · exact .inr h
mutual
theorem Rp.mono (e : Same F F') : ∀ {v : V} {d : D}, Rp K F v d → Rp K F' v d
  | _, _, .non => .non
  | _, _, .bl b => .bl b
  | _, _, .int i => .int i
  | _, _, .str x => .str x
  | _, _, .lst h t => .lst (e _ _ h) (Rps.mono e t)
  | _, _, .tup h t => .tup (sqT_mono e h) (Rps.mono e t)
theorem Rps.mono (e : Same F F') : ∀ {vs : List V} {ds : List D}, Rps K F vs ds → Rps K F' vs ds
  | _, _, .nil => .nil
  | _, _, .cons h t => .cons (Rp.mono e h) (Rps.mono e t)
end
mutual
theorem Rp.dp (e : Same F H) : ∀ {v : V} {d : D}, Rp K F v d → Dp K H v d
  | _, _, .non => .non
  | _, _, .bl b => .bl b
  | _, _, .int i => .int i
  | _, _, .str x => .str x
  | _, _, .lst h t => .lst (.inl (.inl (e _ _ h))) (Rps.dp e t)
  | _, _, .tup h t => .tup (sqT_mono e h) (Rps.dp e t)
theorem Rps.dp (e : Same F H) : ∀ {vs : List V} {ds : List D}, Rps K F vs ds → DpAll K H vs ds
  | _, _, .nil => .nil
  | _, _, .cons h t => .cons (Rp.dp e h) (Rps.dp e t)
end
theorem Rps.length : ∀ {vs : List V} {ds : List D}, Rps K F vs ds → vs.length = ds.length
  | _, _, .nil => rfl
  | _, _, .cons _ t => congrArg (· + 1) (Rps.length t)
theorem Rps.append : ∀ {vs ws : List V} {ds es : List D}, Rps K F vs ds → Rps K F ws es → Rps K F (vs ++ ws) (ds ++ es)
  | _, _, _, _, .nil, h => h
  | _, _, _, _, .cons h t, g => .cons h (Rps.append t g)
theorem Rps.get : ∀ {vs : List V} {ds : List D} {i : Nat} {d : D}, Rps K F vs ds → ds[i]? = some d → ∃ v, vs[i]? = some v ∧ Rp K F v d
  | _, _, i, _, .nil, h => by simp at h
  | _, _, 0, _, .cons h t, e => by simp at e; subst e; exact ⟨_, rfl, h⟩
  | _, _, i + 1, d, .cons h t, e => by
    obtain ⟨v, h1, h2⟩ := Rps.get (i := i) (d := d) t (by simpa using e)
    exact ⟨v, by simpa using h1, h2⟩
theorem Rps.getV : ∀ {vs : List V} {ds : List D} {i : Nat} {v : V}, Rps K F vs ds → vs[i]? = some v → ∃ d, ds[i]? = some d ∧ Rp K F v d
  | _, _, i, _, .nil, h => by simp at h
  | _, _, 0, _, .cons h t, e => by simp at e; subst e; exact ⟨_, rfl, h⟩
  | _, _, i + 1, v, .cons h t, e => by
    obtain ⟨d, h1, h2⟩ := Rps.getV (i := i) (v := v) t (by simpa using e)
    exact ⟨d, by simpa using h1, h2⟩
theorem Rps.take : ∀ {vs : List V} {ds : List D} (n : Nat), Rps K F vs ds → Rps K F (vs.take n) (ds.take n)
  | _, _, 0, _ => by simp; exact .nil
  | _, _, _ + 1, .nil => by simp; exact .nil
  | _, _, n + 1, .cons h t => by simp; exact .cons h (Rps.take n t)
theorem Rps.drop : ∀ {vs : List V} {ds : List D} (n : Nat), Rps K F vs ds → Rps K F (vs.drop n) (ds.drop n)
  | _, _, 0, h => by simpa using h
  | _, _, _ + 1, .nil => by simp; exact .nil
  | _, _, n + 1, .cons h t => by simpa using Rps.drop n t
theorem Rps.set : ∀ {vs : List V} {ds : List D} (n : Nat) {v : V} {d : D}, Rps K F vs ds → Rp K F v d → Rps K F (vs.set n v) (ds.set n d)
  | _, _, _, _, _, .nil, _ => by simp; exact .nil
  | _, _, 0, _, _, .cons h t, g => by simp; exact .cons g t
  | _, _, n + 1, _, _, .cons h t, g => by simp; exact .cons h (Rps.set n t g)
theorem Rps.rep {vs : List V} {ds : List D} (h : Rps K F vs ds) : ∀ k : Nat, Rps K F (List.replicate k vs).flatten (List.replicate k ds).flatten
  | 0 => by simp; exact .nil
  | k + 1 => by
    rw [List.replicate_succ, List.replicate_succ, List.flatten_cons, List.flatten_cons]
    exact h.append (Rps.rep h k)
theorem Rps.bools : ∀ {ds : List D} {vs : List V} {bs : List Bool}, Rps K F vs ds → boolsD ds = some bs → vs = bs.map V.bl
  | [], _, bs, .nil, e => by simp [boolsD] at e; subst e; rfl
  | .bool b :: ds, _, bs, .cons (.bl _) t, e => by
    simp only [boolsD, Option.map_eq_some_iff] at e
    obtain ⟨cs, e1, rfl⟩ := e
    rw [Rps.bools t e1]; rfl
theorem Rps.intl : ∀ {ds : List D} {vs : List V} {bs : List Int}, Rps K F vs ds → intsD ds = some bs → vs = bs.map V.int
  | [], _, bs, .nil, e => by simp [intsD] at e; subst e; rfl
  | .int b :: ds, _, bs, .cons (.int _) t, e => by
    simp only [intsD, Option.map_eq_some_iff] at e
    obtain ⟨cs, e1, rfl⟩ := e
    rw [Rps.intl t e1]; rfl
theorem Rps.cut {vs : List V} {ds : List D} (h : Rps K F vs ds) (lo hi : Option Int) : Rps K F (cutV vs lo hi) (cutL ds lo hi) := by
  unfold cutV cutL
  rw [h.length]
  exact (h.drop _).take _
theorem Rps.atI {vs : List V} {ds : List D} {i : Int} {d : D} (h : Rps K F vs ds) (e : L2.atI ds i = some d) : ∃ v, L2.atI vs i = some v ∧ Rp K F v d := by
  unfold L2.atI at e ⊢
  rw [h.length]
  cases q : ixN ds.length i with
  | none => rw [q] at e; simp at e
  | some j =>
    rw [q] at e
    exact h.get (by simpa using e)
theorem Rp.flat : ∀ {v : V} {d : D}, Rp K F v d → flatD d = true → flatV v = true
  | _, _, .non, _ => rfl
  | _, _, .bl b, _ => rfl
  | _, _, .int i, _ => rfl
  | _, _, .str x, _ => rfl
  | _, _, .lst h t, e => by simp [flatD] at e
  | _, _, .tup h t, e => by simp [flatD] at e
theorem Rp.eqv_flat : ∀ {v w : V} {d e : D}, Rp K F v d → Rp K F w e → flatD d = true → flatD e = true → eqV v w = PyData.eqv d e := by
  intro v w d e h g h1 h2
  cases h <;> first | (simp [flatD] at h1; done) | (cases g <;> first | (simp [flatD] at h2; done) | (simp [eqV, PyData.eqv]))
theorem Rps.flat : ∀ {vs : List V} {ds : List D}, Rps K F vs ds → ds.all flatD = true → vs.all flatV = true
  | _, _, .nil, _ => rfl
  | _, _, .cons h t, e => by
    rw [List.all_cons, Bool.and_eq_true] at e
    rw [List.all_cons, h.flat e.1, Rps.flat t e.2]; rfl
theorem Rps.inV : ∀ {vs : List V} {ds : List D} {v : V} {d : D}, Rps K F vs ds → Rp K F v d → ds.all flatD = true → flatD d = true → inV v vs = ds.any fun z => PyData.eqv z d
  | _, _, _, _, .nil, _, _, _ => rfl
  | _, _, v, d, .cons h t, g, e, f => by
    rw [List.all_cons, Bool.and_eq_true] at e
    have ih := Rps.inV t g e.2 f
    unfold L2.inV at ih ⊢
    rw [List.any_cons, List.any_cons, ih, Rp.eqv_flat h g e.1 f]
end
def NT (o : HO) : Prop := ∀ ps, o ≠ .tbl ps
theorem nt_lst (vs : List V) : NT (.lst vs) := fun _ z => nomatch z
theorem nt_tup (vs : List V) : NT (.tup vs) := fun _ z => nomatch z
def strip (H : Hp) : Hp := fun b => match H b with
  | some (.tbl _) => none
  | o => o
theorem strip_of {H : Hp} {b : Addr} {o : HO} (h : H b = some o) (n : NT o) : strip H b = some o := by
  unfold strip; rw [h]
  cases o <;> first | rfl | exact absurd rfl (n _)
theorem strip_some {H : Hp} {b : Addr} {o : HO} (h : strip H b = some o) : H b = some o ∧ NT o := by
  unfold strip at h
  split at h
  · cases h
  · rename_i z
    exact ⟨h, fun ps e => z ps (by rw [h, e])⟩
theorem tabs_but {T : List (Addr × Str)} {H H' : Hp} (t : LamX.Tabs T H) (e : ∀ b o, H b = some o → (∀ vs, o ≠ .lst vs) → H' b = some o) : LamX.Tabs T H' := fun p hp => by
  obtain ⟨ps, h1, h2, h3⟩ := t p hp
  refine ⟨ps, e _ _ h1 (fun _ z => nomatch z), h2, fun pos cv hc => ?_⟩
  obtain ⟨c, e1, e2⟩ := h3 pos cv hc
  exact ⟨c, e1, e _ _ e2 (fun _ z => nomatch z)⟩
class Tabl where
  T : List (Addr × Str)
  C : Nat → Addr
  cl : PySem.W.Frag → Hp → V → Nat → List D → Prop
  cl_mono : ∀ {K : PySem.W.Frag} {F F' : Hp} {v : V} {n : Nat} {e : List D}, Same F F' → cl K F v n e → cl K F' v n e
def Mo : HO → Prop
  | .lst _ => True
  | .ins _ _ _ => True
  | _ => False
theorem Mo.nt {o : HO} (h : Mo o) : NT o := fun ps e => by rw [e] at h; exact h
theorem tabs_mut {T : List (Addr × Str)} {H H' : Hp} (t : LamX.Tabs T H) (e : ∀ b o, H b = some o → ¬ Mo o → H' b = some o) : LamX.Tabs T H' := fun p hp => by
  obtain ⟨ps, h1, h2, h3⟩ := t p hp
  refine ⟨ps, e _ _ h1 (fun z => z), h2, fun pos cv hc => ?_⟩
  obtain ⟨c, e1, e2⟩ := h3 pos cv hc
  exact ⟨c, e1, e _ _ e2 (fun z => z)⟩
variable [Tabl]
mutual
def ObOk (K : PySem.W.Frag) (F H : Hp) : Ob → Addr → List Addr → Prop
  | .lst xs, a, fp => fp = [a] ∧ ∃ vs, H a = some (.lst vs) ∧ Rps K F vs xs
  | .dct _, _, _ => False
  | .dcl _, _, _ => False
  | .rws _, _, _ => False
  | .ins c fs, a, fp => ∃ dx fvs fp', H a = some (.ins (Tabl.C c) dx fvs) ∧ fp = a :: fp' ∧ a ∉ fp' ∧ FsOk K F H fs fvs fp'
def FsOk (K : PySem.W.Frag) (F H : Hp) : Fs → List (Str × V) → List Addr → Prop
  | .nil, fvs, fp => fvs = [] ∧ fp = []
  | .cons f x r, fvs, fp => ∃ v rest fp1 fp2, fvs = (f, v) :: rest ∧ fp = fp1 ++ fp2 ∧ (∀ b ∈ fp1, b ∉ fp2) ∧ AvOk K F H x v fp1 ∧ FsOk K F H r rest fp2
def AvOk (K : PySem.W.Frag) (F H : Hp) : AV → V → List Addr → Prop
  | .d x, v, fp => fp = [] ∧ Rp K F v x
  | .o x, v, fp => ∃ b, v = .ref b ∧ ObOk K F H x b fp
  | .clo n e, v, fp => fp = [] ∧ Tabl.cl K F v n e
end
section
variable {K : PySem.W.Frag} {F F' H H' : Hp}
mutual
theorem ObOk.keep (e : Same F F') : ∀ {o : Ob} {a : Addr} {fp : List Addr}, (∀ b ∈ fp, H' b = H b) → ObOk K F H o a fp → ObOk K F' H' o a fp
  | .lst xs, a, fp, k, h => by
    obtain ⟨rfl, vs, h1, h2⟩ := h
    exact ⟨rfl, vs, (k a (by simp)).trans h1, h2.mono e⟩
  | .dct _, _, _, _, h => h
  | .dcl _, _, _, _, h => h
  | .rws _, _, _, _, h => h
  | .ins c fs, a, fp, k, h => by
    obtain ⟨dx, fvs, fp', h1, rfl, h3, h4⟩ := h
    exact ⟨dx, fvs, fp', (k a (by simp)).trans h1, rfl, h3, FsOk.keep e (fun b hb => k b (List.mem_cons_of_mem _ hb)) h4⟩
theorem FsOk.keep (e : Same F F') : ∀ {fs : Fs} {fvs : List (Str × V)} {fp : List Addr}, (∀ b ∈ fp, H' b = H b) → FsOk K F H fs fvs fp → FsOk K F' H' fs fvs fp
  | .nil, _, _, _, h => h
  | .cons f x r, fvs, fp, k, h => by
    obtain ⟨v, rest, fp1, fp2, h1, rfl, h3, h4, h5⟩ := h
    exact ⟨v, rest, fp1, fp2, h1, rfl, h3, AvOk.keep e (fun b hb => k b (List.mem_append_left _ hb)) h4, FsOk.keep e (fun b hb => k b (List.mem_append_right _ hb)) h5⟩
theorem AvOk.keep (e : Same F F') : ∀ {x : AV} {v : V} {fp : List Addr}, (∀ b ∈ fp, H' b = H b) → AvOk K F H x v fp → AvOk K F' H' x v fp
  | .d x, v, fp, k, h => ⟨h.1, h.2.mono e⟩
  | .o x, v, fp, k, h => by
    obtain ⟨b, h1, h2⟩ := h
    exact ⟨b, h1, ObOk.keep e k h2⟩
  | .clo n e', v, fp, k, h => ⟨h.1, Tabl.cl_mono e h.2⟩
end
mutual
theorem ObOk.dom : ∀ {o : Ob} {a : Addr} {fp : List Addr}, ObOk K F H o a fp → ∀ b ∈ fp, ∃ u, H b = some u ∧ Mo u
  | .lst xs, a, fp, h, b, hb => by
    obtain ⟨rfl, vs, h1, h2⟩ := h
    simp at hb; subst hb
    exact ⟨_, h1, True.intro⟩
  | .dct _, _, _, h, _, _ => h.elim
  | .dcl _, _, _, h, _, _ => h.elim
  | .rws _, _, _, h, _, _ => h.elim
  | .ins c fs, a, fp, h, b, hb => by
    obtain ⟨dx, fvs, fp', h1, rfl, h3, h4⟩ := h
    rcases List.mem_cons.mp hb with rfl | hb
    · exact ⟨_, h1, True.intro⟩
    · exact FsOk.dom h4 b hb
theorem FsOk.dom : ∀ {fs : Fs} {fvs : List (Str × V)} {fp : List Addr}, FsOk K F H fs fvs fp → ∀ b ∈ fp, ∃ u, H b = some u ∧ Mo u
  | .nil, _, _, h, b, hb => by
    obtain ⟨_, rfl⟩ := h
    simp at hb
  | .cons f x r, fvs, fp, h, b, hb => by
    obtain ⟨v, rest, fp1, fp2, h1, rfl, h3, h4, h5⟩ := h
    rcases List.mem_append.mp hb with hb | hb
    · exact AvOk.dom h4 b hb
    · exact FsOk.dom h5 b hb
theorem AvOk.dom : ∀ {x : AV} {v : V} {fp : List Addr}, AvOk K F H x v fp → ∀ b ∈ fp, ∃ u, H b = some u ∧ Mo u
  | .d x, v, fp, h, b, hb => by rw [h.1] at hb; simp at hb
  | .o x, v, fp, h, b, hb => by
    obtain ⟨_, h1, h2⟩ := h
    exact ObOk.dom h2 b hb
  | .clo n e', v, fp, h, b, hb => by rw [h.1] at hb; simp at hb
end
theorem ObOk.same (e : Same F F') (g : Same H H') {o : Ob} {a : Addr} {fp : List Addr} (h : ObOk K F H o a fp) : ObOk K F' H' o a fp := h.keep e fun b hb => by
  obtain ⟨u, h1, _⟩ := h.dom b hb
  rw [h1]; exact g b u h1
theorem ObOk.root {o : Ob} {a : Addr} {fp : List Addr} (h : ObOk K F H o a fp) : a ∈ fp := by
  cases o with
  | lst xs => obtain ⟨rfl, _⟩ := h; simp
  | ins c fs => obtain ⟨_, _, _, _, rfl, _⟩ := h; simp
  | dct _ => exact h.elim
  | dcl _ => exact h.elim
  | rws _ => exact h.elim
theorem FsOk.split (f : Str) : ∀ {fs : Fs} {fvs : List (Str × V)} {fp : List Addr}, FsOk K F H fs fvs fp → ∃ fpf : List Addr, (∀ b ∈ fpf, b ∈ fp) ∧
    (match fs.get f with | some x0 => ∃ v0, fvs.lookup f = some v0 ∧ AvOk K F H x0 v0 fpf | none => fvs.lookup f = none ∧ fpf = []) ∧
    ∀ (F' H' : Hp) (x : AV) (v : V) (fp1 : List Addr), Same F F' → (∀ b ∈ fp, b ∉ fpf → H' b = H b) → AvOk K F' H' x v fp1 → (∀ b ∈ fp1, b ∈ fpf ∨ b ∉ fp) → ∃ fp', FsOk K F' H' (fs.put f x) (L2.putF f v fvs) fp' ∧ ∀ b ∈ fp', b ∈ fp1 ∨ (b ∈ fp ∧ b ∉ fpf)
  | .nil, fvs, fp, h => by
    obtain ⟨rfl, rfl⟩ := h
    refine ⟨[], fun b hb => hb, ⟨rfl, rfl⟩, fun F' H' x v fp1 e k h1 d => ⟨fp1, ⟨v, [], fp1, [], rfl, by simp, fun b _ => by simp, h1, rfl, rfl⟩, fun b hb => .inl hb⟩⟩
  | .cons g y r, fvs, fp, h => by
    obtain ⟨v0, rest, fp1, fp2, rfl, rfl, h3, h4, h5⟩ := h
    by_cases hg : g = f
    · subst hg
      refine ⟨fp1, fun b hb => List.mem_append_left _ hb, ?_, fun F' H' x v fq e k h1 d => ⟨fq ++ fp2, ?_, fun b hb => ?_⟩⟩
      · simp only [Fs.get, if_pos]
        exact ⟨v0, by simp, h4⟩
      · simp only [Fs.put, L2.putF, if_pos]
        refine ⟨v, rest, fq, fp2, rfl, rfl, fun b hb hb2 => ?_, h1, FsOk.keep e (fun b hb => k b (List.mem_append_right _ hb) fun z => h3 b z hb) h5⟩
        rcases d b hb with z | z
        · exact h3 b z hb2
        · exact z (List.mem_append_right _ hb2)
      · rcases List.mem_append.mp hb with hb | hb
        · exact .inl hb
        · exact .inr ⟨List.mem_append_right _ hb, fun z => h3 b z hb⟩
    · obtain ⟨fpf, q1, q2, q3⟩ := FsOk.split f h5
      refine ⟨fpf, fun b hb => List.mem_append_right _ (q1 b hb), ?_, fun F' H' x v fq e k h1 d => ?_⟩
      · simp only [Fs.get, if_neg hg]
        have hb : (f == g) = false := by simpa using fun z : f = g => hg z.symm
        simp only [List.lookup_cons, hb]
        exact q2
      · have nf : ∀ b ∈ fp1, b ∉ fpf := fun b hb z => h3 b hb (q1 b z)
        obtain ⟨fp', g1, g2⟩ := q3 F' H' x v fq e (fun b hb n => k b (List.mem_append_right _ hb) n) h1 fun b hb => by
          rcases d b hb with z | z
          · exact .inl z
          · exact .inr fun z' => z (List.mem_append_right _ z')
        refine ⟨fp1 ++ fp', ?_, fun b hb => ?_⟩
        · simp only [Fs.put, L2.putF, if_neg hg]
          refine ⟨v0, _, fp1, fp', rfl, rfl, fun b hb hb2 => ?_, AvOk.keep e (fun b hb => k b (List.mem_append_left _ hb) (nf b hb)) h4, g1⟩
          rcases g2 b hb2 with z | ⟨z, _⟩
          · rcases d b z with z | z
            · exact nf b hb z
            · exact z (List.mem_append_left _ hb)
          · exact h3 b hb z
        · rcases List.mem_append.mp hb with hb | hb
          · exact .inr ⟨List.mem_append_left _ hb, nf b hb⟩
          · rcases g2 b hb with z | ⟨z, z2⟩
            · exact .inl z
            · exact .inr ⟨List.mem_append_right _ z, z2⟩
theorem FsOk.len : ∀ {fs : Fs} {fvs : List (Str × V)} {fp : List Addr}, FsOk K F H fs fvs fp → fvs.length = fs.len
  | .nil, _, _, h => by obtain ⟨rfl, _⟩ := h; rfl
  | .cons f x r, fvs, fp, h => by
    obtain ⟨v, rest, fp1, fp2, rfl, rfl, h3, h4, h5⟩ := h
    rw [List.length_cons, FsOk.len h5]; rfl
end
structure Fx where
  B : Nat → List Addr
  R : Nat → Option Addr
  H0 : Hp
  F0 : Hp
structure TabR (fx : Fx) (Fz H : Hp) : Prop where
  h0 : ∀ b o, fx.H0 b = some o → NT o
  hF : ∀ b o, Fz b = some o → NT o
  tb : LamX.Tabs Tabl.T H
def SlotOk (K : PySem.W.Frag) (Fz H : Hp) : SV → V → List Addr → Prop
  | .d x, v, _ => Rp K Fz v x
  | .ob _ o, v, fp => ∃ a, v = .ref a ∧ ObOk K Fz H o a fp
  | .clo n e, v, _ => Tabl.cl K Fz v n e
structure Rel (K : PySem.W.Frag) (fx : Fx) (Fz : Hp) (σ : L2.St) (H : Hp) (s : S) (φ : Nat → List Addr) : Prop where
  sub : Same Fz H
  dom : ∀ b o, fx.H0 b = some o → ∃ u, H b = some u ∧ NT u
  old : ∀ b o, fx.H0 b = some o → (∀ i, b ∉ fx.B i) → H b = some o
  f0 : Same fx.F0 Fz
  nf : ∀ b o, fx.H0 b = some o → fx.F0 b = none → Fz b = none
  sl : ∀ (i : Nat) (x : SV), s[i]? = some (some x) → ∃ v, σ[i]? = some (some v) ∧ SlotOk K Fz H x v (φ i)
  fz : ∀ (i : Nat) (w : Bool) (o : Ob), s[i]? = some (some (.ob w o)) → ∀ b ∈ φ i, Fz b = none ∧ (fx.H0 b = none ∨ (w = false ∧ b ∈ fx.B i))
  dj : ∀ (i j : Nat) (w w' : Bool) (o o' : Ob), i ≠ j → s[i]? = some (some (.ob w o)) → s[j]? = some (some (.ob w' o')) → ∀ b ∈ φ i, b ∉ φ j
  rt : ∀ (i : Nat) (a : Addr), fx.R i = some a → σ[i]? = some (some (.ref a)) ∧ ∃ o, s[i]? = some (some (.ob false o))
  len : s.length = σ.length
  tt : TabR fx Fz H
def AtV (σ : L2.St) (H : Hp) (p : Pl) (v : V) : Prop := match p.f with
  | none => σ[p.i]? = some (some v)
  | some f => ∃ a c dx fvs, σ[p.i]? = some (some (.ref a)) ∧ H a = some (.ins (Tabl.C c) dx fvs) ∧ fvs.lookup f = some v
def RvOk (K : PySem.W.Frag) (fx : Fx) (Fz : Hp) (σ : L2.St) (H : Hp) (s : S) (φ : Nat → List Addr) : RV → V → List Addr → Prop
  | .d x, v, fp => fp = [] ∧ Rp K Fz v x
  | .ob o, v, fp => (∃ a, v = .ref a ∧ ObOk K Fz H o a fp) ∧ (∀ b ∈ fp, Fz b = none ∧ fx.H0 b = none) ∧ ∀ (i : Nat) w o', s[i]? = some (some (.ob w o')) → ∀ b ∈ fp, b ∉ φ i
  | .clo n e, v, fp => fp = [] ∧ Tabl.cl K Fz v n e
  | .bor p, v, fp => fp = [] ∧ AtV σ H p v
structure Go (L : Nat → Prop) (Fz H : Hp) (s : S) (φ : Nat → List Addr) (Fz' H' : Hp) (s' : S) (φ' : Nat → List Addr) : Prop where
  fz : Same Fz Fz'
  fr : ∀ b o, H b = some o → NT o → (∀ (i : Nat) w x, L i → s[i]? = some (some (.ob w x)) → b ∉ φ i) → H' b = some o
  dm : ∀ b o, H b = some o → NT o → ∃ u, H' b = some u ∧ NT u
  nz : ∀ b o, H b = some o → NT o → Fz b = none → (∀ (i : Nat) w x, s[i]? = some (some (.ob w x)) → b ∉ φ i) → Fz' b = none
  ob : ∀ (i : Nat) w x, s'[i]? = some (some (.ob w x)) → (∃ x', s[i]? = some (some (.ob w x'))) ∧ ∀ b ∈ φ' i, b ∈ φ i ∨ strip H b = none
section
variable {K : PySem.W.Frag} {L : Nat → Prop} {fx : Fx} {Fz Fz1 Fz2 H H1 H2 : Hp} {σ : L2.St} {s s1 s2 : S} {φ φ1 φ2 : Nat → List Addr}
theorem Go.refl : Go L Fz H s φ Fz H s φ := ⟨Same.refl _, fun _ _ h _ _ => h, fun _ _ h n => ⟨_, h, n⟩, fun _ _ _ _ h _ => h, fun _ _ x h => ⟨⟨x, h⟩, fun _ hb => .inl hb⟩⟩
theorem strip_none {H : Hp} {b : Addr} {o : HO} (h : strip H b = none) (e : H b = some o) (n : NT o) : False := by
  rw [strip_of e n] at h; cases h
theorem Go.trans (g : Go L Fz H s φ Fz1 H1 s1 φ1) (h : Go L Fz1 H1 s1 φ1 Fz2 H2 s2 φ2) : Go L Fz H s φ Fz2 H2 s2 φ2 := by
  have out : ∀ b o, H b = some o → NT o → (∀ (i : Nat) w x, s[i]? = some (some (.ob w x)) → b ∉ φ i) → ∀ (i : Nat) w x, s1[i]? = some (some (.ob w x)) → b ∉ φ1 i := fun b o e n k i w x q z => by
    obtain ⟨⟨x', q'⟩, f⟩ := g.ob i w x q
    rcases f b z with f | f
    · exact k i w x' q' f
    · exact strip_none f e n
  refine ⟨g.fz.trans h.fz, fun b o e n k => h.fr b o (g.fr b o e n k) n (fun i w x hL q z => by
    obtain ⟨⟨x', q'⟩, f⟩ := g.ob i w x q
    rcases f b z with f | f
    · exact k i w x' hL q' f
    · exact strip_none f e n), fun b o e n => ?_, fun b o e n z k => ?_, fun i w x q => ?_⟩
  · obtain ⟨u, e', n'⟩ := g.dm b o e n
    exact h.dm b u e' n'
  · exact h.nz b o (g.fr b o e n fun i w x _ q => k i w x q) n (g.nz b o e n z k) (out b o e n k)
  · obtain ⟨⟨x', q'⟩, f⟩ := h.ob i w x q
    obtain ⟨q2, f2⟩ := g.ob i w x' q'
    refine ⟨q2, fun b hb => ?_⟩
    rcases f b hb with f | f
    · exact f2 b f
    · refine .inr ?_
      cases e : strip H b with
      | none => rfl
      | some o =>
        obtain ⟨e1, n1⟩ := strip_some e
        obtain ⟨u, e', n'⟩ := g.dm b o e1 n1
        exact (strip_none f e' n').elim
theorem Go.mono {L' : Nat → Prop} (h : ∀ i, L i → L' i) (g : Go L Fz H s φ Fz1 H1 s1 φ1) : Go L' Fz H s φ Fz1 H1 s1 φ1 := ⟨g.fz, fun b o e n k => g.fr b o e n fun i w x hL => k i w x (h i hL), g.dm, g.nz, g.ob⟩
theorem Rel.free (r : Rel K fx Fz σ H s φ) {p : Addr} (h : H p = none) : Fz p = none := r.sub.free h
theorem Rel.free0' (r : Rel K fx Fz σ H s φ) {p : Addr} (h : strip H p = none) : fx.H0 p = none := by
  cases q : fx.H0 p with
  | none => rfl
  | some o => obtain ⟨u, e, n⟩ := r.dom p o q; exact (strip_none h e n).elim
theorem strip_free {H : Hp} {p : Addr} (h : H p = none) : strip H p = none := by unfold strip; rw [h]
theorem Rel.free0 (r : Rel K fx Fz σ H s φ) {p : Addr} (h : H p = none) : fx.H0 p = none := r.free0' (strip_free h)
theorem Rel.foot (r : Rel K fx Fz σ H s φ) {i : Nat} {w : Bool} {o : Ob} (h : s[i]? = some (some (.ob w o))) : ∀ b ∈ φ i, ∃ u, H b = some u ∧ Mo u := by
  obtain ⟨v, _, a, _, h2⟩ := r.sl i _ h
  exact h2.dom
theorem same_upd {H : Hp} {p : Addr} {o : HO} (h : H p = none) : Same H (upd H p o) := fun b x e => by
  rw [upd_ne (ne_of_none e h)]
  exact e
theorem SlotOk.same {x : SV} {v : V} {fp : List Addr} (e : Same Fz Fz1) (g : Same H H1) (h : SlotOk K Fz H x v fp) : SlotOk K Fz1 H1 x v fp := by
  cases x with
  | d x => exact Rp.mono e h
  | ob w o => obtain ⟨a, h1, h2⟩ := h; exact ⟨a, h1, h2.same e g⟩
  | clo n c => exact Tabl.cl_mono e h
theorem SlotOk.keep {x : SV} {v : V} {fp : List Addr} (e : Same Fz Fz1) (k : ∀ w o, x = .ob w o → ∀ b ∈ fp, H1 b = H b) (h : SlotOk K Fz H x v fp) : SlotOk K Fz1 H1 x v fp := by
  cases x with
  | d x => exact Rp.mono e h
  | ob w o => obtain ⟨a, h1, h2⟩ := h; exact ⟨a, h1, h2.keep e (k w o rfl)⟩
  | clo n c => exact Tabl.cl_mono e h
theorem TabR.same (t : TabR fx Fz H) (e : Same H H1) : TabR fx Fz H1 := ⟨t.h0, t.hF, t.tb.ext e⟩
theorem TabR.frz {a : Addr} {o : HO} (t : TabR fx Fz H) (n : NT o) : TabR fx (upd Fz a o) H := ⟨t.h0, fun b u q => by
  by_cases hb : b = a
  · subst hb; rw [upd_same] at q; cases q; exact n
  · rw [upd_ne hb] at q; exact t.hF b u q, t.tb⟩
theorem AtV.same {p : Pl} {v : V} (g : Same H H1) (h : AtV σ H p v) : AtV σ H1 p v := by
  unfold AtV at h ⊢
  split at h
  · exact h
  · obtain ⟨a, C, dx, fvs, h1, h2, h3⟩ := h
    exact ⟨a, C, dx, fvs, h1, g _ _ h2, h3⟩
theorem Rel.lay (r : Rel K fx Fz σ H s φ) {p : Addr} {o : HO} (h : H p = none) (no : NT o := by exact fun _ z => nomatch z) : Go L Fz H s φ (upd Fz p o) (upd H p o) s φ ∧ Rel K fx (upd Fz p o) σ (upd H p o) s φ := by
  have hF := r.free h
  have h0 := r.free0 h
  have e1 : Same Fz (upd Fz p o) := same_upd hF
  have e2 : Same H (upd H p o) := same_upd h
  refine ⟨⟨e1, fun b u q _ _ => e2 _ _ q, fun b u q n => ⟨u, e2 _ _ q, n⟩, fun b u q _ n _ => by rw [upd_ne (ne_of_none q h)]; exact n, fun i w x q => ⟨⟨x, q⟩, fun b hb => .inl hb⟩⟩, ⟨?_, fun b u q => ?_, fun b u q n => e2 _ _ (r.old b u q n), fun b u q => e1 _ _ (r.f0 b u q), fun b u q n => ?_, fun i x q => ?_, fun i w x q b hb => ?_, r.dj, r.rt, r.len, (r.tt.same e2).frz no⟩⟩
  · intro b u q
    by_cases hb : b = p
    · subst hb; rw [upd_same] at q ⊢; exact q
    · rw [upd_ne hb] at q ⊢; exact r.sub b u q
  · obtain ⟨u', q', n'⟩ := r.dom b u q
    exact ⟨u', e2 _ _ q', n'⟩
  · rw [upd_ne (ne_of_none q h0)]
    exact r.nf b u q n
  · obtain ⟨v, g1, g2⟩ := r.sl i x q
    exact ⟨v, g1, g2.same e1 e2⟩
  · obtain ⟨f1, f2⟩ := r.fz i w x q b hb
    obtain ⟨u, f3, _⟩ := r.foot q b hb
    refine ⟨?_, f2⟩
    rw [upd_ne (ne_of_none f3 h)]; exact f1
theorem Rel.layOwn (r : Rel K fx Fz σ H s φ) {p : Addr} {vs : List V} {xs : List D} (h : H p = none) (hv : Rps K Fz vs xs) : Go L Fz H s φ Fz (upd H p (.lst vs)) s φ ∧ Rel K fx Fz σ (upd H p (.lst vs)) s φ ∧ RvOk K fx Fz σ (upd H p (.lst vs)) s φ (.ob (.lst xs)) (.ref p) [p] := by
  have e2 : Same H (upd H p (.lst vs)) := same_upd h
  refine ⟨⟨Same.refl _, fun b u q _ _ => e2 _ _ q, fun b u q n => ⟨u, e2 _ _ q, n⟩, fun b u q _ n _ => n, fun i w x q => ⟨⟨x, q⟩, fun b hb => .inl hb⟩⟩, ⟨r.sub.trans e2, fun b u q => ?_, fun b u q n => e2 _ _ (r.old b u q n), r.f0, r.nf, fun i x q => ?_, r.fz, r.dj, r.rt, r.len, r.tt.same e2⟩, ⟨p, rfl, rfl, vs, upd_same, hv⟩, fun b hb => ?_, fun i w o q b hb => ?_⟩
  · obtain ⟨u', q', n'⟩ := r.dom b u q
    exact ⟨u', e2 _ _ q', n'⟩
  · obtain ⟨v, g1, g2⟩ := r.sl i x q
    exact ⟨v, g1, g2.same (Same.refl _) e2⟩
  · simp at hb; subst hb
    exact ⟨r.free h, r.free0 h⟩
  · simp at hb; subst hb
    intro z
    obtain ⟨u, f3, _⟩ := r.foot q b z
    rw [h] at f3; cases f3
theorem RvOk.freeze (r : Rel K fx Fz σ H s φ) {F0 H0 : Hp} {s0 : S} {φ0 : Nat → List Addr} (g : Go L F0 H0 s0 φ0 Fz H s φ) {x : RV} {v : V} {fp : List Addr} {d : D} (h : RvOk K fx Fz σ H s φ x v fp) (hf : ∀ b ∈ fp, strip H0 b = none) (hd : x.toD = some d) : ∃ Fz', Go L F0 H0 s0 φ0 Fz' H s φ ∧ Rel K fx Fz' σ H s φ ∧ Rp K Fz' v d := by
  cases x with
  | d x => cases hd; exact ⟨Fz, g, r, h.2⟩
  | clo n e => cases hd
  | bor p => cases hd
  | ob o =>
    cases o with
    | dct _ => cases hd
    | dcl _ => cases hd
    | rws _ => cases hd
    | ins _ _ => cases hd
    | lst xs =>
      cases hd
      obtain ⟨⟨a, rfl, rfl, vs, h2, h5⟩, h4, h6⟩ := h
      obtain ⟨h4, h3⟩ := h4 a (by simp)
      have e1 : Same Fz (upd Fz a (.lst vs)) := same_upd h4
      have ha := hf a (by simp)
      refine ⟨upd Fz a (.lst vs), ⟨g.fz.trans e1, g.fr, g.dm, fun b u q m n k => by rw [upd_ne (fun z => by rw [z] at q; exact strip_none ha q m)]; exact g.nz b u q m n k, g.ob⟩, ⟨?_, r.dom, r.old, fun b u q => e1 _ _ (r.f0 b u q), fun b u q n => ?_, fun i x q => ?_, fun i w x q b hb => ?_, r.dj, r.rt, r.len, r.tt.frz (nt_lst _)⟩, .lst upd_same (h5.mono e1)⟩
      · intro b u q
        by_cases hb : b = a
        · subst hb; rw [upd_same] at q; cases q; exact h2
        · rw [upd_ne hb] at q; exact r.sub b u q
      · rw [upd_ne (ne_of_none q h3)]
        exact r.nf b u q n
      · obtain ⟨w, g1, g2⟩ := r.sl i x q
        exact ⟨w, g1, g2.same e1 (Same.refl _)⟩
      · obtain ⟨f1, f2⟩ := r.fz i w x q b hb
        refine ⟨?_, f2⟩
        rw [upd_ne (fun z => h6 i w x q b (by simp [z]) hb)]; exact f1
theorem Rel.freezeSlot (r : Rel K fx Fz σ H s φ) {i : Nat} {xs : List D} (q : s[i]? = some (some (.ob true (.lst xs)))) : ∃ v Fz', σ[i]? = some (some v) ∧ Go L Fz H s φ Fz' H (s.set i (some (.d (.list xs)))) φ ∧ Rel K fx Fz' σ H (s.set i (some (.d (.list xs)))) φ ∧ Rp K Fz' v (.list xs) := by
  obtain ⟨v, g1, a, rfl, e0, vs, h2, h5⟩ := r.sl i _ q
  have ha : a ∈ φ i := by rw [e0]; simp
  obtain ⟨h4, h3⟩ := r.fz i _ _ q a ha
  have h3 : fx.H0 a = none := by
    rcases h3 with h | h
    · exact h
    · cases h.1
  have e1 : Same Fz (upd Fz a (.lst vs)) := same_upd h4
  have hi : i < s.length := (List.getElem?_eq_some_iff.mp q).1
  have obs : ∀ (j : Nat) w x, (s.set i (some (.d (.list xs))))[j]? = some (some (.ob w x)) → j ≠ i ∧ s[j]? = some (some (.ob w x)) := fun j w x h => by
    by_cases hj : j = i
    · subst hj; rw [List.getElem?_set_self hi] at h; cases h
    · rw [List.getElem?_set_ne (Ne.symm hj)] at h; exact ⟨hj, h⟩
  refine ⟨_, upd Fz a (.lst vs), g1, ⟨e1, fun b u q _ _ => q, fun b u q n => ⟨u, q, n⟩, fun b u _ _ n k => by rw [upd_ne (fun z => k i _ _ q (by rw [z]; exact ha))]; exact n, fun j w x q => ⟨⟨x, (obs j w x q).2⟩, fun b hb => .inl hb⟩⟩, ⟨?_, r.dom, r.old, fun b u q => e1 _ _ (r.f0 b u q), fun b u q n => ?_, fun j x hq => ?_, fun j w x hq b hb => ?_, fun j k w w' o o' hn q1 q2 => r.dj j k w w' o o' hn (obs _ _ _ q1).2 (obs _ _ _ q2).2, fun j b hb => ?_, by simpa using r.len, r.tt.frz (nt_lst _)⟩, .lst upd_same (h5.mono e1)⟩
  · intro b u q
    by_cases hb : b = a
    · subst hb; rw [upd_same] at q; cases q; exact h2
    · rw [upd_ne hb] at q; exact r.sub b u q
  · rw [upd_ne (ne_of_none q h3)]
    exact r.nf b u q n
  · by_cases hj : j = i
    · subst hj
      simp only [List.getElem?_set_self hi] at hq
      cases hq
      exact ⟨_, g1, .lst upd_same (h5.mono e1)⟩
    · rw [List.getElem?_set_ne (Ne.symm hj)] at hq
      obtain ⟨w, k1, k2⟩ := r.sl j x hq
      exact ⟨w, k1, k2.same e1 (Same.refl _)⟩
  · obtain ⟨hj, hq⟩ := obs j w x hq
    obtain ⟨f1, f2⟩ := r.fz j w x hq b hb
    refine ⟨?_, f2⟩
    rw [upd_ne (fun z => r.dj j i w true x _ hj hq q b hb (by rw [z]; exact ha))]; exact f1
  · obtain ⟨k1, o, k2⟩ := r.rt j b hb
    refine ⟨k1, o, ?_⟩
    by_cases hj : j = i
    · subst hj; rw [q] at k2; cases k2
    · rw [List.getElem?_set_ne (Ne.symm hj)]; exact k2
theorem Rel.atPl (r : Rel K fx Fz σ H s φ) {p : Pl} {x : AV} (q : VL.atPl s p = some x) : ∃ v fp, AtV σ H p v ∧ AvOk K Fz H x v fp ∧ (∀ b ∈ fp, b ∈ φ p.i) ∧ (∀ f, p.f = some f → ∃ w c fs, s[p.i]? = some (some (.ob w (.ins c fs))) ∧ fs.get f = some x) ∧ (∀ o, p.f = none → x = .o o → ∃ w, s[p.i]? = some (some (.ob w o)) ∧ fp = φ p.i) := by
  obtain ⟨i, f⟩ := p
  unfold VL.atPl at q
  dsimp only at q
  cases e : s[i]? with
  | none => rw [e] at q; cases q
  | some o =>
    cases o with
    | none => rw [e] at q; cases q
    | some y =>
      rw [e] at q
      obtain ⟨v, g1, g2⟩ := r.sl i y e
      cases f with
      | none =>
        cases y with
        | d y => cases q; exact ⟨v, [], g1, ⟨rfl, g2⟩, fun _ hb => by simp at hb, fun f hf => by simp at hf, fun o _ h => by cases h⟩
        | clo n c => cases q; exact ⟨v, [], g1, ⟨rfl, g2⟩, fun _ hb => by simp at hb, fun f hf => by simp at hf, fun o _ h => by cases h⟩
        | ob w o =>
          cases q
          obtain ⟨a, rfl, h2⟩ := g2
          exact ⟨_, φ i, g1, ⟨a, rfl, h2⟩, fun _ hb => hb, fun f hf => by simp at hf, fun o' _ h => by cases h; exact ⟨w, rfl, rfl⟩⟩
      | some f =>
        cases y with
        | d y => cases q
        | clo n c => cases q
        | ob w o =>
          cases o with
          | lst _ => cases q
          | dct _ => cases q
          | dcl _ => cases q
          | rws _ => cases q
          | ins c fs =>
            have q : fs.get f = some x := q
            obtain ⟨a, rfl, dx, fvs, fp', h1, h2, h3, h4⟩ := g2
            obtain ⟨fpf, k1, k2, _⟩ := FsOk.split f h4
            rw [q] at k2
            obtain ⟨v0, m1, m2⟩ := k2
            exact ⟨v0, fpf, ⟨a, _, dx, fvs, g1, h1, m1⟩, m2, fun b hb => by show b ∈ φ i; rw [h2]; exact List.mem_cons_of_mem _ (k1 b hb), fun f' hf => by cases hf; exact ⟨w, c, fs, rfl, q⟩, fun o hf => by cases hf⟩
theorem Rel.put (r : Rel K fx Fz σ H s φ) {i : Nat} {x : RV} {y : SV} {v : V} {fp : List Addr} {s' : S} (h : RvOk K fx Fz σ H s φ x v fp) (hy : x.toSV = some y) (hs : setSlot s i y = some s') : Rel K fx Fz (σ.set i (some v)) H s' (fun j => if j = i then fp else φ j) := by
  have hnb : ∀ o, s[i]? ≠ some (some (.ob false o)) := fun o z => by unfold setSlot at hs; rw [z] at hs; cases hs
  have hs' : s' = s.set i (some y) := by
    unfold setSlot at hs
    split at hs
    · cases hs
    · cases hs; rfl
  subst hs'
  have hlt : ∀ (j : Nat) z, (s.set i (some y))[j]? = some (some z) → (j = i ∧ z = y ∧ i < s.length) ∨ (j ≠ i ∧ s[j]? = some (some z)) := fun j z q => by
    by_cases hj : j = i
    · subst hj
      have hi : j < s.length := by have := (List.getElem?_eq_some_iff.mp q).1; simpa using this
      rw [List.getElem?_set_self hi] at q
      cases q
      exact .inl ⟨rfl, rfl, hi⟩
    · rw [List.getElem?_set_ne (Ne.symm hj)] at q
      exact .inr ⟨hj, q⟩
  have own : ∀ w o, y = .ob w o → w = true ∧ x = .ob o := fun w o e => by
    subst e
    cases x with
    | d _ => cases hy
    | clo _ _ => cases hy
    | bor _ => cases hy
    | ob o' => cases hy; exact ⟨rfl, rfl⟩
  refine ⟨r.sub, r.dom, r.old, r.f0, r.nf, fun j z q => ?_, fun j w o q b hb => ?_, fun j k w w' o o' hn q1 q2 b hb => ?_, fun j a hj => ?_, by simpa using r.len, r.tt⟩
  · rcases hlt j z q with ⟨rfl, rfl, hi⟩ | ⟨hj, q⟩
    · refine ⟨v, by rw [List.getElem?_set_self (by rw [← r.len]; exact hi)], ?_⟩
      simp only [if_pos]
      cases x with
      | d x => cases hy; exact h.2
      | clo n c => cases hy; exact h.2
      | bor p => cases hy
      | ob o => cases hy; exact h.1
    · rw [List.getElem?_set_ne (Ne.symm hj), if_neg hj]
      exact r.sl j z q
  · rcases hlt j _ q with ⟨rfl, e, hi⟩ | ⟨hj, q⟩
    · rw [if_pos rfl] at hb
      obtain ⟨rfl, rfl⟩ := own w o e.symm
      obtain ⟨f1, f2⟩ := h.2.1 b hb
      exact ⟨f1, .inl f2⟩
    · rw [if_neg hj] at hb
      exact r.fz j w o q b hb
  · rcases hlt j _ q1 with ⟨rfl, e, hi⟩ | ⟨hj, p1⟩
    · rcases hlt k _ q2 with ⟨rfl, _, _⟩ | ⟨hk, p2⟩
      · exact absurd rfl hn
      · rw [if_pos rfl] at hb
        rw [if_neg hk]
        obtain ⟨rfl, rfl⟩ := own w o e.symm
        exact h.2.2 k w' o' p2 b hb
    · rw [if_neg hj] at hb
      rcases hlt k _ q2 with ⟨rfl, e, _⟩ | ⟨hk, p2⟩
      · rw [if_pos rfl]
        obtain ⟨rfl, rfl⟩ := own w' o' e.symm
        exact fun z => h.2.2 j w o p1 b z hb
      · rw [if_neg hk]
        exact r.dj j k w w' o o' hn p1 p2 b hb
  · obtain ⟨k1, o, k2⟩ := r.rt j a hj
    have hji : j ≠ i := fun z => by subst z; exact hnb o k2
    rw [List.getElem?_set_ne (Ne.symm hji), List.getElem?_set_ne (Ne.symm hji)]
    exact ⟨k1, o, k2⟩
theorem Rel.mutate (r : Rel K fx Fz σ H s φ) {i : Nat} {w : Bool} {o o' : Ob} {a : Addr} {fp : List Addr} {F' H' : Hp} (q : s[i]? = some (some (.ob w o))) (hv : σ[i]? = some (some (.ref a))) (hF : Same Fz F') (hS : Same F' H') (hk : ∀ b, b ∉ φ i → ∀ u, H b = some u → NT u → H' b = some u) (hd : ∀ b u, H b = some u → NT u → ∃ u', H' b = some u' ∧ NT u')
    (hL : L i) (ho : ObOk K F' H' o' a fp) (hf : ∀ b ∈ fp, b ∈ φ i ∨ strip H b = none) (hF0 : ∀ b u, H b = some u → NT u → Fz b = none → F' b = none) (hFf : ∀ b ∈ fp, F' b = none) (hN : ∀ b u, F' b = some u → NT u) (hT : LamX.Tabs Tabl.T H') :
    Rel K fx F' σ H' (s.set i (some (.ob w o'))) (fun j => if j = i then fp else φ j) ∧ Go L Fz H s φ F' H' (s.set i (some (.ob w o'))) (fun j => if j = i then fp else φ j) := by
  have hi : i < s.length := (List.getElem?_eq_some_iff.mp q).1
  have hlt : ∀ (j : Nat) z, (s.set i (some (.ob w o')))[j]? = some (some z) → (j = i ∧ z = .ob w o') ∨ (j ≠ i ∧ s[j]? = some (some z)) := fun j z q => by
    by_cases hj : j = i
    · subst hj
      rw [List.getElem?_set_self hi] at q
      cases q
      exact .inl ⟨rfl, rfl⟩
    · rw [List.getElem?_set_ne (Ne.symm hj)] at q
      exact .inr ⟨hj, q⟩
  have keep : ∀ (j : Nat) w1 o1, j ≠ i → s[j]? = some (some (.ob w1 o1)) → ∀ b ∈ φ j, H' b = H b := fun j w1 o1 hj hq b hb => by
    obtain ⟨u, h1, h2⟩ := r.foot hq b hb
    rw [h1]
    exact hk b (fun z => r.dj j i w1 w o1 o hj hq q b hb z) u h1 h2.nt
  refine ⟨⟨hS, fun b u e => ?_, fun b u e n => ?_, fun b u e => hF _ _ (r.f0 b u e), fun b u e n => ?_, fun j z hq => ?_, fun j w1 o1 hq b hb => ?_, fun j k w1 w2 o1 o2 hn q1 q2 b hb => ?_, fun j b hj => ?_, by simpa using r.len, ⟨r.tt.h0, hN, hT⟩⟩, ⟨hF, fun b u e n k => hk b (k i w o hL q) u e n, hd, fun b u e m n _ => hF0 b u e m n, fun j w1 x hq => ?_⟩⟩
  · obtain ⟨u', e', n'⟩ := r.dom b u e
    exact hd b u' e' n'
  · have e' := r.old b u e n
    refine hk b (fun z => ?_) u e' (r.tt.h0 b u e)
    rcases (r.fz i w o q b z).2 with f | f
    · rw [e] at f; cases f
    · exact n i f.2
  · obtain ⟨u', e', n'⟩ := r.dom b u e
    exact hF0 b u' e' n' (r.nf b u e n)
  · rcases hlt j z hq with ⟨rfl, rfl⟩ | ⟨hj, hq⟩
    · exact ⟨_, hv, a, rfl, by simpa using ho⟩
    · obtain ⟨v, g1, g2⟩ := r.sl j z hq
      refine ⟨v, g1, ?_⟩
      rw [if_neg hj]
      exact g2.keep hF fun w1 o1 e b hb => keep j w1 o1 hj (by rw [hq, e]) b hb
  · rcases hlt j _ hq with ⟨rfl, e⟩ | ⟨hj, hq⟩
    · cases e
      rw [if_pos rfl] at hb
      refine ⟨hFf b hb, ?_⟩
      rcases hf b hb with f | f
      · exact (r.fz j _ o q b f).2
      · exact .inl (r.free0' f)
    · rw [if_neg hj] at hb
      obtain ⟨f1, f2⟩ := r.fz j w1 o1 hq b hb
      obtain ⟨u, h1, h2⟩ := r.foot hq b hb
      exact ⟨hF0 b u h1 h2.nt f1, f2⟩
  · rcases hlt j _ q1 with ⟨rfl, e⟩ | ⟨hj, p1⟩
    · rcases hlt k _ q2 with ⟨rfl, _⟩ | ⟨hk', p2⟩
      · exact absurd rfl hn
      · rw [if_pos rfl] at hb
        rw [if_neg hk']
        intro z
        rcases hf b hb with f | f
        · exact r.dj j k w w2 o o2 hn q p2 b f z
        · obtain ⟨u, h1, h2⟩ := r.foot p2 b z
          exact strip_none f h1 h2.nt
    · rw [if_neg hj] at hb
      rcases hlt k _ q2 with ⟨rfl, e⟩ | ⟨hk', p2⟩
      · rw [if_pos rfl]
        intro z
        rcases hf b z with f | f
        · exact r.dj j k w1 w o1 o hn p1 q b hb f
        · obtain ⟨u, h1, h2⟩ := r.foot p1 b hb
          exact strip_none f h1 h2.nt
      · rw [if_neg hk']
        exact r.dj j k w1 w2 o1 o2 hn p1 p2 b hb
  · obtain ⟨k1, o1, k2⟩ := r.rt j b hj
    refine ⟨k1, ?_⟩
    by_cases hji : j = i
    · subst hji
      rw [q] at k2; cases k2
      exact ⟨o', by rw [List.getElem?_set_self hi]⟩
    · exact ⟨o1, by rw [List.getElem?_set_ne (Ne.symm hji)]; exact k2⟩
  · rcases hlt j _ hq with ⟨rfl, e⟩ | ⟨hj, hq⟩
    · cases e
      refine ⟨⟨o, q⟩, fun b hb => ?_⟩
      rw [if_pos rfl] at hb
      exact hf b hb
    · refine ⟨⟨x, hq⟩, fun b hb => ?_⟩
      rw [if_neg hj] at hb
      exact .inl hb
theorem RvOk.go {fx : Fx} (g : Go L Fz H s φ Fz1 H1 s1 φ1) (r1 : Rel K fx Fz1 σ H1 s1 φ1) {x : RV} {v : V} {fp : List Addr} (hp : ∀ p, x = .bor p → p.f = none) (h : RvOk K fx Fz σ H s φ x v fp) : RvOk K fx Fz1 σ H1 s1 φ1 x v fp := by
  cases x with
  | d x => exact ⟨h.1, h.2.mono g.fz⟩
  | clo n e => exact ⟨h.1, Tabl.cl_mono g.fz h.2⟩
  | bor p =>
    refine ⟨h.1, ?_⟩
    have h2 := h.2
    unfold AtV at h2 ⊢
    rw [hp p rfl] at h2 ⊢
    exact h2
  | ob o =>
    obtain ⟨⟨a, rfl, h1⟩, h2, h3⟩ := h
    have hH : ∀ b ∈ fp, H1 b = H b := fun b hb => by
      obtain ⟨u, e, m⟩ := h1.dom b hb
      rw [e]; exact g.fr b u e m.nt fun i w x _ q => h3 i w x q b hb
    refine ⟨⟨a, rfl, h1.keep g.fz hH⟩, fun b hb => ?_, fun i w x q b hb z => ?_⟩
    · obtain ⟨u, e, m⟩ := h1.dom b hb
      exact ⟨g.nz b u e m.nt (h2 b hb).1 fun i w x q => h3 i w x q b hb, (h2 b hb).2⟩
    · obtain ⟨⟨x', q'⟩, f⟩ := g.ob i w x q
      rcases f b z with f | f
      · exact h3 i w x' q' b hb f
      · obtain ⟨u, e, m⟩ := h1.dom b hb
        exact strip_none f e m.nt
theorem Rel.forget (r : Rel K fx Fz σ H s φ) {σ' : L2.St} {s' : S} (hl : s'.length = σ'.length) (h : ∀ (i : Nat) x, s'[i]? = some (some x) → s[i]? = some (some x) ∧ σ'[i]? = σ[i]?) (hb : ∀ (i : Nat) a, fx.R i = some a → s'[i]? = s[i]? ∧ σ'[i]? = σ[i]?) : Rel K fx Fz σ' H s' φ := by
  refine ⟨r.sub, r.dom, r.old, r.f0, r.nf, fun i x q => ?_, fun i w o q => r.fz i w o (h i _ q).1, fun j k w w' o o' hn q1 q2 => r.dj j k w w' o o' hn (h j _ q1).1 (h k _ q2).1, fun i a q => ?_, hl, r.tt⟩
  · obtain ⟨h1, h2⟩ := h i x q
    rw [h2]
    exact r.sl i x h1
  · obtain ⟨h1, h2⟩ := hb i a q
    rw [h1, h2]
    exact r.rt i a q
end
end VL
set_option maxHeartbeats 1000000
namespace VL
open PySem PySem.Spec PyProof.Rows L2
variable [Tabl]
section
variable (K : PySem.W.Frag) (mg : Str → Option Value) (W : WX) (L : Nat → Prop)
def RvsOk (fx : Fx) (Fz : Hp) (σ : L2.St) (H : Hp) (s : S) (φ : Nat → List Addr) : List RV → List V → List (List Addr) → Prop
  | [], [], [] => True
  | r :: rs, v :: vs, fp :: fps => RvOk K fx Fz σ H s φ r v fp ∧ RvsOk fx Fz σ H s φ rs vs fps ∧ ∀ b ∈ fp, ∀ fq ∈ fps, b ∉ fq
  | _, _, _ => False
def PostX (fx : Fx) (Fz H : Hp) (s : S) (φ : Nat → List Addr) (σ : L2.St) (c : Str) (s' : S) : Prop := ∀ C H' Fz' φ', mg c = some C → Go L Fz H s φ Fz' H' s' φ' → Rel K fx Fz' σ H' s' φ' → W C none σ H'
def Post (fx : Fx) (Fz H : Hp) (s : S) (φ : Nat → List Addr) (σ : L2.St) (res : R (List RV)) (Q : VK) : Prop := match res with
  | .ok [r] s' => ∀ v fp H' Fz' φ', Go L Fz H s φ Fz' H' s' φ' → Rel K fx Fz' σ H' s' φ' → RvOk K fx Fz' σ H' s' φ' r v fp → (∀ b ∈ fp, strip H b = none) → Q v H'
  | .exc c s' => PostX K mg W L fx Fz H s φ σ c s'
  | _ => False
def PostD (fx : Fx) (Fz H : Hp) (s : S) (φ : Nat → List Addr) (σ : L2.St) (res : R D) (Q : VK) : Prop := match res with
  | .ok d s' => ∀ v H' Fz' φ', Go L Fz H s φ Fz' H' s' φ' → Rel K fx Fz' σ H' s' φ' → Rp K Fz' v d → Q v H'
  | .exc c s' => PostX K mg W L fx Fz H s φ σ c s'
  | .stuck => False
def PostA (fx : Fx) (Fz H : Hp) (s : S) (φ : Nat → List Addr) (σ : L2.St) (res : R (List RV)) (Q : List V → Hp → Prop) : Prop := match res with
  | .ok rs s' => ∀ vs fps H' Fz' φ', Go L Fz H s φ Fz' H' s' φ' → Rel K fx Fz' σ H' s' φ' → RvsOk K fx Fz' σ H' s' φ' rs vs fps → (∀ fp ∈ fps, ∀ b ∈ fp, strip H b = none) → (∀ p, RV.bor p ∈ rs → p.f = none) → (∀ xs, RV.ob (.lst xs) ∉ rs) → Q vs H'
  | .exc c s' => PostX K mg W L fx Fz H s φ σ c s'
  | .stuck => False
def PostB (fx : Fx) (Fz H : Hp) (s : S) (φ : Nat → List Addr) (σ : L2.St) (res : R Bool) (Q : Bool → Hp → Prop) : Prop := match res with
  | .ok b s' => ∀ H' Fz' φ', Go L Fz H s φ Fz' H' s' φ' → Rel K fx Fz' σ H' s' φ' → Q b H'
  | .exc c s' => PostX K mg W L fx Fz H s φ σ c s'
  | .stuck => False
def tI (m : M (List RV)) : TE := fun σ H Q => ∃ fx Fz s φ, Rel K fx Fz σ H s φ ∧ Post K mg W L fx Fz H s φ σ (m s) Q
def tD (m : M D) : TE := fun σ H Q => ∃ fx Fz s φ, Rel K fx Fz σ H s φ ∧ PostD K mg W L fx Fz H s φ σ (m s) Q
def tA (m : M (List RV)) : TA := fun σ H Q => ∃ fx Fz s φ, Rel K fx Fz σ H s φ ∧ PostA K mg W L fx Fz H s φ σ (m s) Q
def tBo (m : M Bool) : TT := fun σ H Q => ∃ fx Fz s φ, Rel K fx Fz σ H s φ ∧ PostB K mg W L fx Fz H s φ σ (m s) Q
end
theorem PE.imp {X : Cx} {e : Expr} {t t' : TE} (h : PE X e t) (i : ∀ σ H Q, t' σ H Q → t σ H Q) : PE X e t' := ⟨fun pins s σ H Q I q => h.run pins s σ H Q I (i σ H Q q)⟩
theorem PT.imp {X : Cx} {e : Expr} {t t' : TT} (h : PT X e t) (i : ∀ σ H Q, t' σ H Q → t σ H Q) : PT X e t' := ⟨fun pins s σ H Q I q => h.run pins s σ H Q I (i σ H Q q)⟩
theorem PA.imp {X : Cx} {es : List Expr} {t t' : TA} (h : PA X es t) (i : ∀ σ H Q, t' σ H Q → t σ H Q) : PA X es t' := ⟨fun pos pins s σ H Q I q => h.run pos pins s σ H Q I (i σ H Q q)⟩
section
variable {K : PySem.W.Frag} {mg : Str → Option Value} {W : WX} {L : Nat → Prop} {fx : Fx} {Fz Fz1 H H1 : Hp} {σ : L2.St} {s s1 : S} {φ φ1 : Nat → List Addr}
theorem toDs_cons {r : RV} {rs : List RV} {ds : List D} (h : toDs (r :: rs) = some ds) : ∃ d es, ds = d :: es ∧ r.toD = some d ∧ toDs rs = some es := by
  unfold toDs at h
  rw [Option.bind_eq_some_iff] at h
  obtain ⟨d, h1, h⟩ := h
  rw [Option.map_eq_some_iff] at h
  obtain ⟨es, h2, rfl⟩ := h
  exact ⟨d, es, rfl, h1, h2⟩
theorem RvsOk.data : ∀ {rs : List RV} {vs : List V} {fps : List (List Addr)} {ds : List D}, RvsOk K fx Fz σ H s φ rs vs fps → (∀ xs, RV.ob (.lst xs) ∉ rs) → toDs rs = some ds → Rps K Fz vs ds
  | [], [], [], ds, _, _, h => by cases h; exact .nil
  | r :: rs, v :: vs, fp :: fps, ds, h, n, e => by
    obtain ⟨d, es, rfl, e1, e2⟩ := toDs_cons e
    obtain ⟨h1, h2, _⟩ := h
    refine .cons ?_ (RvsOk.data h2 (fun o ho => n o (List.mem_cons_of_mem _ ho)) e2)
    cases r with
    | d x => cases e1; exact h1.2
    | clo _ _ => cases e1
    | bor _ => cases e1
    | ob o =>
      cases o with
      | lst xs => exact absurd List.mem_cons_self (n xs)
      | _ => cases e1
  | [], _ :: _, _, _, h, _, _ => h.elim
  | [], [], _ :: _, _, h, _, _ => h.elim
  | _ :: _, [], _, _, h, _, _ => h.elim
  | _ :: _, _ :: _, [], _, h, _, _ => h.elim
theorem PostX.mono {c : Str} {s' : S} (e : Go L Fz H s φ Fz1 H1 s1 φ1) (h : PostX K mg W L fx Fz H s φ σ c s') : PostX K mg W L fx Fz1 H1 s1 φ1 σ c s' := fun C H' Fz' φ' q g r => h C H' Fz' φ' q (e.trans g) r
theorem free_back (e : Go L Fz H s φ Fz1 H1 s1 φ1) {fp : List Addr} (h : ∀ b ∈ fp, strip H1 b = none) : ∀ b ∈ fp, strip H b = none := fun b hb => by
  cases q : strip H b with
  | none => rfl
  | some o => obtain ⟨q1, q2⟩ := strip_some q; obtain ⟨u, e', n⟩ := e.dm b o q1 q2; exact (strip_none (h b hb) e' n).elim
theorem Post.mono {res : R (List RV)} {Q : VK} (e : Go L Fz H s φ Fz1 H1 s1 φ1) (h : Post K mg W L fx Fz H s φ σ res Q) : Post K mg W L fx Fz1 H1 s1 φ1 σ res Q := by
  cases res with
  | ok l s' =>
    cases l with
    | nil => exact h
    | cons r l =>
      cases l with
      | nil => exact fun v fp H' Fz' φ' g rl rv hf => h v fp H' Fz' φ' (e.trans g) rl rv (free_back e hf)
      | cons _ _ => exact h
  | exc c s' => exact PostX.mono e h
  | stuck => exact h
theorem Post.toD {m : M (List RV)} {Q : VK} (h : PostD K mg W L fx Fz H s φ σ (one1 m s) Q) : Post K mg W L fx Fz H s φ σ (m s) Q := by
  unfold one1 bindM R.bind at h
  cases e : m s with
  | ok l s' =>
    rw [e] at h
    cases l with
    | nil => exact h.elim
    | cons r l =>
      cases l with
      | nil =>
        intro v fp H' Fz' φ' g rl rv hf
        have h : PostD K mg W L fx Fz H s φ σ (optM r.toD s') Q := h
        cases hd : r.toD with
        | none => rw [hd] at h; exact h.elim
        | some d =>
          rw [hd] at h
          obtain ⟨F2, g2, rl2, rp⟩ := rv.freeze rl g hf hd
          exact h v H' F2 φ' g2 rl2 rp
      | cons _ _ => exact h.elim
  | exc c s' => rw [e] at h; exact h
  | stuck => rw [e] at h; exact h.elim
theorem Post.bindD {m : M D} {f : D → M (List RV)} {Q : VK} (h : Post K mg W L fx Fz H s φ σ (bindM m f s) Q) :
    PostD K mg W L fx Fz H s φ σ (m s) fun v H1 => ∃ Fz1 s1 φ1 d, Go L Fz H s φ Fz1 H1 s1 φ1 ∧ Rel K fx Fz1 σ H1 s1 φ1 ∧ Rp K Fz1 v d ∧ m s = .ok d s1 ∧ Post K mg W L fx Fz1 H1 s1 φ1 σ (f d s1) Q := by
  unfold bindM R.bind at h
  cases e : m s with
  | ok d s' =>
    rw [e] at h
    exact fun v H' Fz' φ' g rl rp => ⟨Fz', s', φ', d, g, rl, rp, rfl, h.mono g⟩
  | exc c s' => rw [e] at h; exact h
  | stuck => rw [e] at h; exact h.elim
theorem Post.bindA {m : M (List RV)} {f : List RV → M (List RV)} {Q : VK} (h : Post K mg W L fx Fz H s φ σ (bindM m f s) Q) :
    PostA K mg W L fx Fz H s φ σ (m s) fun vs H1 => ∃ Fz1 s1 φ1 rs fps, Go L Fz H s φ Fz1 H1 s1 φ1 ∧ Rel K fx Fz1 σ H1 s1 φ1 ∧ RvsOk K fx Fz1 σ H1 s1 φ1 rs vs fps ∧ (∀ fp ∈ fps, ∀ b ∈ fp, strip H b = none) ∧ (∀ p, RV.bor p ∈ rs → p.f = none) ∧ (∀ xs, RV.ob (.lst xs) ∉ rs) ∧ m s = .ok rs s1 ∧ Post K mg W L fx Fz H s φ σ (f rs s1) Q := by
  unfold bindM R.bind at h
  cases e : m s with
  | ok d s' =>
    rw [e] at h
    exact fun vs fps H' Fz' φ' g rl rp hf hb hl => ⟨Fz', s', φ', d, fps, g, rl, rp, hf, hb, hl, rfl, h⟩
  | exc c s' => rw [e] at h; exact h
  | stuck => rw [e] at h; exact h.elim
theorem Post.bindB {m : M Bool} {f : Bool → M (List RV)} {Q : VK} (h : Post K mg W L fx Fz H s φ σ (bindM m f s) Q) :
    PostB K mg W L fx Fz H s φ σ (m s) fun b H1 => ∃ Fz1 s1 φ1, Go L Fz H s φ Fz1 H1 s1 φ1 ∧ Rel K fx Fz1 σ H1 s1 φ1 ∧ m s = .ok b s1 ∧ Post K mg W L fx Fz1 H1 s1 φ1 σ (f b s1) Q := by
  unfold bindM R.bind at h
  cases e : m s with
  | ok d s' =>
    rw [e] at h
    exact fun H' Fz' φ' g rl => ⟨Fz', s', φ', g, rl, rfl, h.mono g⟩
  | exc c s' => rw [e] at h; exact h
  | stuck => rw [e] at h; exact h.elim
theorem Post.bindO {α : Type} {o : Option α} {f : α → M (List RV)} {Q : VK} (h : Post K mg W L fx Fz H s φ σ (bindM (optM o) f s1) Q) : ∃ a, o = some a ∧ Post K mg W L fx Fz H s φ σ (f a s1) Q := by
  unfold bindM R.bind optM at h
  cases o with
  | none => exact h.elim
  | some a => exact ⟨a, rfl, h⟩
theorem Post.ret {r : RV} {Q : VK} {v : V} {fp : List Addr} (g : Go L Fz H s φ Fz1 H1 s1 φ1) (rl : Rel K fx Fz1 σ H1 s1 φ1) (rv : RvOk K fx Fz1 σ H1 s1 φ1 r v fp) (hf : ∀ b ∈ fp, strip H b = none) (h : Post K mg W L fx Fz H s φ σ (pureM [r] s1) Q) : Q v H1 := h v fp H1 Fz1 φ1 g rl rv hf
theorem Post.retD {d : D} {Q : VK} {v : V} (rl : Rel K fx Fz σ H s φ) (rv : Rp K Fz v d) (h : Post K mg W L fx Fz H s φ σ (pureM [.d d] s) Q) : Q v H := h v [] H Fz φ Go.refl rl ⟨rfl, rv⟩ (fun _ z => nomatch z)
end
section
variable {X : Cx} {W : WX} {L : Nat → Prop} {cf : CF} {e a b c : Expr} {pos : Pos}
abbrev PX (X : Cx) (W : WX) (L : Nat → Prop) (e : Expr) (m : M (List RV)) : Prop := PE X e (tI X.K X.mg W L m)
abbrev PXD (X : Cx) (W : WX) (L : Nat → Prop) (e : Expr) (m : M D) : Prop := PE X e (tD X.K X.mg W L m)
abbrev PXA (X : Cx) (W : WX) (L : Nat → Prop) (es : List Expr) (m : M (List RV)) : Prop := PA X es (tA X.K X.mg W L m)
abbrev PXT (X : Cx) (W : WX) (L : Nat → Prop) (e : Expr) (m : M Bool) : Prop := PT X e (tBo X.K X.mg W L m)
theorem PX.d {m : M (List RV)} (h : PX X W L e m) : PXD X W L e (one1 m) := PE.imp h fun σ H Q ⟨fx, Fz, s, φ, rl, p⟩ => ⟨fx, Fz, s, φ, rl, Post.toD p⟩
theorem px_cst_int {i : Int} {j : Nat} : PX X W L (.Constant (.int i) j pos) (ev cf (.cst (.int i))) := PE.imp pe_int fun σ H Q ⟨fx, Fz, s, φ, rl, p⟩ => Post.retD rl (.int i) p
theorem px_cst_bool {i : Bool} {j : Nat} : PX X W L (.Constant (.bool i) j pos) (ev cf (.cst (.bool i))) := PE.imp pe_bl fun σ H Q ⟨fx, Fz, s, φ, rl, p⟩ => Post.retD rl (.bl i) p
theorem px_cst_str {i : Str} {j : Nat} : PX X W L (.Constant (.str i) j pos) (ev cf (.cst (.str i))) := PE.imp pe_str fun σ H Q ⟨fx, Fz, s, φ, rl, p⟩ => Post.retD rl (.str i) p
theorem px_cst_none {j : Nat} : PX X W L (.Constant .none j pos) (ev cf (.cst .none)) := PE.imp pe_non fun σ H Q ⟨fx, Fz, s, φ, rl, p⟩ => Post.retD rl .non p
theorem tVar_of {i : Nat} {σ : L2.St} {H : Hp} {Q : VK} {v : V} (h : σ[i]? = some (some v)) (q : Q v H) : tVar i σ H Q := ⟨v, h, q⟩
theorem px_var {i : Nat} {x : Str} (h : PE X (.Name x pos) (tVar i)) : PX X W L (.Name x pos) (ev cf (.var i)) := PE.imp h fun σ H Q ⟨fx, Fz, s, φ, rl, p⟩ => by
  show tVar i σ H Q
  have p : Post X.K X.mg W L fx Fz H s φ σ (bindM (take i) (fun r => pureM [r]) s) Q := p
  unfold bindM R.bind take at p
  cases e : s[i]? with
  | none => rw [e] at p; exact p.elim
  | some o =>
    cases o with
    | none => rw [e] at p; exact p.elim
    | some x =>
      rw [e] at p
      cases x with
      | d x =>
        obtain ⟨v, g1, g2⟩ := rl.sl i _ e
        exact tVar_of g1 (Post.retD (d := x) rl g2 p)
      | clo n c =>
        obtain ⟨v, g1, g2⟩ := rl.sl i _ e
        exact tVar_of g1 (p v [] H Fz φ Go.refl rl ⟨rfl, g2⟩ (fun _ z => nomatch z))
      | ob w o =>
        cases w with
        | false => exact p.elim
        | true =>
          cases o with
          | lst xs =>
            obtain ⟨v, F', g1, g2, g3, g4⟩ := rl.freezeSlot e
            exact tVar_of g1 (p v [] H F' φ g2 g3 ⟨rfl, g4⟩ (fun _ z => nomatch z))
          | _ => exact p.elim
theorem px_glb {x : Str} {v : V} {d : D} (h : PE X (.Name x pos) (tC v)) (r : ∀ F, Rp X.K F v d) : PX X W L (.Name x pos) (ev cf (.glb x d)) := PE.imp h fun σ H Q ⟨fx, Fz, s, φ, rl, p⟩ => Post.retD (d := d) rl (r Fz) p
theorem px_bor {i : Nat} {x : Str} (h : PE X (.Name x pos) (tVar i)) : PX X W L (.Name x pos) (ev cf (.bor i)) := PE.imp h fun σ H Q ⟨fx, Fz, s, φ, rl, p⟩ => by
  have p : Post X.K X.mg W L fx Fz H s φ σ (borM i s) Q := p
  unfold borM at p
  split at p
  · next w o e =>
    obtain ⟨v, g1, _⟩ := rl.sl i _ e
    exact tVar_of g1 (p v [] H Fz φ Go.refl rl ⟨rfl, g1⟩ (fun _ z => nomatch z))
  · exact p.elim
theorem pxa_nil : PXA X W L [] (ev cf .nil) := PA.imp pa_nil fun σ H Q ⟨fx, Fz, s, φ, rl, p⟩ => p [] [] H Fz φ Go.refl rl True.intro (fun _ z => nomatch z) (fun _ z => nomatch z) (fun _ z => nomatch z)
theorem arg_ok {L : Nat → Prop} {K : PySem.W.Frag} {fx : Fx} {Fz H F0 H0 : Hp} {σ : L2.St} {s s0 : S} {φ φ0 : Nat → List Addr} (rl : Rel K fx Fz σ H s φ) (g : Go L F0 H0 s0 φ0 Fz H s φ) {r : RV} {v : V} {fp : List Addr} (rv : RvOk K fx Fz σ H s φ r v fp) (hf : ∀ b ∈ fp, strip H0 b = none) :
    ∃ F2 fp2, Go L F0 H0 s0 φ0 F2 H s φ ∧ Rel K fx F2 σ H s φ ∧ RvOk K fx F2 σ H s φ r.arg v fp2 ∧ (∀ b ∈ fp2, strip H0 b = none) := by
  cases r with
  | d x => exact ⟨Fz, fp, g, rl, rv, hf⟩
  | clo _ _ => exact ⟨Fz, fp, g, rl, rv, hf⟩
  | bor _ => exact ⟨Fz, fp, g, rl, rv, hf⟩
  | ob o =>
    cases o with
    | lst xs =>
      obtain ⟨F2, g2, rl2, rp⟩ := rv.freeze rl g hf rfl
      exact ⟨F2, [], g2, rl2, ⟨rfl, rp⟩, fun _ z => nomatch z⟩
    | dct _ => exact ⟨Fz, fp, g, rl, rv, hf⟩
    | dcl _ => exact ⟨Fz, fp, g, rl, rv, hf⟩
    | rws _ => exact ⟨Fz, fp, g, rl, rv, hf⟩
    | ins _ _ => exact ⟨Fz, fp, g, rl, rv, hf⟩
theorem arg_bor {r : RV} {p : Pl} (h : r.arg = .bor p) : r = .bor p := by
  cases r with
  | d x => cases h
  | clo _ _ => cases h
  | bor _ => exact h
  | ob o => cases o <;> cases h
theorem arg_lst {r : RV} {xs : List D} : r.arg ≠ .ob (.lst xs) := by
  cases r with
  | d x => intro h; cases h
  | clo _ _ => intro h; cases h
  | bor _ => intro h; cases h
  | ob o => cases o <;> (intro h; cases h)
theorem pxa_cons {es : List Expr} {ia ib : IE} (ha : PX X W L e (ev cf ia)) (hnb : ∀ s p s', ev cf ia s = .ok [.bor p] s' → p.f = none) (hb : PXA X W L es (ev cf ib)) (hs : starEach (e :: es) X.env = (false, eval e X.env) :: starEach es X.env) : PXA X W L (e :: es) (ev cf (.cons ia ib)) :=
  PA.imp (pa_cons ha hb hs) fun σ H Q ⟨fx, Fz, s, φ, rl, p⟩ => by
    refine ⟨fx, Fz, s, φ, rl, ?_⟩
    have p : PostA X.K X.mg W L fx Fz H s φ σ (bindM (ev cf ia) (fun x => bindM (one x) fun r => bindM (ev cf ib) fun xs => pureM (r.arg :: xs)) s) Q := p
    unfold bindM R.bind at p
    cases e1 : ev cf ia s with
    | ok l s1 =>
      rw [e1] at p
      cases l with
      | nil => exact p.elim
      | cons r l =>
        cases l with
        | cons _ _ => exact p.elim
        | nil =>
          have p : PostA X.K X.mg W L fx Fz H s φ σ ((ev cf ib s1).bind fun xs => pureM (r.arg :: xs)) Q := p
          intro v fp H1 F1 φ1 g1 rl1 rv hf
          obtain ⟨F2, fp2, g2, rl2, rv2, hf2⟩ := arg_ok rl1 g1 rv hf
          refine ⟨fx, F2, s1, φ1, rl2, ?_⟩
          cases e2 : ev cf ib s1 with
          | ok rs s2 =>
            rw [e2] at p
            intro vs fps H2 F3 φ3 g3 rl3 rps hf3 hb3 hl3
            refine p (v :: vs) (fp2 :: fps) H2 F3 φ3 (g2.trans g3) rl3 ⟨?_, rps, fun b hb fq hq z => ?_⟩ ?_ ?_ ?_
            · exact rv2.go g3 rl3 fun p hp => hnb s p s1 (by rw [e1, arg_bor hp])
            · have hn := hf3 fq hq b z
              cases hr : r.arg with
              | d x => rw [hr] at rv2; rw [rv2.1] at hb; simp at hb
              | clo _ _ => rw [hr] at rv2; rw [rv2.1] at hb; simp at hb
              | bor _ => rw [hr] at rv2; rw [rv2.1] at hb; simp at hb
              | ob o =>
                rw [hr] at rv2
                obtain ⟨⟨a, _, k⟩, _⟩ := rv2
                obtain ⟨u, k1, k2⟩ := k.dom b hb
                exact strip_none hn k1 k2.nt
            · intro fq hq b hb
              rcases List.mem_cons.mp hq with rfl | hq
              · exact hf2 b hb
              · exact free_back g2 (hf3 fq hq) b hb
            · intro p hp
              rcases List.mem_cons.mp hp with z | z
              · exact hnb s p s1 (by rw [e1, arg_bor z.symm])
              · exact hb3 p z
            · intro xs hx
              rcases List.mem_cons.mp hx with z | z
              · exact arg_lst z.symm
              · exact hl3 xs z
          | exc c s2 => rw [e2] at p; exact PostX.mono g2 p
          | stuck => rw [e2] at p; exact p.elim
    | exc c s1 => rw [e1] at p; exact p
    | stuck => rw [e1] at p; exact p.elim
theorem len_le {n : Nat} (h : okLen n = true) : n ≤ sizeLine := Nat.le_trans (of_decide_eq_true h) (by rw [sizeLine_eq]; decide)
end
end VL
set_option maxHeartbeats 1000000
namespace VL
open PySem PySem.Spec PyProof.Rows L2
variable [Tabl]
section
variable {X : Cx} {W : WX} {L : Nat → Prop} {cf : CF} {e a b c : Expr} {pos : Pos} {ia ib ic : IE}
theorem red1 {σ : L2.St} {H : Hp} {Q : VK} {R : V → Hp → Prop} {m : M D} {f : D → M (List RV)}
    (hr : ∀ fx Fz H s φ x d, Rel X.K fx Fz σ H s φ → Rp X.K Fz x d → Post X.K X.mg W L fx Fz H s φ σ (f d s) Q → R x H) (h : tI X.K X.mg W L (bindM m f) σ H Q) :
    tD X.K X.mg W L m σ H R := by
  obtain ⟨fx, Fz, s, φ, rl, p⟩ := h
  refine ⟨fx, Fz, s, φ, rl, ?_⟩
  have q := Post.bindD p
  cases e : m s with
  | ok d s1 =>
    rw [e] at q
    intro v H1 F1 φ1 g1 rl1 rp
    obtain ⟨F2, s2, φ2, d2, g2, rl2, rp2, e2, p2⟩ := q v H1 F1 φ1 g1 rl1 rp
    exact hr fx F2 H1 s2 φ2 v d2 rl2 rp2 p2
  | exc c s1 => rw [e] at q; exact q
  | stuck => rw [e] at q; exact q.elim
theorem redA {σ : L2.St} {H : Hp} {Q : VK} {R : List V → Hp → Prop} {m : M (List RV)} {f : List D → M (List RV)}
    (hr : ∀ fx Fz H s φ xs ds, Rel X.K fx Fz σ H s φ → Rps X.K Fz xs ds → Post X.K X.mg W L fx Fz H s φ σ (f ds s) Q → R xs H) (h : tI X.K X.mg W L (bindM m fun xs => bindM (optM (toDs xs)) f) σ H Q) :
    tA X.K X.mg W L m σ H R := by
  obtain ⟨fx, Fz, s, φ, rl, p⟩ := h
  refine ⟨fx, Fz, s, φ, rl, ?_⟩
  have q := Post.bindA p
  cases e : m s with
  | ok d s1 =>
    rw [e] at q
    intro vs fps H1 F1 φ1 g1 rl1 rp hf hb hl
    have p2 : Post X.K X.mg W L fx Fz H s φ σ (bindM (optM (toDs d)) f s1) Q := by
      have p' := p
      unfold bindM VL.R.bind at p'
      rw [e] at p'
      exact p'
    obtain ⟨ds, hd, p3⟩ := Post.bindO p2
    exact hr fx F1 H1 s1 φ1 vs ds rl1 (rp.data hl hd) (Post.mono g1 p3)
  | exc c s1 => rw [e] at q; exact q
  | stuck => rw [e] at q; exact q.elim
theorem redB {σ : L2.St} {H : Hp} {Q : VK} {R : Bool → Hp → Prop} {m : M Bool} {f : Bool → M (List RV)}
    (hr : ∀ fx Fz H s φ b, Rel X.K fx Fz σ H s φ → Post X.K X.mg W L fx Fz H s φ σ (f b s) Q → R b H) (h : tI X.K X.mg W L (bindM m f) σ H Q) :
    tBo X.K X.mg W L m σ H R := by
  obtain ⟨fx, Fz, s, φ, rl, p⟩ := h
  refine ⟨fx, Fz, s, φ, rl, ?_⟩
  have q := Post.bindB p
  cases e : m s with
  | ok d s1 =>
    rw [e] at q
    intro H1 F1 φ1 g1 rl1
    obtain ⟨F2, s2, φ2, g2, rl2, e2, p2⟩ := q H1 F1 φ1 g1 rl1
    exact hr fx F2 H1 s2 φ2 d rl2 p2
  | exc c s1 => rw [e] at q; exact q
  | stuck => rw [e] at q; exact q.elim
theorem red2 {σ : L2.St} {H : Hp} {Q : VK} {R : V → V → Hp → Prop} {m m' : M D} {f : D → D → M (List RV)}
    (hr : ∀ fx Fz H s φ x y d e, Rel X.K fx Fz σ H s φ → Rp X.K Fz x d → Rp X.K Fz y e → Post X.K X.mg W L fx Fz H s φ σ (f d e s) Q → R x y H)
    (h : tI X.K X.mg W L (bindM m fun d => bindM m' fun e => f d e) σ H Q) : tD X.K X.mg W L m σ H fun x H1 => tD X.K X.mg W L m' σ H1 fun y H2 => R x y H2 := by
  refine red1 (f := fun d => bindM m' fun e => f d e) (fun fx Fz H1 s φ x d rl rp p => ?_) h
  refine ⟨fx, Fz, s, φ, rl, ?_⟩
  have q := Post.bindD p
  cases e : m' s with
  | ok d' s1 =>
    rw [e] at q
    intro v H2 F1 φ1 g1 rl1 rp1
    obtain ⟨F2, s2, φ2, d2, g2, rl2, rp2, e2, p2⟩ := q v H2 F1 φ1 g1 rl1 rp1
    exact hr fx F2 H2 s2 φ2 x v d d2 rl2 (rp.mono g2.fz) rp2 p2
  | exc c s1 => rw [e] at q; exact q
  | stuck => rw [e] at q; exact q.elim
theorem guardL_some {n : Nat} {u : Unit} (h : guardL n = some u) : n ≤ sizeLine := by
  unfold guardL at h
  split at h
  · exact len_le (by assumption)
  · cases h
theorem px_tup {es : List Expr} {k : Nat} (h : PXA X W L es (ev cf ia)) : PX X W L (.Tuple es k pos) (ev cf (.tup ia)) :=
  PE.imp (pe_tup h) fun σ H Q h => redA (f := fun ds => bindM (optM (guardL ds.length)) fun _ => pureM [.d (.tuple ds)]) (fun fx Fz H s φ xs ds rl rp p => by
    obtain ⟨u, hg, p⟩ := Post.bindO p
    refine ⟨by rw [rp.length]; exact guardL_some hg, fun q hq => ?_⟩
    obtain ⟨g, rl'⟩ := rl.lay (L := L) (o := .tup xs) hq
    exact Post.retD (d := .tuple ds) rl' (.tup (.inl (.inl upd_same)) (rp.mono g.fz)) (Post.mono g p)) h
theorem px_lst {es : List Expr} (h : PXA X W L es (ev cf ia)) : PX X W L (.List es pos) (ev cf (.lst ia)) :=
  PE.imp (pe_lst h) fun σ H Q h => redA (f := fun ds => bindM (optM (guardL ds.length)) fun _ => pureM [.ob (.lst ds)]) (fun fx Fz H s φ xs ds rl rp p => by
    obtain ⟨u, hg, p⟩ := Post.bindO p
    refine ⟨by rw [rp.length]; exact guardL_some hg, fun q hq => ?_⟩
    obtain ⟨g, rl', rv⟩ := rl.layOwn (L := L) hq rp
    exact Post.ret (r := .ob (.lst ds)) g rl' rv (fun b hb => by simp at hb; rw [hb]; exact strip_free hq) p) h
def tPl (p : Pl) : TE := fun σ H Q => ∃ v, AtV σ H p v ∧ Q v H
theorem pp_name {i : Nat} (h : PE X e (tVar i)) : PE X e (tPl ⟨i, none⟩) := h
theorem pp_fld {i : Nat} {f : Str} (h : PE X e (tVar i)) (hc : ∀ c, Cls X.K (Tabl.C c) ∧ NoAttr X.K (Tabl.C c) f) (hb : attributeBase e f X.env (eval e X.env) = eval e X.env) : PE X (.Attribute e f pos) (tPl ⟨i, some f⟩) :=
  PE.imp (pe_fld h hb) fun σ H Q ⟨v, ⟨a, c, dx, fvs, h1, h2, h3⟩, q⟩ => ⟨.ref a, h1, a, _, dx, fvs, v, rfl, h2, (hc c).1, (hc c).2, h3, q⟩
theorem px_fld {p : Pl} (h : PE X e (tPl p)) : PX X W L e (ev cf (.fld p)) := PE.imp h fun σ H Q ⟨fx, Fz, s, φ, rl, q⟩ => by
  have q : Post X.K X.mg W L fx Fz H s φ σ (bindM (fldM p) (fun r => pureM [r]) s) Q := q
  unfold bindM R.bind fldM at q
  cases hf : p.f with
  | none => rw [hf] at q; exact q.elim
  | some f =>
    rw [hf] at q
    cases e : VL.atPl s p with
    | none => rw [e] at q; exact q.elim
    | some x =>
      rw [e] at q
      obtain ⟨v, fp, h1, h2, _⟩ := rl.atPl e
      cases x with
      | d x => exact ⟨v, h1, q v [] H Fz φ Go.refl rl ⟨rfl, h2.2⟩ (fun _ z => nomatch z)⟩
      | clo n c => exact ⟨v, h1, q v [] H Fz φ Go.refl rl ⟨rfl, h2.2⟩ (fun _ z => nomatch z)⟩
      | o x => exact q.elim
def Rq (K : PySem.W.Frag) (Fz H : Hp) (v : V) (d : D) : Prop := Rp K Fz v d ∨ ∃ a vs xs, v = .ref a ∧ d = .list xs ∧ H a = some (.lst vs) ∧ Rps K Fz vs xs
theorem Rq.h {K : PySem.W.Frag} {fx : Fx} {Fz H : Hp} {σ : L2.St} {s : S} {φ : Nat → List Addr} {v : V} {d : D} (rl : Rel K fx Fz σ H s φ) (h : Rq K Fz H v d) : Rp K H v d := by
  rcases h with h | ⟨a, vs, xs, rfl, rfl, h1, h2⟩
  · exact h.mono rl.sub
  · exact .lst h1 (h2.mono rl.sub)
theorem Rq.lst {K : PySem.W.Frag} {fx : Fx} {Fz H : Hp} {σ : L2.St} {s : S} {φ : Nat → List Addr} {v : V} {xs : List D} (rl : Rel K fx Fz σ H s φ) (h : Rq K Fz H v (.list xs)) : ∃ a vs, v = .ref a ∧ H a = some (.lst vs) ∧ Rps K Fz vs xs := by
  rcases h with h | ⟨a, vs, ys, rfl, e, h1, h2⟩
  · cases h with
    | lst h1 h2 => exact ⟨_, _, rfl, rl.sub _ _ h1, h2⟩
  · cases e; exact ⟨a, vs, rfl, h1, h2⟩
theorem Rq.tup {K : PySem.W.Frag} {Fz H : Hp} {v : V} {xs : List D} (h : Rq K Fz H v (.tuple xs)) : ∃ a vs, v = .ref a ∧ SqT K Fz a vs ∧ Rps K Fz vs xs := by
  rcases h with h | ⟨a, vs, ys, rfl, e, h1, h2⟩
  · cases h with
    | tup h1 h2 => exact ⟨_, _, rfl, h1, h2⟩
  · cases e
theorem Rq.int {K : PySem.W.Frag} {Fz H : Hp} {v : V} {i : Int} (h : Rq K Fz H v (.int i)) : v = .int i := by
  rcases h with h | ⟨a, vs, ys, rfl, e, h1, h2⟩
  · cases h; rfl
  · cases e
theorem Rq.str {K : PySem.W.Frag} {Fz H : Hp} {v : V} {i : Str} (h : Rq K Fz H v (.str i)) : v = .str i := by
  rcases h with h | ⟨a, vs, ys, rfl, e, h1, h2⟩
  · cases h; rfl
  · cases e
theorem Rq.bool {K : PySem.W.Frag} {Fz H : Hp} {v : V} {i : Bool} (h : Rq K Fz H v (.bool i)) : v = .bl i := by
  rcases h with h | ⟨a, vs, ys, rfl, e, h1, h2⟩
  · cases h; rfl
  · cases e
theorem Rq.flat {K : PySem.W.Frag} {Fz H : Hp} {v : V} {d : D} (h : Rq K Fz H v d) (f : flatD d = true) : Rp K Fz v d := by
  rcases h with h | ⟨a, vs, ys, rfl, rfl, h1, h2⟩
  · exact h
  · simp [flatD] at f
theorem Rel.peekQ {K : PySem.W.Frag} {fx : Fx} {Fz H : Hp} {σ : L2.St} {s s' : S} {φ : Nat → List Addr} (r : Rel K fx Fz σ H s φ) {p : Pl} {d : D} (q : VL.peek p s = .ok d s') : s' = s ∧ ∃ v, AtV σ H p v ∧ Rq K Fz H v d := by
  unfold VL.peek at q
  cases e : VL.atPl s p with
  | none => rw [e] at q; cases q
  | some x =>
    rw [e] at q
    obtain ⟨v, fp, h1, h2, _⟩ := r.atPl e
    cases x with
    | d x => cases q; exact ⟨rfl, v, h1, .inl h2.2⟩
    | clo _ _ => cases q
    | o x =>
      cases x with
      | lst xs =>
        cases q
        obtain ⟨a, rfl, _, vs, h3, h4⟩ := h2
        exact ⟨rfl, _, h1, .inr ⟨a, vs, xs, rfl, rfl, h3, h4⟩⟩
      | _ => cases q
theorem Post.peekQ {fx : Fx} {Fz H : Hp} {σ : L2.St} {s : S} {φ : Nat → List Addr} {p : Pl} {f : D → M (List RV)} {Q : VK} (rl : Rel X.K fx Fz σ H s φ) (h : Post X.K X.mg W L fx Fz H s φ σ (bindM (VL.peek p) f s) Q) : ∃ d v, AtV σ H p v ∧ Rq X.K Fz H v d ∧ Post X.K X.mg W L fx Fz H s φ σ (f d s) Q ∧ VL.peek p s = .ok d s := by
  unfold bindM R.bind at h
  cases e : VL.peek p s with
  | ok d s' =>
    rw [e] at h
    obtain ⟨rfl, v, h1, h2⟩ := rl.peekQ e
    exact ⟨d, v, h1, h2, h, rfl⟩
  | exc c s' => unfold VL.peek at e; split at e <;> cases e
  | stuck => rw [e] at h; exact h.elim
theorem AtV.go {K : PySem.W.Frag} {fx : Fx} {Fz Fz1 H H1 : Hp} {σ : L2.St} {s s1 : S} {φ φ1 : Nat → List Addr} (rl : Rel K fx Fz σ H s φ) (g : Go L Fz H s φ Fz1 H1 s1 φ1) {p : Pl} {v : V} (hL : p.f ≠ none → ¬ L p.i) (hs : p.f ≠ none → ∃ w o, s[p.i]? = some (some (.ob w o))) (h : AtV σ H p v) : AtV σ H1 p v := by
  obtain ⟨i, f⟩ := p
  cases f with
  | none => exact h
  | some f =>
    obtain ⟨a, c, dx, fvs, h1, h2, h3⟩ := h
    obtain ⟨w, o, hs⟩ := hs (by simp)
    have hL := hL (by simp)
    obtain ⟨v', k1, a', rfl, k2⟩ := rl.sl i _ hs
    dsimp only at h1 hL
    rw [h1] at k1; cases k1
    refine ⟨a, c, dx, fvs, h1, g.fr a _ h2 (fun _ z => nomatch z) fun j w' o' hj hq z => ?_, h3⟩
    have : j ≠ i := fun z => hL (z ▸ hj)
    exact rl.dj j i w' w o' o this hq hs a z k2.root
theorem peek_ob {p : Pl} {s s' : S} {d : D} (h : VL.peek p s = .ok d s') (hf : p.f ≠ none) : ∃ w o, s[p.i]? = some (some (.ob w o)) := by
  unfold VL.peek VL.atPl at h
  obtain ⟨i, f⟩ := p
  cases f with
  | none => exact absurd rfl hf
  | some f =>
    cases e : s[i]? with
    | none => simp [e] at h
    | some x =>
      cases x with
      | none => simp [e] at h
      | some x =>
        cases x with
        | d x => simp [e] at h
        | clo _ _ => simp [e] at h
        | ob w o => exact ⟨w, o, rfl⟩
def rBop (K : PySem.W.Frag) : Bop → R2
  | .add => fun x y H Q => rI0 (fun i j => .int (i + j)) x y H Q ∨ rCatA K x y H Q ∨ rCat x y H Q ∨ (∃ i j, x = .str i ∧ y = .str j ∧ i.length + j.length ≤ sizeLine ∧ Q (.str (i ++ j)) H)
  | .sub => rI0 fun i j => .int (i - j)
  | .mul => fun x y H Q => rI (fun i j => IntMulOk i j) (fun i j => .int (i * j)) x y H Q ∨ rRepT K x y H Q
  | .fdiv => rI (fun _ j => j ≠ 0 ∧ j.natAbs.log2 < 9000) fun i j => .int (i.fdiv j)
  | .mod => rI (fun _ j => j ≠ 0) fun i j => .int (i.fmod j)
  | .pow => rI CPow fun i j => .int (i ^ j.toNat)
def opOf : Bop → Operator
  | .add => .Add | .sub => .Sub | .mul => .Mult | .fdiv => .FloorDiv | .mod => .Mod | .pow => .Pow
theorem op_bop : ∀ o : Bop, OpR X (binaryOp (opOf o)) (rBop X.K o)
  | .add => op_add.or (op_catA.or (op_cat.or op_add_str))
  | .sub => op_sub
  | .mul => OpR.or (opI fun _ _ _ _ _ _ _ hc q => mul_int q hc) op_repT
  | .fdiv => opI fun _ _ _ _ _ _ _ hc q => floordiv_int hc.1 q (.inl (PyProof.noPylong_of_log2 hc.2))
  | .mod => op_modN
  | .pow => op_pow
theorem okMul_ok {i j : Int} (h : okMul i j = true) : IntMulOk i j := by
  unfold okMul at h
  unfold IntMulOk
  intro z
  rw [z] at h
  cases h
theorem bop_ok {fx : Fx} {Fz H : Hp} {σ : L2.St} {s : S} {φ : Nat → List Addr} {Q : VK} {o : Bop} {x y : V} {d e : D} {v : RV} (rl : Rel X.K fx Fz σ H s φ) (hx : Rq X.K Fz H x d) (hy : Rq X.K Fz H y e) (ho : bop o (.d d) (.d e) = some v)
    (p : Post X.K X.mg W L fx Fz H s φ σ (pureM [v] s) Q) : rBop X.K o x y H Q := by
  unfold bop at ho
  split at ho
  · next h1 h2 => cases h1; cases h2; cases ho; cases hx.int; cases hy.int; exact .inl ⟨_, _, rfl, rfl, Post.retD rl (.int _) p⟩
  · next h1 h2 =>
    cases h1; cases h2
    split at ho
    · next hl =>
      cases ho
      obtain ⟨a, vs, rfl, t1, r1⟩ := hx.tup
      obtain ⟨b, ws, rfl, t2, r2⟩ := hy.tup
      refine .inr (.inl ⟨a, b, vs, ws, rfl, rfl, sqT_mono rl.sub t1, sqT_mono rl.sub t2, ?_, fun z => ?_, fun _ z => ?_, fun _ _ q hq => ?_⟩)
      · rw [r1.length, r2.length]; exact len_le hl
      · subst z; cases r1; exact Post.retD rl (.tup t2 (by simpa using r2)) p
      · subst z; cases r2; exact Post.retD rl (.tup t1 (by simpa using r1)) p
      · obtain ⟨g, rl'⟩ := rl.lay (L := L) (o := .tup (vs ++ ws)) hq
        exact Post.retD rl' (.tup (.inl (.inl upd_same)) ((r1.append r2).mono g.fz)) (Post.mono g p)
    · cases ho
  · next h1 h2 =>
    cases h1; cases h2
    split at ho
    · next hl =>
      cases ho
      obtain ⟨a, vs, rfl, t1, r1⟩ := hx.lst rl
      obtain ⟨b, ws, rfl, t2, r2⟩ := hy.lst rl
      refine .inr (.inr (.inl ⟨a, b, vs, ws, rfl, rfl, t1, t2, ?_, fun q hq => ?_⟩))
      · rw [r1.length, r2.length]; exact len_le hl
      · obtain ⟨g, rl', rv⟩ := rl.layOwn (L := L) hq (r1.append r2)
        exact Post.ret g rl' rv (fun b hb => by simp at hb; rw [hb]; exact strip_free hq) p
    · cases ho
  · next h1 h2 =>
    cases h1; cases h2
    split at ho
    · next hl =>
      cases ho; cases hx.str; cases hy.str
      exact .inr (.inr (.inr ⟨_, _, rfl, rfl, len_le hl, Post.retD rl (.str _) p⟩))
    · cases ho
  · next h1 h2 => cases h1; cases h2; cases ho; cases hx.int; cases hy.int; exact ⟨_, _, rfl, rfl, Post.retD rl (.int _) p⟩
  · next h1 h2 =>
    cases h1; cases h2
    split at ho
    · next hl => cases ho; cases hx.int; cases hy.int; exact .inl ⟨_, _, rfl, rfl, okMul_ok hl, Post.retD rl (.int _) p⟩
    · cases ho
  · next h1 h2 =>
    cases h1; cases h2
    split at ho
    · next hl =>
      cases ho; cases hy.int
      obtain ⟨a, vs, rfl, t1, r1⟩ := hx.tup
      obtain ⟨k1, k2, k3, k4⟩ := hl
      refine .inr ⟨a, _, vs, rfl, rfl, sqT_mono rl.sub t1, fun z => ?_, k2, k3, by rw [r1.length]; exact k4, fun q hq => ?_⟩
      · subst z; cases r1; exact k1 rfl
      · obtain ⟨g, rl'⟩ := rl.lay (L := L) (o := .tup (List.replicate _ vs).flatten) hq
        exact Post.retD rl' (.tup (.inl (.inl upd_same)) ((r1.rep _).mono g.fz)) (Post.mono g p)
    · cases ho
  · next h1 h2 =>
    cases h1; cases h2
    split at ho
    · next hl =>
      cases ho; cases hx.int; cases hy.int
      unfold okDiv at hl
      rw [Bool.and_eq_true] at hl
      exact ⟨_, _, rfl, rfl, ⟨by simpa using hl.1, of_decide_eq_true hl.2⟩, Post.retD rl (.int _) p⟩
    · cases ho
  · next h1 h2 =>
    cases h1; cases h2
    split at ho
    · next hl => cases ho; cases hx.int; cases hy.int; exact ⟨_, _, rfl, rfl, hl, Post.retD rl (.int _) p⟩
    · cases ho
  · next h1 h2 =>
    cases h1; cases h2
    split at ho
    · next hl =>
      cases ho; cases hx.int; cases hy.int
      unfold okPow at hl
      rw [Bool.and_eq_true, Bool.and_eq_true] at hl
      exact ⟨_, _, rfl, rfl, ⟨of_decide_eq_true hl.1.1, of_decide_eq_true hl.1.2, of_decide_eq_true hl.2⟩, Post.retD rl (.int _) p⟩
    · cases ho
  · cases ho
theorem px_op {o : Bop} (ha : PX X W L a (ev cf ia)) (hb : PX X W L b (ev cf ib)) : PX X W L (.BinOp a (opOf o) b pos) (ev cf (.op o ia ib)) :=
  PE.imp (pe_op (op_bop o) (PX.d ha) (PX.d hb)) fun σ H Q h => red2 (f := fun x y => bindM (optM (bop o (.d x) (.d y))) fun r => pureM [r]) (fun fx Fz H s φ x y d e rl r1 r2 p => by
    obtain ⟨v, hv, p⟩ := Post.bindO p
    exact bop_ok rl (.inl r1) (.inl r2) hv p) h
theorem redV {σ : L2.St} {H : Hp} {Q : VK} {p : Pl} {L' : Nat → Prop} {R : V → V → Hp → Prop} {m : M D} {f : D → D → M (List RV)} (hLL : ∀ i, L' i → L i) (hp : p.f ≠ none → ¬ L' p.i)
    (hr : ∀ fx Fz H s φ x y d e, Rel X.K fx Fz σ H s φ → Rq X.K Fz H x d → Rp X.K Fz y e → Post X.K X.mg W L fx Fz H s φ σ (f d e s) Q → R x y H)
    (h : tI X.K X.mg W L (bindM (VL.peek p) fun _ => bindM m fun e => bindM (VL.peek p) fun d => f d e) σ H Q) : tPl p σ H fun x H1 => tD X.K X.mg W L' m σ H1 fun y H2 => R x y H2 := by
  obtain ⟨fx, Fz, s, φ, rl, q⟩ := h
  obtain ⟨d, v, h1, h2, q, ek⟩ := Post.peekQ rl q
  refine ⟨v, h1, fx, Fz, s, φ, rl, ?_⟩
  have q2 : Post X.K X.mg W L fx Fz H s φ σ (bindM m (fun e => bindM (VL.peek p) fun d => f d e) s) Q := q
  unfold bindM VL.R.bind at q2
  cases e : m s with
  | ok d1 s1 =>
    rw [e] at q2
    intro y H1 F1 φ1 g1 rl1 rp
    have q3 : Post X.K X.mg W L fx Fz H s φ σ (bindM (VL.peek p) (fun d => f d d1) s1) Q := q2
    obtain ⟨d', v', k1, k2, q4, _⟩ := Post.peekQ rl1 (Post.mono (g1.mono hLL) q3)
    have ev : v' = v := by
      have k3 := AtV.go rl g1 (p := p) hp (fun hf => peek_ob ek hf) h1
      cases hf : p.f with
      | none => unfold AtV at k1 k3; rw [hf] at k1 k3; rw [k1] at k3; cases k3; rfl
      | some f =>
        unfold AtV at k1 k3
        rw [hf] at k1 k3
        obtain ⟨a, c, dx, fvs, m1, m2, m3⟩ := k1
        obtain ⟨a', c', dx', fvs', n1, n2, n3⟩ := k3
        rw [m1] at n1; cases n1
        rw [m2] at n2
        have e3 : fvs = fvs' := by injection Option.some.inj n2
        rw [e3, n3] at m3; cases m3; rfl
    rw [ev] at k2
    exact hr fx F1 H1 s1 φ1 v y d' d1 rl1 k2 rp q4
  | exc c s1 =>
    rw [e] at q2
    exact fun C H' F' φ' hm g r => q2 C H' F' φ' hm (g.mono hLL) r
  | stuck => rw [e] at q2; exact q2.elim
theorem redW {σ : L2.St} {H : Hp} {Q : VK} {p : Pl} {R : V → V → Hp → Prop} {m : M D} {f : D → D → M (List RV)}
    (hr : ∀ fx Fz H s φ x y d e, Rel X.K fx Fz σ H s φ → Rp X.K Fz x d → Rq X.K Fz H y e → Post X.K X.mg W L fx Fz H s φ σ (f d e s) Q → R x y H)
    (h : tI X.K X.mg W L (bindM m fun d => bindM (VL.peek p) fun e => f d e) σ H Q) : tD X.K X.mg W L m σ H fun x H1 => tPl p σ H1 fun y H2 => R x y H2 := by
  refine red1 (f := fun d => bindM (VL.peek p) fun e => f d e) (fun fx Fz H1 s φ x d rl rp q => ?_) h
  obtain ⟨d', v', g1, g2, q, _⟩ := Post.peekQ rl q
  exact ⟨v', g1, hr fx Fz H1 s φ x v' d d' rl rp g2 q⟩
variable {L' : Nat → Prop}
theorem px_opB {o : Bop} {p : Pl} (hLL : ∀ i, L' i → L i) (hp : p.f ≠ none → ¬ L' p.i) (ha : PE X a (tPl p)) (hb : PX X W L' b (ev cf ib)) : PX X W L (.BinOp a (opOf o) b pos) (ev cf (.opB o p ib)) :=
  PE.imp (pe_op (op_bop o) ha (PX.d hb)) fun σ H Q h => redV (p := p) hLL hp (f := fun x y => bindM (optM (bop o (.d x) (.d y))) fun r => pureM [r]) (fun fx Fz H s φ x y d e rl r1 r2 p => by
    obtain ⟨v, hv, p⟩ := Post.bindO p
    exact bop_ok rl r1 (.inl r2) hv p) h
theorem px_neg (ha : PX X W L a (ev cf ia)) : PX X W L (.UnaryOp .USub a pos) (ev cf (.neg ia)) :=
  PE.imp (pe_un un_neg (PX.d ha)) fun σ H Q h => red1 (f := fun x => match x with | .int i => pureM [.d (.int (-i))] | _ => stuckM) (fun fx Fz H s φ x d rl rp p => by
    cases rp with
    | int i => exact ⟨i, rfl, Post.retD rl (.int _) p⟩
    | _ => exact p.elim) h
def rCop (K : PySem.W.Frag) : Cop → R2
  | .eq => fun x y H Q => rEqD K x y H Q ∨ rEq x y H Q
  | .ne => fun x y H Q => rNeD K x y H Q ∨ rNe x y H Q
  | .lt => rI0 fun i j => .bl (decide (i < j))
  | .le => rI0 fun i j => .bl (decide (i ≤ j))
  | .gt => rI0 fun i j => .bl (decide (j < i))
  | .ge => rI0 fun i j => .bl (decide (j ≤ i))
  | .isN => fun x y H Q => y = .non ∧ Q (.bl (decide (x = .non))) H
  | .notN => fun x y H Q => y = .non ∧ Q (.bl (!decide (x = .non))) H
  | .inn => fun x y H Q => rInD K x y H Q ∨ rIn K false x y H Q
  | .notIn => fun x y H Q => rNotInD K x y H Q ∨ rIn K true x y H Q
  | .isB => fun x y H Q => (∃ a b, x = .bl a ∧ y = .bl b ∧ Q (.bl (decide (a = b))) H) ∨ ∃ i b, x = .int i ∧ y = .bl b ∧ Q (.bl false) H
  | .notB => fun x y H Q => (∃ a b, x = .bl a ∧ y = .bl b ∧ Q (.bl (!decide (a = b))) H) ∨ ∃ i b, x = .int i ∧ y = .bl b ∧ Q (.bl true) H
def copOf : Cop → CmpOp
  | .eq => .Eq | .ne => .NotEq | .lt => .Lt | .le => .LtE | .gt => .Gt | .ge => .GtE | .isN => .Is | .notN => .IsNot | .inn => .In | .notIn => .NotIn | .isB => .Is | .notB => .IsNot
theorem op_is_ib : OpR X (compareOp .Is) (fun x y H Q => ∃ i b, x = .int i ∧ y = .bl b ∧ Q (.bl false) H) := by
  intro pins s σ H x y v u Q I rx ry h
  obtain ⟨a, b, rfl, rfl, q⟩ := h
  obtain ⟨t, rfl⟩ := rx
  cases (show u = Value.bool b from ry)
  exact wpAny_is_other rfl (fun z => nomatch z) ⟨.bl false, H, I, rfl, q⟩
theorem op_isnot_ib : OpR X (compareOp .IsNot) (fun x y H Q => ∃ i b, x = .int i ∧ y = .bl b ∧ Q (.bl true) H) := by
  intro pins s σ H x y v u Q I rx ry h
  obtain ⟨a, b, rfl, rfl, q⟩ := h
  obtain ⟨t, rfl⟩ := rx
  cases (show u = Value.bool b from ry)
  exact wpAny_isNot_other rfl (fun z => nomatch z) ⟨.bl true, H, I, rfl, q⟩
theorem op_cop (hu : X.A.units + 65 < cLine) : ∀ o : Cop, OpR X (compareOp (copOf o)) (rCop X.K o)
  | .eq => (op_eqD (by omega)).or op_eq
  | .ne => (op_neD (by omega)).or op_ne
  | .lt => op_lt
  | .le => op_le
  | .gt => op_gt
  | .ge => op_ge
  | .isN => op_isN
  | .notN => op_notN
  | .inn => (op_inD hu).or op_in_seq
  | .notIn => (op_notInD hu).or op_notIn_seq
  | .isB => op_is_bl.or op_is_ib
  | .notB => op_isnot_bl.or op_isnot_ib
theorem Rp.non_iff {K : PySem.W.Frag} {F : Hp} {v : V} {d : D} (h : Rp K F v d) : decide (v = .non) = isNoneD d := by
  cases h <;> simp [isNoneD]
theorem cop_ok {fx : Fx} {Fz H : Hp} {σ : L2.St} {s : S} {φ : Nat → List Addr} {Q : VK} {o : Cop} {x y : V} {d e : D} {k : Bool} (rl : Rel X.K fx Fz σ H s φ) (hx : Rq X.K Fz H x d) (hy : Rq X.K Fz H y e) (ho : cop o d e = some k)
    (p : Q (.bl k) H) : rCop X.K o x y H Q := by
  have px : Dp X.K H x d := (hx.h rl).dp (Same.refl _)
  have py : Dp X.K H y e := (hy.h rl).dp (Same.refl _)
  unfold cop at ho
  split at ho
  · cases ho; cases hx.int; cases hy.int; exact .inr ⟨rfl, by rw [dec_int]; exact p⟩
  · cases ho; cases hx.int; cases hy.int; exact .inr ⟨rfl, by rw [dec_int]; exact p⟩
  · cases ho; cases hx.str; cases hy.str; exact .inr ⟨rfl, by rw [dec_str]; exact p⟩
  · cases ho; cases hx.str; cases hy.str; exact .inr ⟨rfl, by rw [dec_str]; exact p⟩
  · split at ho
    · next h => rw [Bool.and_eq_true] at h; cases ho; exact .inl ⟨_, _, px, py, h.1, h.2, p⟩
    · cases ho
  · split at ho
    · next h => rw [Bool.and_eq_true] at h; cases ho; exact .inl ⟨_, _, px, py, h.1, h.2, p⟩
    · cases ho
  · cases ho; cases hx.int; cases hy.int; exact ⟨_, _, rfl, rfl, p⟩
  · cases ho; cases hx.int; cases hy.int; exact ⟨_, _, rfl, rfl, p⟩
  · cases ho; cases hx.int; cases hy.int; exact ⟨_, _, rfl, rfl, p⟩
  · cases ho; cases hx.int; cases hy.int; exact ⟨_, _, rfl, rfl, p⟩
  · have hy' : Rp X.K Fz y .none := hy.flat rfl
    cases hy'; cases ho
    refine ⟨rfl, ?_⟩
    rw [(hx.h rl).non_iff]
    exact p
  · have hy' : Rp X.K Fz y .none := hy.flat rfl
    cases hy'; cases ho
    refine ⟨rfl, ?_⟩
    rw [(hx.h rl).non_iff]
    exact p
  · split at ho
    · next h => rw [Bool.and_eq_true] at h; cases ho; exact .inl ⟨_, _, px, py, h.1, h.2, p⟩
    · cases ho
  · split at ho
    · next h => rw [Bool.and_eq_true] at h; cases ho; exact .inl ⟨_, _, px, py, h.1, h.2, p⟩
    · cases ho
  · split at ho
    · next h =>
      rw [Bool.and_eq_true] at h
      cases ho
      obtain ⟨a, vs, rfl, t1, r1⟩ := hy.tup
      refine .inr ⟨a, vs, rfl, .inr (sqT_mono rl.sub t1), (hx.flat h.1).flat h.1, r1.flat h.2, ?_⟩
      rw [r1.inV (hx.flat h.1) h.2 h.1]
      exact p
    · cases ho
  · split at ho
    · next h =>
      rw [Bool.and_eq_true] at h
      cases ho
      obtain ⟨a, vs, rfl, t1, r1⟩ := hy.tup
      refine .inr ⟨a, vs, rfl, .inr (sqT_mono rl.sub t1), (hx.flat h.1).flat h.1, r1.flat h.2, ?_⟩
      rw [r1.inV (hx.flat h.1) h.2 h.1]
      exact p
    · cases ho
  · cases ho; cases hx.bool; cases hy.bool; exact .inl ⟨_, _, rfl, rfl, p⟩
  · cases ho; cases hx.bool; cases hy.bool; exact .inl ⟨_, _, rfl, rfl, p⟩
  · cases ho; cases hx.int; cases hy.bool; exact .inr ⟨_, _, rfl, rfl, p⟩
  · cases ho; cases hx.int; cases hy.bool; exact .inr ⟨_, _, rfl, rfl, p⟩
  · cases ho
variable {o o' : Cop}
theorem px_cmp (hu : X.A.units + 65 < cLine) (ha : PX X W L a (ev cf ia)) (hb : PX X W L b (ev cf ib)) (hm : behindInMarks (copOf o) b = false) : PX X W L (.Compare a [copOf o] [b] pos) (ev cf (.cmp o ia ib)) :=
  PE.imp (pe_cmpR (op_cop hu o) (PX.d ha) (PX.d hb) hm) fun σ H Q h => red2 (f := fun x y => bindM (optM (cop o x y)) fun c => pureM [.d (.bool c)]) (fun fx Fz H s φ x y d e rl r1 r2 p => by
    obtain ⟨v, hv, p⟩ := Post.bindO p
    exact cop_ok rl (.inl r1) (.inl r2) hv (Post.retD rl (.bl _) p)) h
theorem px_cmpL {p : Pl} (hLL : ∀ i, L' i → L i) (hp : p.f ≠ none → ¬ L' p.i) (hu : X.A.units + 65 < cLine) (ha : PE X a (tPl p)) (hb : PX X W L' b (ev cf ib)) (hm : behindInMarks (copOf o) b = false) : PX X W L (.Compare a [copOf o] [b] pos) (ev cf (.cmpL o p ib)) :=
  PE.imp (pe_cmpR (op_cop hu o) ha (PX.d hb) hm) fun σ H Q h => redV (p := p) hLL hp (f := fun x y => bindM (optM (cop o x y)) fun c => pureM [.d (.bool c)]) (fun fx Fz H s φ x y d e rl r1 r2 p => by
    obtain ⟨v, hv, p⟩ := Post.bindO p
    exact cop_ok rl r1 (.inl r2) hv (Post.retD rl (.bl _) p)) h
theorem px_cmpR {p : Pl} (hu : X.A.units + 65 < cLine) (ha : PX X W L a (ev cf ia)) (hb : PE X b (tPl p)) (hm : behindInMarks (copOf o) b = false) : PX X W L (.Compare a [copOf o] [b] pos) (ev cf (.cmpR o ia p)) :=
  PE.imp (pe_cmpR (op_cop hu o) (PX.d ha) hb hm) fun σ H Q h => redW (f := fun x y => bindM (optM (cop o x y)) fun c => pureM [.d (.bool c)]) (fun fx Fz H s φ x y d e rl r1 r2 p => by
    obtain ⟨v, hv, p⟩ := Post.bindO p
    exact cop_ok rl (.inl r1) r2 hv (Post.retD rl (.bl _) p)) h
end
end VL
set_option maxHeartbeats 1000000
namespace VL
open PySem PySem.Spec PyProof.Rows L2
variable [Tabl]
abbrev evB (cf : CF) (i : IE) : M Bool := bindM (ev cf i) asC
section
variable {X : Cx} {W : WX} {L : Nat → Prop} {cf : CF} {e a b c : Expr} {pos : Pos} {ia ib ic : IE} {o o' : Cop}
theorem asC_ok {l : List RV} {s s' : S} {k : Bool} (h : asC l s = .ok k s') : l = [.d (.bool k)] ∧ s' = s := by
  unfold asC bindM one at h
  cases l with
  | nil => cases h
  | cons r l =>
    cases l with
    | cons _ _ => cases h
    | nil =>
      cases r with
      | ob _ => cases h
      | clo _ _ => cases h
      | bor _ => cases h
      | d d =>
        cases d <;> first | (cases h; exact ⟨rfl, rfl⟩) | cases h
theorem asC_exc {l : List RV} {s s' : S} {c : Str} (h : asC l s = .exc c s') : False := by
  unfold asC bindM one at h
  cases l with
  | nil => cases h
  | cons r l =>
    cases l with
    | cons _ _ => cases h
    | nil =>
      cases r with
      | ob _ => cases h
      | clo _ _ => cases h
      | bor _ => cases h
      | d d => cases d <;> cases h
theorem Post.bindC {fx : Fx} {Fz H : Hp} {σ : L2.St} {s : S} {φ : Nat → List Addr} {Q : VK} {m : M (List RV)} {k : Bool → M (List RV)} (h : Post X.K X.mg W L fx Fz H s φ σ (bindM (bindM m asC) k s) Q) :
    Post X.K X.mg W L fx Fz H s φ σ (m s) fun x H1 => ∃ c Fz1 s1 φ1, x = .bl c ∧ Go L Fz H s φ Fz1 H1 s1 φ1 ∧ Rel X.K fx Fz1 σ H1 s1 φ1 ∧ Post X.K X.mg W L fx Fz1 H1 s1 φ1 σ (k c s1) Q := by
  unfold bindM R.bind at h
  cases e : m s with
  | ok l s1 =>
    rw [e] at h
    dsimp only at h
    cases e2 : asC l s1 with
    | ok b s2 =>
      rw [e2] at h
      obtain ⟨rfl, rfl⟩ := asC_ok e2
      intro v fp H' Fz' φ' g rl rv hf
      have rv : Rp X.K Fz' v (.bool b) := rv.2
      cases rv
      exact ⟨b, Fz', s2, φ', rfl, g, rl, Post.mono g h⟩
    | exc c s2 => exact (asC_exc e2).elim
    | stuck => rw [e2] at h; exact h.elim
  | exc c s1 => rw [e] at h; exact h
  | stuck => rw [e] at h; exact h.elim
theorem PostB.toV {fx : Fx} {Fz H : Hp} {σ : L2.St} {s : S} {φ : Nat → List Addr} {Q : Bool → Hp → Prop} {m : M (List RV)} (h : PostB X.K X.mg W L fx Fz H s φ σ (bindM m asC s) Q) :
    Post X.K X.mg W L fx Fz H s φ σ (m s) fun x H1 => ∃ c, x = .bl c ∧ Q c H1 := by
  unfold bindM R.bind at h
  cases e : m s with
  | ok l s1 =>
    rw [e] at h
    dsimp only at h
    cases e2 : asC l s1 with
    | ok b s2 =>
      rw [e2] at h
      obtain ⟨rfl, rfl⟩ := asC_ok e2
      intro v fp H' Fz' φ' g rl rv hf
      have rv : Rp X.K Fz' v (.bool b) := rv.2
      cases rv
      exact ⟨b, rfl, h H' Fz' φ' g rl⟩
    | exc c s2 => exact (asC_exc e2).elim
    | stuck => rw [e2] at h; exact h.elim
  | exc c s1 => rw [e] at h; exact h
  | stuck => rw [e] at h; exact h.elim
theorem tBo.toV {σ : L2.St} {H : Hp} {Q : Bool → Hp → Prop} {m : M (List RV)} (h : tBo X.K X.mg W L (bindM m asC) σ H Q) : tI X.K X.mg W L m σ H fun x H1 => ∃ c, x = .bl c ∧ Q c H1 := by
  obtain ⟨fx, Fz, s, φ, rl, p⟩ := h
  exact ⟨fx, Fz, s, φ, rl, PostB.toV p⟩
theorem pxt_val (h : PX X W L e (ev cf ia)) (he : ∀ whole, isTrue e X.env whole = (do let v ← whole; standAt e.pos; holding [v] (truthy v))) : PXT X W L e (evB cf ia) :=
  PT.imp (pt_val h he) fun σ H Q h => tBo.toV h
theorem pxt_cmp (hu : X.A.units + 65 < cLine) (ha : PX X W L a (ev cf ia)) (hb : PX X W L b (ev cf ib)) (hm : behindInMarks (copOf o) b = false) : PXT X W L (.Compare a [copOf o] [b] pos) (evB cf (.cmp o ia ib)) :=
  PT.imp (pt_cmpR (op_cop hu o) (PX.d ha) (PX.d hb) hm) fun σ H Q h => red2 (f := fun x y => bindM (optM (cop o x y)) fun c => pureM [.d (.bool c)]) (fun fx Fz H s φ x y d e rl r1 r2 p => by
    obtain ⟨v, hv, p⟩ := Post.bindO p
    exact cop_ok rl (.inl r1) (.inl r2) hv (Post.retD rl (.bl _) p)) (tBo.toV h)
theorem pxt_cmpL {p : Pl} {L' : Nat → Prop} (hLL : ∀ i, L' i → L i) (hp : p.f ≠ none → ¬ L' p.i) (hu : X.A.units + 65 < cLine) (ha : PE X a (tPl p)) (hb : PX X W L' b (ev cf ib)) (hm : behindInMarks (copOf o) b = false) : PXT X W L (.Compare a [copOf o] [b] pos) (evB cf (.cmpL o p ib)) :=
  PT.imp (pt_cmpR (op_cop hu o) ha (PX.d hb) hm) fun σ H Q h => redV (p := p) hLL hp (f := fun x y => bindM (optM (cop o x y)) fun c => pureM [.d (.bool c)]) (fun fx Fz H s φ x y d e rl r1 r2 p => by
    obtain ⟨v, hv, p⟩ := Post.bindO p
    exact cop_ok rl r1 (.inl r2) hv (Post.retD rl (.bl _) p)) (tBo.toV h)
theorem pxt_cmpR {p : Pl} (hu : X.A.units + 65 < cLine) (ha : PX X W L a (ev cf ia)) (hb : PE X b (tPl p)) (hm : behindInMarks (copOf o) b = false) : PXT X W L (.Compare a [copOf o] [b] pos) (evB cf (.cmpR o ia p)) :=
  PT.imp (pt_cmpR (op_cop hu o) (PX.d ha) hb hm) fun σ H Q h => redW (f := fun x y => bindM (optM (cop o x y)) fun c => pureM [.d (.bool c)]) (fun fx Fz H s φ x y d e rl r1 r2 p => by
    obtain ⟨v, hv, p⟩ := Post.bindO p
    exact cop_ok rl (.inl r1) r2 hv (Post.retD rl (.bl _) p)) (tBo.toV h)
theorem red_chain {σ : L2.St} {H : Hp} {Q : VK} (h : tI X.K X.mg W L (ev cf (.chain o o' ia ib ic)) σ H Q) :
    tChain (rCop X.K o) (rCop X.K o') (tD X.K X.mg W L (one1 (ev cf ia))) (tD X.K X.mg W L (one1 (ev cf ib))) (tD X.K X.mg W L (one1 (ev cf ic))) σ H Q := by
  refine red2 (f := fun x y => bindM (optM (cop o x y)) fun k => match k with
    | true => bindM (one1 (ev cf ic)) fun z => bindM (optM (cop o' y z)) fun k' => pureM [.d (.bool k')]
    | false => pureM [.d (.bool false)]) (fun fx Fz H s φ x y d e rl r1 r2 p => ?_) h
  obtain ⟨k, hk, p⟩ := Post.bindO p
  refine cop_ok rl (.inl r1) (.inl r2) hk ⟨k, rfl, ?_⟩
  cases k with
  | true =>
    rw [if_pos rfl]
    refine ⟨fx, Fz, s, φ, rl, ?_⟩
    have q := Post.bindD p
    cases e : one1 (ev cf ic) s with
    | ok d' s1 =>
      rw [e] at q
      intro v H2 F1 φ1 g1 rl1 rp1
      obtain ⟨F2, s2, φ2, d2, g2, rl2, rp2, e2, p2⟩ := q v H2 F1 φ1 g1 rl1 rp1
      obtain ⟨k', hk', p2⟩ := Post.bindO p2
      exact cop_ok rl2 (.inl (r2.mono g2.fz)) (.inl rp2) hk' (Post.retD rl2 (.bl _) p2)
    | exc c s1 => rw [e] at q; exact q
    | stuck => rw [e] at q; exact q.elim
  | false => rw [if_neg Bool.false_ne_true]; exact Post.retD rl (.bl _) p
theorem px_chain (hu : X.A.units + 65 < cLine) (ha : PX X W L a (ev cf ia)) (hb : PX X W L b (ev cf ib)) (hc : PX X W L c (ev cf ic)) (hm : lastMarks [copOf o, copOf o'] [b, c] = false) : PX X W L (.Compare a [copOf o, copOf o'] [b, c] pos) (ev cf (.chain o o' ia ib ic)) :=
  PE.imp (pe_chain (op_cop hu o) (op_cop hu o') (PX.d ha) (PX.d hb) (PX.d hc) hm) fun σ H Q h => red_chain h
theorem pxt_chain (hu : X.A.units + 65 < cLine) (ha : PX X W L a (ev cf ia)) (hb : PX X W L b (ev cf ib)) (hc : PX X W L c (ev cf ic)) (hm : lastMarks [copOf o, copOf o'] [b, c] = false) : PXT X W L (.Compare a [copOf o, copOf o'] [b, c] pos) (evB cf (.chain o o' ia ib ic)) :=
  PT.imp (pt_chain (op_cop hu o) (op_cop hu o') (PX.d ha) (PX.d hb) (PX.d hc) hm) fun σ H Q h => red_chain (tBo.toV h)
theorem px_not (ha : PX X W L a (ev cf ia)) : PX X W L (.UnaryOp .Not a pos) (ev cf (.not ia)) :=
  PE.imp (pe_not ha) fun σ H Q ⟨fx, Fz, s, φ, rl, p⟩ => ⟨fx, Fz, s, φ, rl, by
    have q := Post.bindC (k := fun b => pureM [.d (.bool !b)]) p
    cases e : ev cf ia s with
    | ok l s1 =>
      rw [e] at q
      cases l with
      | nil => exact q.elim
      | cons r l =>
        cases l with
        | cons _ _ => exact q.elim
        | nil =>
          intro v fp H' Fz' φ' g rl' rv hf
          obtain ⟨c, F1, s1, φ1, rfl, g1, rl1, p1⟩ := q v fp H' Fz' φ' g rl' rv hf
          exact ⟨c, rfl, Post.retD rl1 (.bl _) p1⟩
    | exc c s1 => rw [e] at q; exact q
    | stuck => rw [e] at q; exact q.elim⟩
theorem Post.imp {fx : Fx} {Fz H : Hp} {σ : L2.St} {s : S} {φ : Nat → List Addr} {res : R (List RV)} {Q Q' : VK} (h : Post X.K X.mg W L fx Fz H s φ σ res Q) (i : ∀ v H', Q v H' → Q' v H') : Post X.K X.mg W L fx Fz H s φ σ res Q' := by
  cases res with
  | ok l s' =>
    cases l with
    | nil => exact h
    | cons r l =>
      cases l with
      | nil => exact fun v fp H' Fz' φ' g rl rv hf => i v H' (h v fp H' Fz' φ' g rl rv hf)
      | cons _ _ => exact h
  | exc c s' => exact h
  | stuck => exact h
theorem px_and {rest : List Expr} (ha : PX X W L a (ev cf ia)) (hb : PX X W L (.BoolOp .And (b :: rest) pos) (ev cf ib)) : PX X W L (.BoolOp .And (a :: b :: rest) pos) (ev cf (.and ia ib)) :=
  PE.imp (pe_and ha hb) fun σ H Q ⟨fx, Fz, s, φ, rl, p⟩ => ⟨fx, Fz, s, φ, rl, Post.imp (Post.bindC (k := fun c => match c with | true => ev cf ib | false => pureM [.d (.bool false)]) p) fun v H' ⟨c, F1, s1, φ1, e, g1, rl1, p1⟩ => ⟨c, e, by
    cases c with
    | true => exact iteT ⟨fx, F1, s1, φ1, rl1, p1⟩
    | false => exact iteF (Post.retD rl1 (.bl _) p1)⟩⟩
theorem px_or {rest : List Expr} (ha : PX X W L a (ev cf ia)) (hb : PX X W L (.BoolOp .Or (b :: rest) pos) (ev cf ib)) : PX X W L (.BoolOp .Or (a :: b :: rest) pos) (ev cf (.or ia ib)) :=
  PE.imp (pe_or ha hb) fun σ H Q ⟨fx, Fz, s, φ, rl, p⟩ => ⟨fx, Fz, s, φ, rl, Post.imp (Post.bindC (k := fun c => match c with | true => pureM [.d (.bool true)] | false => ev cf ib) p) fun v H' ⟨c, F1, s1, φ1, e, g1, rl1, p1⟩ => ⟨c, e, by
    cases c with
    | true => exact iteT (Post.retD rl1 (.bl _) p1)
    | false => exact iteF ⟨fx, F1, s1, φ1, rl1, p1⟩⟩⟩
theorem px_one {op : BoolOp} (ha : PX X W L a (ev cf ia)) : PX X W L (.BoolOp op [a] pos) (ev cf ia) := pe_one ha
theorem PostB.bindC {fx : Fx} {Fz H : Hp} {σ : L2.St} {s : S} {φ : Nat → List Addr} {Q : VK} {m : M Bool} {k : Bool → M (List RV)} (h : Post X.K X.mg W L fx Fz H s φ σ (bindM m k s) Q) :
    PostB X.K X.mg W L fx Fz H s φ σ (m s) fun c H1 => ∃ Fz1 s1 φ1, Go L Fz H s φ Fz1 H1 s1 φ1 ∧ Rel X.K fx Fz1 σ H1 s1 φ1 ∧ Post X.K X.mg W L fx Fz1 H1 s1 φ1 σ (k c s1) Q := by
  unfold bindM R.bind at h
  cases e : m s with
  | ok b s1 =>
    rw [e] at h
    exact fun H' Fz' φ' g rl => ⟨Fz', s1, φ', g, rl, Post.mono g h⟩
  | exc c s1 => rw [e] at h; exact h
  | stuck => rw [e] at h; exact h.elim
theorem PostB.imp {fx : Fx} {Fz H : Hp} {σ : L2.St} {s : S} {φ : Nat → List Addr} {res : R Bool} {Q Q' : Bool → Hp → Prop} (h : PostB X.K X.mg W L fx Fz H s φ σ res Q) (i : ∀ v H', Q v H' → Q' v H') : PostB X.K X.mg W L fx Fz H s φ σ res Q' := by
  cases res with
  | ok l s' => exact fun H' Fz' φ' g rl => i l H' (h H' Fz' φ' g rl)
  | exc c s' => exact h
  | stuck => exact h
theorem px_ife {t : Expr} {it : IE} (ht : PXT X W L t (evB cf it)) (ha : PX X W L a (ev cf ia)) (hb : PX X W L b (ev cf ib)) : PX X W L (.IfExp t a b pos) (ev cf (.ife it ia ib)) :=
  PE.imp (pe_ifExp ht ha hb) fun σ H Q ⟨fx, Fz, s, φ, rl, p⟩ => ⟨fx, Fz, s, φ, rl, PostB.imp (PostB.bindC (m := evB cf it) (k := fun c => match c with | true => ev cf ia | false => ev cf ib) p) fun c H' ⟨F1, s1, φ1, g1, rl1, p1⟩ => by
    cases c with
    | true => exact iteT ⟨fx, F1, s1, φ1, rl1, p1⟩
    | false => exact iteF ⟨fx, F1, s1, φ1, rl1, p1⟩⟩
abbrev PXW (X : Cx) (W : WX) (L : Nat → Prop) (e : Expr) (m : M Bool) : Prop := PW X e (tBo X.K X.mg W L m)
theorem PW.imp {X : Cx} {e : Expr} {t t' : TT} (h : PW X e t) (i : ∀ σ H Q, t' σ H Q → t σ H Q) : PW X e t' := ⟨fun wh pins s σ H Q I q => h.run wh pins s σ H Q I (i σ H Q q)⟩
theorem pxt_not (ha : PXT X W L a (evB cf ia)) : PXT X W L (.UnaryOp .Not a pos) (evB cf (.not ia)) :=
  PT.imp (pt_not ha) fun σ H Q ⟨fx, Fz, s, φ, rl, p⟩ => ⟨fx, Fz, s, φ, rl, by
    have p : PostB X.K X.mg W L fx Fz H s φ σ (bindM (bindM (evB cf ia) fun b => pureM [.d (.bool !b)]) asC s) Q := p
    unfold bindM at p
    show PostB X.K X.mg W L fx Fz H s φ σ (bindM (ev cf ia) asC s) _
    cases e : bindM (ev cf ia) asC s with
    | ok b s1 =>
      unfold bindM at e
      unfold evB bindM at p
      rw [e] at p
      exact p
    | exc c s1 =>
      unfold bindM at e
      unfold evB bindM at p
      rw [e] at p
      exact p
    | stuck =>
      unfold bindM at e
      unfold evB bindM at p
      rw [e] at p
      exact p.elim⟩
theorem evB_and (s : S) : evB cf (.and ia ib) s = bindM (evB cf ia) (fun c => match c with | true => evB cf ib | false => pureM false) s := by
  show bindM (bindM (bindM (ev cf ia) asC) fun c => match c with | true => ev cf ib | false => pureM [.d (.bool false)]) asC s = _
  unfold evB
  unfold bindM
  cases e : ((ev cf ia s).bind asC) with
  | ok b s1 => cases b <;> rfl
  | exc c s1 => rfl
  | stuck => rfl
theorem evB_or (s : S) : evB cf (.or ia ib) s = bindM (evB cf ia) (fun c => match c with | true => pureM true | false => evB cf ib) s := by
  show bindM (bindM (bindM (ev cf ia) asC) fun c => match c with | true => pureM [.d (.bool true)] | false => ev cf ib) asC s = _
  unfold evB
  unfold bindM
  cases e : ((ev cf ia s).bind asC) with
  | ok b s1 => cases b <;> rfl
  | exc c s1 => rfl
  | stuck => rfl
theorem PostB.bindBB {fx : Fx} {Fz H : Hp} {σ : L2.St} {s : S} {φ : Nat → List Addr} {Q : Bool → Hp → Prop} {m : M Bool} {k : Bool → M Bool} (h : PostB X.K X.mg W L fx Fz H s φ σ (bindM m k s) Q) :
    PostB X.K X.mg W L fx Fz H s φ σ (m s) fun c H1 => ∃ Fz1 s1 φ1, Go L Fz H s φ Fz1 H1 s1 φ1 ∧ Rel X.K fx Fz1 σ H1 s1 φ1 ∧ PostB X.K X.mg W L fx Fz1 H1 s1 φ1 σ (k c s1) Q := by
  unfold bindM R.bind at h
  cases e : m s with
  | ok b s1 =>
    rw [e] at h
    refine fun H' Fz' φ' g rl => ⟨Fz', s1, φ', g, rl, ?_⟩
    dsimp only at h
    cases e2 : k b s1 with
    | ok b2 s2 => rw [e2] at h; exact fun H2 F2 φ2 g2 rl2 => h H2 F2 φ2 (g.trans g2) rl2
    | exc c s2 => rw [e2] at h; exact PostX.mono g h
    | stuck => rw [e2] at h; exact h.elim
  | exc c s1 => rw [e] at h; exact h
  | stuck => rw [e] at h; exact h.elim
theorem pxw_and1 (ha : PXT X W L a (evB cf ia)) : PXW X W L (.BoolOp .And [a] pos) (evB cf ia) := pw_and1 ha
theorem pxw_or1 (ha : PXT X W L a (evB cf ia)) : PXW X W L (.BoolOp .Or [a] pos) (evB cf ia) := pw_or1 ha
theorem pxw_and {rest : List Expr} (ha : PXT X W L a (evB cf ia)) (hb : PXW X W L (.BoolOp .And (b :: rest) pos) (evB cf ib)) : PXW X W L (.BoolOp .And (a :: b :: rest) pos) (evB cf (.and ia ib)) :=
  PW.imp (pw_and ha hb) fun σ H Q ⟨fx, Fz, s, φ, rl, p⟩ => ⟨fx, Fz, s, φ, rl, by
    rw [evB_and] at p
    refine PostB.imp (PostB.bindBB p) fun c H' ⟨F1, s1, φ1, g1, rl1, p1⟩ => ?_
    cases c with
    | true => exact iteT ⟨fx, F1, s1, φ1, rl1, p1⟩
    | false => exact iteF (p1 H' F1 φ1 Go.refl rl1)⟩
theorem pxw_or {rest : List Expr} (ha : PXT X W L a (evB cf ia)) (hb : PXW X W L (.BoolOp .Or (b :: rest) pos) (evB cf ib)) : PXW X W L (.BoolOp .Or (a :: b :: rest) pos) (evB cf (.or ia ib)) :=
  PW.imp (pw_or ha hb) fun σ H Q ⟨fx, Fz, s, φ, rl, p⟩ => ⟨fx, Fz, s, φ, rl, by
    rw [evB_or] at p
    refine PostB.imp (PostB.bindBB p) fun c H' ⟨F1, s1, φ1, g1, rl1, p1⟩ => ?_
    cases c with
    | true => exact iteT (p1 H' F1 φ1 Go.refl rl1)
    | false => exact iteF ⟨fx, F1, s1, φ1, rl1, p1⟩⟩
theorem ix_ok {fx : Fx} {Fz H : Hp} {σ : L2.St} {s : S} {φ : Nat → List Addr} {Q : VK} {x y : V} {d e r : D} (rl : Rel X.K fx Fz σ H s φ) (hx : Rq X.K Fz H x d) (hy : Rq X.K Fz H y e) (ho : ixD d e = some r)
    (p : Post X.K X.mg W L fx Fz H s φ σ (pureM [.d r] s) Q) : rIx X.K x y H Q := by
  unfold ixD at ho
  split at ho
  · cases hy.int
    obtain ⟨a, vs, rfl, t1, r1⟩ := hx.lst rl
    obtain ⟨v, h1, h2⟩ := r1.atI ho
    exact .inl ⟨a, vs, _, v, rfl, rfl, SqL.of t1, h1, Post.retD rl h2 p⟩
  · cases hy.int
    obtain ⟨a, vs, rfl, t1, r1⟩ := hx.tup
    obtain ⟨v, h1, h2⟩ := r1.atI ho
    exact .inr (.inl ⟨a, vs, _, v, rfl, rfl, sqT_mono rl.sub t1, h1, Post.retD rl h2 p⟩)
  · cases ho
theorem px_ix (ha : PX X W L a (ev cf ia)) (hb : PX X W L b (ev cf ib)) (hs : PlainIx b) : PX X W L (.Subscript a b pos) (ev cf (.ix ia ib)) :=
  PE.imp (pe_ix ix_seq (PX.d ha) (PX.d hb) hs) fun σ H Q h => red2 (f := fun x y => bindM (optM (ixD x y)) fun d => pureM [.d d]) (fun fx Fz H s φ x y d e rl r1 r2 p => by
    obtain ⟨v, hv, p⟩ := Post.bindO p
    exact ix_ok rl (.inl r1) (.inl r2) hv p) h
theorem px_ixB {p : Pl} {L' : Nat → Prop} (hLL : ∀ i, L' i → L i) (hp : p.f ≠ none → ¬ L' p.i) (ha : PE X a (tPl p)) (hb : PX X W L' b (ev cf ib)) (hs : PlainIx b) : PX X W L (.Subscript a b pos) (ev cf (.ixB p ib)) :=
  PE.imp (pe_ix ix_seq ha (PX.d hb) hs) fun σ H Q h => redV (p := p) hLL hp (f := fun x y => bindM (optM (ixD x y)) fun d => pureM [.d d]) (fun fx Fz H s φ x y d e rl r1 r2 p => by
    obtain ⟨v, hv, p⟩ := Post.bindO p
    exact ix_ok rl r1 (.inl r2) hv p) h
def tOpt (K : PySem.W.Frag) (mg : Str → Option Value) (W : WX) (L : Nat → Prop) (m : M (Option Int)) : TO := fun σ H Q => ∃ fx Fz s φ, Rel K fx Fz σ H s φ ∧ (match m s with
  | .ok o s' => ∀ H' Fz' φ', Go L Fz H s φ Fz' H' s' φ' → Rel K fx Fz' σ H' s' φ' → Q o H'
  | .exc c s' => PostX K mg W L fx Fz H s φ σ c s'
  | .stuck => False)
theorem PO.imp {X : Cx} {e : Option Expr} {t t' : TO} (h : PO X e t) (i : ∀ σ H Q, t' σ H Q → t σ H Q) : PO X e t' := ⟨fun pins s σ H Q I q => h.run pins s σ H Q I (i σ H Q q)⟩
abbrev PXO (X : Cx) (W : WX) (L : Nat → Prop) (e : Option Expr) (m : M (Option Int)) : Prop := PO X e (tOpt X.K X.mg W L m)
end
end VL
set_option maxHeartbeats 1000000
namespace VL
open PySem PySem.Spec PyProof.Rows L2
variable [Tabl]
section
variable {X : Cx} {W : WX} {L : Nat → Prop} {cf : CF} {e a b c : Expr} {pos p2 : Pos} {ia ib ic il ih : IE} {o o' : Cop} {bl bh : Bool}
theorem AtV.inj {σ : L2.St} {H : Hp} {p : Pl} {v v' : V} (k1 : AtV σ H p v') (k3 : AtV σ H p v) : v' = v := by
  cases hf : p.f with
  | none => unfold AtV at k1 k3; rw [hf] at k1 k3; rw [k1] at k3; cases k3; rfl
  | some f =>
    unfold AtV at k1 k3
    rw [hf] at k1 k3
    obtain ⟨a, c, dx, fvs, m1, m2, m3⟩ := k1
    obtain ⟨a', c', dx', fvs', n1, n2, n3⟩ := k3
    rw [m1] at n1; cases n1
    rw [m2] at n2
    have e3 : fvs = fvs' := by injection Option.some.inj n2
    rw [e3, n3] at m3; cases m3; rfl
theorem pxo_none {m : M (List RV)} : PXO X W L none (partB false m) := PO.imp po_none fun σ H Q ⟨fx, Fz, s, φ, rl, p⟩ => p H Fz φ Go.refl rl
theorem part_ok {l : List RV} {s s' : S} {o : Option Int} (h : part l s = .ok o s') : ∃ i, l = [.d (.int i)] ∧ o = some i ∧ s' = s := by
  unfold part at h
  split at h
  · cases h; exact ⟨_, rfl, rfl, rfl⟩
  · cases h
theorem part_exc {l : List RV} {s s' : S} {c : Str} (h : part l s = .exc c s') : False := by
  unfold part at h
  split at h <;> cases h
theorem pxo_some (h : PX X W L e (ev cf ia)) : PXO X W L (some e) (partB true (ev cf ia)) := PO.imp (po_some h) fun σ H Q ⟨fx, Fz, s, φ, rl, p⟩ => ⟨fx, Fz, s, φ, rl, by
  unfold partB bindM R.bind at p
  dsimp only at p
  cases e1 : ev cf ia s with
  | ok l s1 =>
    rw [e1] at p
    dsimp only at p
    cases e2 : part l s1 with
    | ok o s2 =>
      rw [e2] at p
      obtain ⟨i, rfl, rfl, rfl⟩ := part_ok e2
      intro v fp H' Fz' φ' g rl' rv hf
      have rv : Rp X.K Fz' v (.int i) := rv.2
      cases rv
      exact ⟨_, rfl, p H' Fz' φ' g rl'⟩
    | exc c s2 => exact (part_exc e2).elim
    | stuck => rw [e2] at p; exact p.elim
  | exc c s1 => rw [e1] at p; exact p
  | stuck => rw [e1] at p; exact p.elim⟩
theorem Post.bindP {L' : Nat → Prop} (hLL : ∀ i, L' i → L i) {fx : Fx} {Fz H : Hp} {σ : L2.St} {s : S} {φ : Nat → List Addr} {Q : VK} {m : M (Option Int)} {f : Option Int → M (List RV)} {Rr : Option Int → Hp → Prop} (rl : Rel X.K fx Fz σ H s φ) (h : Post X.K X.mg W L fx Fz H s φ σ (bindM m f s) Q)
    (hr : ∀ Fz1 H1 s1 φ1 o, Go L' Fz H s φ Fz1 H1 s1 φ1 → Rel X.K fx Fz1 σ H1 s1 φ1 → Post X.K X.mg W L fx Fz1 H1 s1 φ1 σ (f o s1) Q → Rr o H1) : tOpt X.K X.mg W L' m σ H Rr := by
  refine ⟨fx, Fz, s, φ, rl, ?_⟩
  unfold bindM R.bind at h
  cases e : m s with
  | ok o s1 =>
    rw [e] at h
    exact fun H' Fz' φ' g rl' => hr Fz' H' s1 φ' o g rl' (Post.mono (g.mono hLL) h)
  | exc c s1 => rw [e] at h; exact fun C H' F' φ' hm g r => h C H' F' φ' hm (g.mono hLL) r
  | stuck => rw [e] at h; exact h.elim
def rSl (K : PySem.W.Frag) : V → Option Int → Option Int → Hp → VK → Prop := fun x lo hi H Q => rSlL K x lo hi H Q ∨ rSlA K x lo hi H Q
theorem sl_any : SlR X (rSl X.K) := sl_list.or sl_tupA
theorem cutV_all {xs : List V} {lo hi : Option Int} (h : HT.sIx xs.length 0 lo = 0 ∧ HT.sIx xs.length xs.length hi = xs.length) : cutV xs lo hi = xs := by
  unfold cutV
  rw [h.1, h.2]
  simp
theorem sl_ok {fx : Fx} {Fz H : Hp} {σ : L2.St} {s : S} {φ : Nat → List Addr} {Q : VK} {x : V} {d : D} {lo hi : Option Int} {r : RV} (rl : Rel X.K fx Fz σ H s φ) (hx : Rq X.K Fz H x d) (ho : slcD d lo hi = some r)
    (p : Post X.K X.mg W L fx Fz H s φ σ (pureM [r] s) Q) : rSl X.K x lo hi H Q := by
  unfold slcD at ho
  split at ho
  · cases ho
    obtain ⟨a, vs, rfl, t1, r1⟩ := hx.lst rl
    refine .inl ⟨a, vs, rfl, SqL.of t1, fun q hq => ?_⟩
    obtain ⟨g, rl', rv⟩ := rl.layOwn (L := L) hq (r1.cut lo hi)
    exact Post.ret g rl' rv (fun b hb => by simp at hb; rw [hb]; exact strip_free hq) p
  · cases ho
    obtain ⟨a, vs, rfl, t1, r1⟩ := hx.tup
    refine .inr ⟨a, vs, rfl, sqT_mono rl.sub t1, fun z => ?_, fun z q hq => ?_⟩
    · have r2 := r1.cut lo hi
      rw [cutV_all z] at r2
      exact Post.retD rl (.tup t1 r2) p
    · obtain ⟨g, rl'⟩ := rl.lay (L := L) (o := .tup (cutV vs lo hi)) hq
      exact Post.retD rl' (.tup (.inl (.inl upd_same)) ((r1.cut lo hi).mono g.fz)) (Post.mono g p)
  · cases ho
variable {lo hi : Option Expr}
theorem px_slc (ha : PX X W L a (ev cf ia)) (hl : PXO X W L lo (partB bl (ev cf il))) (hh : PXO X W L hi (partB bh (ev cf ih))) : PX X W L (.Subscript a (.Slice lo hi none p2) pos) (ev cf (.slc bl bh ia il ih)) :=
  PE.imp (pe_slice sl_any (PX.d ha) hl hh) fun σ H Q h => red1 (f := fun x => bindM (partB bl (ev cf il)) fun l => bindM (partB bh (ev cf ih)) fun h => bindM (optM (slcD x l h)) fun r => pureM [r]) (fun fx Fz H s φ x d rl rp p =>
    Post.bindP (fun _ z => z) rl p fun F1 H1 s1 φ1 l g1 rl1 p1 => Post.bindP (fun _ z => z) rl1 p1 fun F2 H2 s2 φ2 h g2 rl2 p2 => by
      obtain ⟨r, hr, p3⟩ := Post.bindO p2
      exact sl_ok rl2 (.inl (rp.mono (g1.trans g2).fz)) hr p3) h
theorem px_slcB {q : Pl} {L' : Nat → Prop} (hLL : ∀ i, L' i → L i) (hp : q.f ≠ none → ¬ L' q.i) (ha : PE X a (tPl q)) (hl : PXO X W L' lo (partB bl (ev cf il))) (hh : PXO X W L' hi (partB bh (ev cf ih))) : PX X W L (.Subscript a (.Slice lo hi none p2) pos) (ev cf (.slcB bl bh q il ih)) :=
  PE.imp (pe_slice sl_any ha hl hh) fun σ H Q ⟨fx, Fz, s, φ, rl, p⟩ => by
    obtain ⟨d, v, h1, h2, p, ek⟩ := Post.peekQ rl p
    refine ⟨v, h1, Post.bindP hLL rl p fun F1 H1 s1 φ1 l g1 rl1 p1 => Post.bindP hLL rl1 p1 fun F2 H2 s2 φ2 h g2 rl2 p2 => ?_⟩
    obtain ⟨d', v', k1, k2, p3, _⟩ := Post.peekQ rl2 p2
    have ev := AtV.inj k1 (AtV.go rl (g1.trans g2) hp (fun hf => peek_ob ek hf) h1)
    rw [ev] at k2
    obtain ⟨r, hr, p4⟩ := Post.bindO p3
    exact sl_ok rl2 k2 hr p4
def rBlt (X : Cx) : Blt → List V → Hp → VK → Prop
  | .len => fun xs H Q => (∃ p ys, xs = [.ref p] ∧ (SqL X.K H p ys ∨ SqT X.K H p ys) ∧ Q (.int ys.length) H) ∨ ∃ z, xs = [.str z] ∧ z.length ≤ sizeLine ∧ Q (.int z.length) H
  | .all => rAll X.K
  | .any => rAny X.K
  | .sum => rSum X.K
  | .abs => fun xs H Q => ∃ i, xs = [.int i] ∧ Q (.int (if i < 0 then -i else i)) H
  | .max2 => fun xs H Q => ∃ i j, xs = [.int i, .int j] ∧ Q (.int (if j > i then j else i)) H
  | .min2 => fun xs H Q => ∃ i j, xs = [.int i, .int j] ∧ Q (.int (if j < i then j else i)) H
  | .tuple => fun xs H Q => ∃ p ys, xs = [.ref p] ∧ ((SqL X.K H p ys ∧ ∀ l, H l = none → Q (.ref l) (upd H l (.tup ys))) ∨ (SqT X.K H p ys ∧ Q (.ref p) H))
  | .list => fun xs H Q => ∃ p ys, xs = [.ref p] ∧ (SqL X.K H p ys ∨ SqT X.K H p ys) ∧ ∀ l, H l = none → Q (.ref l) (upd H l (.lst ys))
  | .int1 => fun xs H Q => (∃ i, xs = [.int i] ∧ Q (.int i) H) ∨ ∃ k, xs = [.bl k] ∧ Q (.int (if k then 1 else 0)) H
def bltName : Blt → Str
  | .len => "len" | .all => "all" | .any => "any" | .sum => "sum" | .abs => "abs" | .max2 => "max" | .min2 => "min" | .tuple => "tuple" | .list => "list" | .int1 => "int"
theorem pe_blt (hc : X.calm = true) {k : Blt} {x : Str} {p : Pos} {es : List Expr} {t : TA} (hx : x = bltName k) (hg : Gl X x) (hm : X.mg x = none) (ha : PA X (e :: es) t)
    (he : starEach (e :: es) X.env = (false, eval e X.env) :: starEach es X.env) (hpl : (backTo pos (starEach es X.env)).any (·.1) = false) : PE X (.Call (.Name x p) (e :: es) [] pos) (tCB (rBlt X k) t) := by
  subst hx
  cases k with
  | len => exact pe_callB (call_len_seq.or call_len_str) hg hm PySem.boot_len ha (by decide +kernel) (by decide +kernel) he hpl
  | all => exact pe_callB (cr_all hc) hg hm (by decide +kernel) ha (by decide +kernel) (by decide +kernel) he hpl
  | any => exact pe_callB (cr_any hc) hg hm (by decide +kernel) ha (by decide +kernel) (by decide +kernel) he hpl
  | sum => exact pe_callB (cr_sum hc) hg hm (by decide +kernel) ha (by decide +kernel) (by decide +kernel) he hpl
  | abs => exact pe_callB call_abs hg hm (by decide +kernel) ha (by decide +kernel) (by decide +kernel) he hpl
  | max2 => exact pe_callB (call_max2 hc) hg hm (by decide +kernel) ha (by decide +kernel) (by decide +kernel) he hpl
  | min2 => exact pe_callB (call_min2 hc) hg hm (by decide +kernel) ha (by decide +kernel) (by decide +kernel) he hpl
  | tuple => exact pe_callTy call_tuple_of hg hm (by decide +kernel) ha (by decide +kernel) (by decide +kernel) he hpl
  | list => exact pe_callTy call_list_of hg hm (by decide +kernel) ha (by decide +kernel) (by decide +kernel) he hpl
  | int1 => exact pe_callTy call_int1 hg hm (by decide +kernel) ha (by decide +kernel) (by decide +kernel) he hpl
theorem blt_ok {fx : Fx} {Fz H : Hp} {σ : L2.St} {s : S} {φ : Nat → List Addr} {Q : VK} {k : Blt} {xs : List V} {ds : List D} {r : RV} (rl : Rel X.K fx Fz σ H s φ) (hx : Paired (Rq X.K Fz H) xs ds) (ho : blt k ds = some r)
    (p : Post X.K X.mg W L fx Fz H s φ σ (pureM [r] s) Q) : rBlt X k xs H Q := by
  unfold blt at ho
  split at ho
  · cases ho; cases hx with | cons h1 t => cases t; obtain ⟨a, vs, rfl, t1, r1⟩ := h1.lst rl; exact .inl ⟨a, vs, rfl, .inl (SqL.of t1), by rw [r1.length]; exact Post.retD rl (.int _) p⟩
  · cases ho; cases hx with | cons h1 t => cases t; obtain ⟨a, vs, rfl, t1, r1⟩ := h1.tup; exact .inl ⟨a, vs, rfl, .inr (sqT_mono rl.sub t1), by rw [r1.length]; exact Post.retD rl (.int _) p⟩
  · split at ho
    · next hl => cases ho; cases hx with | cons h1 t => cases t; cases h1.str; exact .inr ⟨_, rfl, len_le hl, Post.retD rl (.int _) p⟩
    · cases ho
  · cases hx with | cons h1 t =>
    cases t
    obtain ⟨a, vs, rfl, t1, r1⟩ := h1.lst rl
    simp only [Option.map_eq_some_iff] at ho
    obtain ⟨bs, h2, rfl⟩ := ho
    have := r1.bools h2
    subst this
    exact ⟨a, bs, rfl, SqL.of t1, Post.retD rl (.bl _) p⟩
  · cases hx with | cons h1 t =>
    cases t
    obtain ⟨a, vs, rfl, t1, r1⟩ := h1.lst rl
    simp only [Option.map_eq_some_iff] at ho
    obtain ⟨bs, h2, rfl⟩ := ho
    have := r1.bools h2
    subst this
    exact ⟨a, bs, rfl, SqL.of t1, Post.retD rl (.bl _) p⟩
  · cases hx with | cons h1 t =>
    cases t
    obtain ⟨a, vs, rfl, t1, r1⟩ := h1.lst rl
    simp only [Option.map_eq_some_iff] at ho
    obtain ⟨bs, h2, rfl⟩ := ho
    have := r1.intl h2
    subst this
    exact ⟨a, bs, rfl, SqL.of t1, Post.retD rl (.int _) p⟩
  · cases ho; cases hx with | cons h1 t => cases t; cases h1.int; exact ⟨_, rfl, Post.retD rl (.int _) p⟩
  · cases ho; cases hx with | cons h1 t => cases t with | cons h2 t => cases t; cases h1.int; cases h2.int; exact ⟨_, _, rfl, Post.retD rl (.int _) p⟩
  · cases ho; cases hx with | cons h1 t => cases t with | cons h2 t => cases t; cases h1.int; cases h2.int; exact ⟨_, _, rfl, Post.retD rl (.int _) p⟩
  · cases ho; cases hx with | cons h1 t =>
    cases t
    obtain ⟨a, vs, rfl, t1, r1⟩ := h1.lst rl
    refine ⟨a, vs, rfl, .inl ⟨SqL.of t1, fun q hq => ?_⟩⟩
    obtain ⟨g, rl'⟩ := rl.lay (L := L) (o := .tup vs) hq
    exact Post.retD rl' (.tup (.inl (.inl upd_same)) (r1.mono g.fz)) (Post.mono g p)
  · cases ho; cases hx with | cons h1 t =>
    cases t
    obtain ⟨a, vs, rfl, t1, r1⟩ := h1.tup
    exact ⟨a, vs, rfl, .inr ⟨sqT_mono rl.sub t1, Post.retD rl (.tup t1 r1) p⟩⟩
  · cases ho; cases hx with | cons h1 t =>
    cases t
    obtain ⟨a, vs, rfl, t1, r1⟩ := h1.lst rl
    refine ⟨a, vs, rfl, .inl (SqL.of t1), fun q hq => ?_⟩
    obtain ⟨g, rl', rv⟩ := rl.layOwn (L := L) hq r1
    exact Post.ret g rl' rv (fun b hb => by simp at hb; rw [hb]; exact strip_free hq) p
  · cases ho; cases hx with | cons h1 t =>
    cases t
    obtain ⟨a, vs, rfl, t1, r1⟩ := h1.tup
    refine ⟨a, vs, rfl, .inr (sqT_mono rl.sub t1), fun q hq => ?_⟩
    obtain ⟨g, rl', rv⟩ := rl.layOwn (L := L) hq r1
    exact Post.ret g rl' rv (fun b hb => by simp at hb; rw [hb]; exact strip_free hq) p
  · cases ho; cases hx with | cons h1 t => cases t; cases h1.bool; exact .inr ⟨_, rfl, Post.retD rl (.int _) p⟩
  · cases ho; cases hx with | cons h1 t => cases t; cases h1.int; exact .inl ⟨_, rfl, Post.retD rl (.int _) p⟩
  · cases ho
theorem Rps.q {K : PySem.W.Frag} {Fz H : Hp} : ∀ {vs : List V} {ds : List D}, Rps K Fz vs ds → Paired (Rq K Fz H) vs ds
  | _, _, .nil => .nil
  | _, _, .cons h t => .cons (.inl h) (Rps.q t)
theorem px_blt (hc : X.calm = true) {k : Blt} {x : Str} {p : Pos} {es : List Expr} (hx : x = bltName k) (hg : Gl X x) (hm : X.mg x = none) (ha : PXA X W L (e :: es) (ev cf ia))
    (he : starEach (e :: es) X.env = (false, eval e X.env) :: starEach es X.env) (hpl : (backTo pos (starEach es X.env)).any (·.1) = false) : PX X W L (.Call (.Name x p) (e :: es) [] pos) (ev cf (.blt k ia)) :=
  PE.imp (pe_blt hc hx hg hm ha he hpl) fun σ H Q h => redA (f := fun ds => bindM (optM (blt k ds)) fun r => pureM [r]) (fun fx Fz H s φ xs ds rl rp p => by
    obtain ⟨r, hr, p⟩ := Post.bindO p
    exact blt_ok rl rp.q hr p) h
theorem px_bltB (hc : X.calm = true) {k : Blt} {x : Str} {p : Pos} {q : Pl} (hx : x = bltName k) (hg : Gl X x) (hm : X.mg x = none) (ha : PE X e (tPl q))
    (he : starEach [e] X.env = [(false, eval e X.env)]) : PX X W L (.Call (.Name x p) [e] [] pos) (ev cf (.bltB k q)) :=
  PE.imp (pe_blt hc hx hg hm (pa_cons ha pa_nil he) he rfl) fun σ H Q ⟨fx, Fz, s, φ, rl, p⟩ => by
    obtain ⟨d, v, h1, h2, p, _⟩ := Post.peekQ rl p
    obtain ⟨r, hr, p⟩ := Post.bindO p
    exact ⟨v, h1, blt_ok rl (.cons h2 .nil) hr p⟩
def tyN : Ty → String
  | .int => "int" | .bool => "bool" | .str => "str" | .tuple => "tuple" | .list => "list"
theorem Rp.ty {K : PySem.W.Frag} {H : Hp} {v : V} {d : D} (h : Rp K H v d) : ∃ T : String, TyX K H v (.type T) ∧ ∀ t b, isiD d t = some b → kitB T (tyN t) = some b := by
  cases h with
  | non => exact ⟨"NoneType", .base .non, fun t b h => by cases t <;> (cases h; decide +kernel)⟩
  | bl k => exact ⟨"bool", .base (.bl _), fun t b h => by cases t <;> (cases h; decide +kernel)⟩
  | int k => exact ⟨"int", .base (.int _), fun t b h => by cases t <;> (cases h; decide +kernel)⟩
  | str k => exact ⟨"str", .base (.str _), fun t b h => by cases t <;> (cases h; decide +kernel)⟩
  | lst h1 h2 => exact ⟨"list", .base (.lst h1), fun t b h => by cases t <;> (cases h; decide +kernel)⟩
  | tup h1 h2 =>
    refine ⟨"tuple", ?_, fun t b h => by cases t <;> (cases h; decide +kernel)⟩
    rcases h1 with (h1 | ⟨o, h1⟩) | ⟨o, its, n, h1, h2, _⟩
    · exact .base (.tup h1)
    · exact .fTuple h1
    · exact .kTuple h1 h2
theorem px_isi {x y : Str} {p p' : Pos} {t : Ty} (hx : x = "isinstance") (hg : Gl X x) (hm : X.mg x = none) (hg' : Gl X y) (hm' : X.mg y = none) (hv : bootBuiltins y = some (.type (tyN t))) (hn : y ≠ "__name__") (hd : (y == ("__debug__" : Str)) = false) (ha : PX X W L a (ev cf ia))
    (he : starEach [a, .Name y p'] X.env = (false, eval a X.env) :: starEach [.Name y p'] X.env) : PX X W L (.Call (.Name x p) [a, .Name y p'] [] pos) (ev cf (.isi ia t)) := by
  subst hx
  have hc : PE X (.Name y p') (tC (.ty (tyN t))) := pe_bltn hg' hm' hv rfl hn hd
  refine PE.imp (pe_callB call_isi hg hm (by decide +kernel) (pa_cons (PX.d ha) (pa_cons hc pa_nil rfl) he) (by decide +kernel) (by decide +kernel) he rfl) fun σ H Q h => ?_
  refine red1 (f := fun x => bindM (optM (isiD x t)) fun b => pureM [.d (.bool b)]) (fun fx Fz H s φ x d rl rp p => ?_) h
  obtain ⟨b, hb, p⟩ := Post.bindO p
  obtain ⟨T, h1, h2⟩ := (rp.mono rl.sub).ty
  exact ⟨x, .ty (tyN t), .type T, .type (tyN t), b, rfl, .ty (tyN t), h1, kit_ty (h2 t b hb), Post.retD rl (.bl _) p⟩
end
end VL
set_option maxHeartbeats 1000000
namespace VL
open PySem PySem.Spec PyProof.Rows L2
variable [Tabl]
def AvsOk (K : PySem.W.Frag) (F H : Hp) : List AV → List V → List (List Addr) → Prop
  | [], [], [] => True
  | a :: as, v :: vs, fp :: fps => AvOk K F H a v fp ∧ AvsOk K F H as vs fps ∧ ∀ b ∈ fp, ∀ fq ∈ fps, b ∉ fq
  | _, _, _ => False
structure After (fps : List (List Addr)) (Fz H Fz' H' : Hp) : Prop where
  sub : Same Fz' H'
  f : Same Fz Fz'
  old : ∀ b o, H b = some o → NT o → (∀ fp ∈ fps, b ∉ fp) → H' b = some o
  dm : ∀ b o, H b = some o → NT o → ∃ u, H' b = some u ∧ NT u
  nf : ∀ b o, H b = some o → NT o → Fz b = none → Fz' b = none
  hF : ∀ b o, Fz' b = some o → NT o
  tb : LamX.Tabs Tabl.T H'
def ObsOk (K : PySem.W.Frag) (H Fz' H' : Hp) : List AV → List V → List (List Addr) → List Ob → List (List Addr) → Prop
  | [], [], [], [], [] => True
  | .o _ :: as, v :: vs, fp :: fps, o :: os, fq :: fqs => (∃ a, v = .ref a ∧ ObOk K Fz' H' o a fq) ∧ (∀ b ∈ fq, (b ∈ fp ∨ strip H b = none) ∧ Fz' b = none) ∧ ObsOk K H Fz' H' as vs fps os fqs ∧ ∀ b ∈ fq, ∀ fr ∈ fqs, b ∉ fr
  | .d _ :: as, _ :: vs, _ :: fps, os, fq :: fqs => fq = [] ∧ ObsOk K H Fz' H' as vs fps os fqs
  | .clo _ _ :: as, _ :: vs, _ :: fps, os, fq :: fqs => fq = [] ∧ ObsOk K H Fz' H' as vs fps os fqs
  | _, _, _, _, _ => False
def PostC (K : PySem.W.Frag) (mg : Str → Option Value) (Fz H : Hp) (as : List AV) (vs : List V) (fps : List (List Addr)) (res : RC) (Q : VK) (E : XK) : Prop := match res with
  | .ok d os => ∀ v H' Fz' fqs, After fps Fz H Fz' H' → ObsOk K H Fz' H' as vs fps os fqs → Rp K Fz' v d → Q v H'
  | .exc c os => ∀ C H' Fz' fqs, mg c = some C → After fps Fz H Fz' H' → ObsOk K H Fz' H' as vs fps os fqs → E C none H'
  | .stuck => False
def spD (K : PySem.W.Frag) (mg : Str → Option Value) (F : List AV → RC) : Sp := fun vs H Q E => ∃ (Fz : Hp) (as : List AV) (fps : List (List Addr)),
  (Same Fz H ∧ (∀ b o, Fz b = some o → NT o) ∧ LamX.Tabs Tabl.T H) ∧ AvsOk K Fz H as vs fps ∧ (∀ fp ∈ fps, ∀ b ∈ fp, Fz b = none) ∧ PostC K mg Fz H as vs fps (F as) Q E
section
variable {K : PySem.W.Frag} {fx : Fx} {L : Nat → Prop} {Fz H F0 H0 F' H' : Hp} {σ : L2.St} {s s0 s' : S} {φ φ0 φ' : Nat → List Addr}
theorem Rel.many (r : Rel K fx Fz σ H s φ) (g0 : Go L F0 H0 s0 φ0 Fz H s φ) (P : Nat → Prop) (T : Addr → Prop) (hlen : s'.length = s.length)
    (hout : ∀ i : Nat, ¬ P i → s'[i]? = s[i]? ∧ φ' i = φ i)
    (hin : ∀ i : Nat, P i → ∃ w o o' a, s[i]? = some (some (.ob w o)) ∧ s'[i]? = some (some (.ob w o')) ∧ σ[i]? = some (some (.ref a)) ∧ ObOk K F' H' o' a (φ' i) ∧ ∀ b ∈ φ' i, (b ∈ φ i ∨ strip H b = none) ∧ F' b = none)
    (hdj : ∀ i j, P i → P j → i ≠ j → ∀ b ∈ φ' i, b ∉ φ' j) (hT : ∀ b, T b → strip H0 b = none ∧ fx.H0 b = none ∧ ∀ (i : Nat) w o, s[i]? = some (some (.ob w o)) → b ∉ φ i)
    (hF : Same Fz F') (hS : Same F' H') (hk : ∀ b u, H b = some u → NT u → (∀ i, P i → b ∉ φ i) → ¬ T b → H' b = some u) (hd : ∀ b u, H b = some u → NT u → ∃ u', H' b = some u' ∧ NT u')
    (hF0 : ∀ b u, H b = some u → NT u → Fz b = none → F' b = none) (hN : ∀ b u, F' b = some u → NT u) (hTb : LamX.Tabs Tabl.T H') (hL : ∀ i, P i → L i) :
    Rel K fx F' σ H' s' φ' ∧ Go L F0 H0 s0 φ0 F' H' s' φ' := by
  have cases_ : ∀ i : Nat, (P i ∧ ∃ w o o' a, s[i]? = some (some (.ob w o)) ∧ s'[i]? = some (some (.ob w o')) ∧ σ[i]? = some (some (.ref a)) ∧ ObOk K F' H' o' a (φ' i) ∧ ∀ b ∈ φ' i, (b ∈ φ i ∨ strip H b = none) ∧ F' b = none) ∨ (¬ P i ∧ s'[i]? = s[i]? ∧ φ' i = φ i) := fun i => by
    by_cases h : P i
    · exact .inl ⟨h, hin i h⟩
    · exact .inr ⟨h, hout i h⟩
  have notP : ∀ (j : Nat) w o, ¬ P j → s[j]? = some (some (.ob w o)) → ∀ b ∈ φ j, ∀ i, P i → b ∉ φ i := fun j w o hj hq b hb i hi => by
    obtain ⟨w', o', _, _, h1, _⟩ := hin i hi
    exact r.dj j i w w' o o' (fun z => hj (z ▸ hi)) hq h1 b hb
  have keep : ∀ (j : Nat) w o, ¬ P j → s[j]? = some (some (.ob w o)) → ∀ b ∈ φ j, H' b = H b := fun j w o hj hq b hb => by
    obtain ⟨u, h1, h2⟩ := r.foot hq b hb
    rw [h1]
    exact hk b u h1 h2.nt (notP j w o hj hq b hb) fun z => (hT b z).2.2 j w o hq hb
  refine ⟨⟨hS, fun b u e => ?_, fun b u e n => ?_, fun b u e => hF _ _ (r.f0 b u e), fun b u e n => ?_, fun j z hq => ?_, fun j w1 o1 hq b hb => ?_, fun j k w1 w2 o1 o2 hn q1 q2 b hb => ?_, fun j b hj => ?_, by rw [hlen]; exact r.len, ⟨r.tt.h0, hN, hTb⟩⟩, ⟨g0.fz.trans hF, fun b u e n k => ?_, fun b u e n => ?_, fun b u e n z k => ?_, fun j w1 x hq => ?_⟩⟩
  · obtain ⟨u', e', n'⟩ := r.dom b u e
    exact hd b u' e' n'
  · have e' := r.old b u e n
    refine hk b u e' (r.tt.h0 b u e) (fun i hi z => ?_) fun z => by rw [(hT b z).2.1] at e; cases e
    obtain ⟨w, o, _, _, h1, _⟩ := hin i hi
    rcases (r.fz i w o h1 b z).2 with f | f
    · rw [e] at f; cases f
    · exact n i f.2
  · obtain ⟨u', e', n'⟩ := r.dom b u e
    exact hF0 b u' e' n' (r.nf b u e n)
  · rcases cases_ j with ⟨_, w, o, o', a, h1, h2, h3, h4, _⟩ | ⟨hj, h1, h2⟩
    · rw [h2] at hq; cases hq
      exact ⟨_, h3, a, rfl, h4⟩
    · rw [h1] at hq
      obtain ⟨v, g1, g2⟩ := r.sl j z hq
      refine ⟨v, g1, ?_⟩
      rw [h2]
      exact g2.keep hF fun w1 o1 e b hb => keep j w1 o1 hj (by rw [hq, e]) b hb
  · rcases cases_ j with ⟨_, w, o, o', a, h1, h2, h3, h4, h5⟩ | ⟨hj, h1, h2⟩
    · rw [h2] at hq; cases hq
      obtain ⟨f1, f2⟩ := h5 b hb
      refine ⟨f2, ?_⟩
      rcases f1 with f1 | f1
      · exact (r.fz j _ o h1 b f1).2
      · exact .inl (r.free0' f1)
    · rw [h1] at hq
      rw [h2] at hb
      obtain ⟨f1, f2⟩ := r.fz j w1 o1 hq b hb
      obtain ⟨u, k1, k2⟩ := r.foot hq b hb
      exact ⟨hF0 b u k1 k2.nt f1, f2⟩
  · rcases cases_ j with ⟨pj, w, o, o', a, h1, h2, h3, h4, h5⟩ | ⟨hj, h1, h2⟩
    · rcases cases_ k with ⟨pk, w', p, p', a', m1, m2, m3, m4, m5⟩ | ⟨hk', m1, m2⟩
      · exact hdj j k pj pk hn b hb
      · rw [m2]
        rw [m1] at q2
        intro z
        rcases (h5 b hb).1 with f | f
        · exact r.dj j k w w2 o o2 hn h1 q2 b f z
        · obtain ⟨u, n1, n2⟩ := r.foot q2 b z
          exact strip_none f n1 n2.nt
    · rw [h1] at q1
      rw [h2] at hb
      rcases cases_ k with ⟨pk, w', p, p', a', m1, m2, m3, m4, m5⟩ | ⟨hk', m1, m2⟩
      · intro z
        rcases (m5 b z).1 with f | f
        · exact r.dj j k w1 w' o1 p hn q1 m1 b hb f
        · obtain ⟨u, n1, n2⟩ := r.foot q1 b hb
          exact strip_none f n1 n2.nt
      · rw [m2]
        rw [m1] at q2
        exact r.dj j k w1 w2 o1 o2 hn q1 q2 b hb
  · obtain ⟨k1, o1, k2⟩ := r.rt j b hj
    refine ⟨k1, ?_⟩
    rcases cases_ j with ⟨pj, w, o, o', a, h1, h2, _⟩ | ⟨_, h1, _⟩
    · rw [k2] at h1; cases h1
      exact ⟨o', h2⟩
    · exact ⟨o1, by rw [h1]; exact k2⟩
  · have ns : strip H0 b ≠ none := fun z => strip_none z e n
    refine hk b u (g0.fr b u e n k) n (fun i hi z => ?_) fun z => ns (hT b z).1
    obtain ⟨w, o, _, _, h1, _⟩ := hin i hi
    obtain ⟨⟨x', q'⟩, f⟩ := g0.ob i w o h1
    rcases f b z with f | f
    · exact k i w x' (hL i hi) q' f
    · exact ns f
  · obtain ⟨u', e', n'⟩ := g0.dm b u e n
    exact hd b u' e' n'
  · have e1 := g0.fr b u e n fun i w x _ q => k i w x q
    exact hF0 b u e1 n (g0.nz b u e n z k)
  · rcases cases_ j with ⟨pj, w, o, o', a, h1, h2, _, _, h5⟩ | ⟨_, h1, h2⟩
    · rw [h2] at hq; cases hq
      obtain ⟨q2, f2⟩ := g0.ob j _ o h1
      refine ⟨q2, fun b hb => ?_⟩
      rcases (h5 b hb).1 with f | f
      · exact f2 b f
      · refine .inr ?_
        cases e : strip H0 b with
        | none => rfl
        | some u =>
          obtain ⟨e1, n1⟩ := strip_some e
          obtain ⟨u', e', n'⟩ := g0.dm b u e1 n1
          exact (strip_none f e' n').elim
    · rw [h1] at hq
      rw [h2]
      exact g0.ob j w1 x hq
end
def gps (φ : Nat → List Addr) : List RV → List (List Addr) → List (List Addr)
  | .bor p :: r, _ :: fps => φ p.i :: gps φ r fps
  | _ :: r, fp :: fps => fp :: gps φ r fps
  | _, _ => []
def φOf (φ : Nat → List Addr) : List RV → List (List Addr) → Nat → List Addr
  | .bor p :: r, fq :: fqs => fun j => if j = p.i then fq else φOf φ r fqs j
  | _ :: r, _ :: fqs => φOf φ r fqs
  | _, _ => φ
theorem dupFree_cons {x : Nat} {xs : List Nat} (h : dupFree (x :: xs) = true) : x ∉ xs ∧ dupFree xs = true := by
  unfold dupFree at h
  rw [Bool.and_eq_true] at h
  exact ⟨by simpa using h.1, h.2⟩
section
variable {K : PySem.W.Frag} {fx : Fx} {L : Nat → Prop} {Fz H F0 H0 F' H' : Hp} {σ : L2.St} {s s0 s' : S} {φ φ0 φ' : Nat → List Addr}
theorem gps_mem : ∀ {xs : List RV} {vs : List V} {fps : List (List Addr)} {gp : List Addr}, RvsOk K fx Fz σ H s φ xs vs fps → gp ∈ gps φ xs fps → (∃ p, RV.bor p ∈ xs ∧ p.i ∈ bors xs ∧ gp = φ p.i) ∨ gp ∈ fps
  | [], [], [], gp, _, h => by simp [gps] at h
  | r :: rs, v :: vs, fp :: fps, gp, h, hm => by
    have step : gp ∈ gps φ rs fps → (∃ p, RV.bor p ∈ r :: rs ∧ p.i ∈ bors (r :: rs) ∧ gp = φ p.i) ∨ gp ∈ fp :: fps := fun z => by
      rcases gps_mem h.2.1 z with ⟨p, h1, h2, h3⟩ | h1
      · refine .inl ⟨p, List.mem_cons_of_mem _ h1, ?_, h3⟩
        cases r <;> first | exact List.mem_cons_of_mem _ h2 | exact h2
      · exact .inr (List.mem_cons_of_mem _ h1)
    cases r with
    | bor p =>
      rcases List.mem_cons.mp hm with z | z
      · exact .inl ⟨p, List.mem_cons_self, List.mem_cons_self, z⟩
      · exact step z
    | d x =>
      rcases List.mem_cons.mp hm with z | z
      · exact .inr (by rw [z]; exact List.mem_cons_self)
      · exact step z
    | ob x =>
      rcases List.mem_cons.mp hm with z | z
      · exact .inr (by rw [z]; exact List.mem_cons_self)
      · exact step z
    | clo x y =>
      rcases List.mem_cons.mp hm with z | z
      · exact .inr (by rw [z]; exact List.mem_cons_self)
      · exact step z
  | [], _ :: _, _, _, h, _ => h.elim
  | [], [], _ :: _, _, h, _ => h.elim
  | _ :: _, [], _, _, h, _ => h.elim
  | _ :: _, _ :: _, [], _, h, _ => h.elim
theorem RvsOk.apart : ∀ {xs : List RV} {vs : List V} {fps : List (List Addr)} {fp : List Addr}, RvsOk K fx Fz σ H s φ xs vs fps → fp ∈ fps → ∀ b ∈ fp, (∃ u, H b = some u ∧ Mo u) ∧ Fz b = none ∧ fx.H0 b = none ∧ ∀ (i : Nat) w o, s[i]? = some (some (.ob w o)) → b ∉ φ i
  | [], [], [], _, _, h => by simp at h
  | r :: rs, v :: vs, fq :: fps, fp, h, hm => by
    rcases List.mem_cons.mp hm with rfl | z
    · intro b hb
      have h1 := h.1
      cases r with
      | d x => rw [h1.1] at hb; simp at hb
      | clo _ _ => rw [h1.1] at hb; simp at hb
      | bor _ => rw [h1.1] at hb; simp at hb
      | ob o =>
        obtain ⟨⟨a, _, k⟩, k2, k3⟩ := h1
        exact ⟨k.dom b hb, (k2 b hb).1, (k2 b hb).2, fun i w o q => k3 i w o q b hb⟩
    · exact RvsOk.apart h.2.1 z
  | [], _ :: _, _, _, h, _ => h.elim
  | [], [], _ :: _, _, h, _ => h.elim
  | _ :: _, [], _, _, h, _ => h.elim
  | _ :: _, _ :: _, [], _, h, _ => h.elim
theorem Rel.lent (r : Rel K fx Fz σ H s φ) {p : Pl} {o : Ob} {v : V} (hp : p.f = none) (ha : VL.atPl s p = some (.o o)) (hv : AtV σ H p v) : ∃ w a, s[p.i]? = some (some (.ob w o)) ∧ v = .ref a ∧ ObOk K Fz H o a (φ p.i) ∧ σ[p.i]? = some (some (.ref a)) := by
  obtain ⟨v', fp, h1, h2, h3, h4, h5⟩ := r.atPl ha
  obtain ⟨w, k1, k2⟩ := h5 o hp rfl
  obtain ⟨a, rfl, h6⟩ := h2
  have e := AtV.inj hv h1
  subst e
  rw [k2] at h6
  unfold AtV at h1
  rw [hp] at h1
  exact ⟨w, a, k1, rfl, h6, h1⟩
theorem lend_ok (r : Rel K fx Fz σ H s φ) : ∀ {xs : List RV} {vs : List V} {fps : List (List Addr)} {as : List AV}, RvsOk K fx Fz σ H s φ xs vs fps → (∀ p, RV.bor p ∈ xs → p.f = none) → dupFree (bors xs) = true → lend s xs = some as →
    AvsOk K Fz H as vs (gps φ xs fps) ∧ (∀ gp ∈ gps φ xs fps, ∀ b ∈ gp, Fz b = none) ∧ ∀ i ∈ bors xs, ∃ w o, s[i]? = some (some (.ob w o))
  | [], [], [], as, _, _, _, h => by cases h; exact ⟨True.intro, (fun _ z => by simp [gps] at z), fun _ z => by simp [bors] at z⟩
  | .bor p :: rs, v :: vs, fp :: fps, as, h, hp, hd, hl => by
    obtain ⟨hd1, hd2⟩ := dupFree_cons hd
    unfold lend at hl
    split at hl
    · next o ha =>
      rw [Option.map_eq_some_iff] at hl
      obtain ⟨bs, hl, rfl⟩ := hl
      obtain ⟨i1, i2, i3⟩ := lend_ok r h.2.1 (fun q hq => hp q (List.mem_cons_of_mem _ hq)) hd2 hl
      obtain ⟨w, a, k1, rfl, k3, k4⟩ := r.lent (hp p List.mem_cons_self) ha h.1.2
      refine ⟨⟨⟨a, rfl, k3⟩, i1, fun b hb fq hq z => ?_⟩, fun gp hg b hb => ?_, fun i hi => ?_⟩
      · rcases gps_mem h.2.1 hq with ⟨q, m1, m2, rfl⟩ | m1
        · obtain ⟨w', o', n1⟩ := i3 q.i m2
          exact r.dj p.i q.i w w' o o' (fun e => hd1 (e ▸ m2)) k1 n1 b hb z
        · exact (h.2.1.apart m1 b z).2.2.2 p.i w o k1 hb
      · rcases List.mem_cons.mp hg with rfl | hg
        · exact (r.fz p.i w o k1 b hb).1
        · exact i2 gp hg b hb
      · rcases List.mem_cons.mp hi with rfl | hi
        · exact ⟨w, o, k1⟩
        · exact i3 i hi
    · cases hl
  | .d x :: rs, v :: vs, fp :: fps, as, h, hp, hd, hl => by
    unfold lend at hl
    rw [Option.map_eq_some_iff] at hl
    obtain ⟨bs, hl, rfl⟩ := hl
    obtain ⟨i1, i2, i3⟩ := lend_ok r h.2.1 (fun q hq => hp q (List.mem_cons_of_mem _ hq)) hd hl
    have e := h.1.1
    subst e
    refine ⟨⟨⟨rfl, h.1.2⟩, i1, fun b hb => by simp at hb⟩, fun gp hg b hb => ?_, i3⟩
    rcases List.mem_cons.mp hg with rfl | hg
    · simp at hb
    · exact i2 gp hg b hb
  | .clo n c :: rs, v :: vs, fp :: fps, as, h, hp, hd, hl => by
    unfold lend at hl
    rw [Option.map_eq_some_iff] at hl
    obtain ⟨bs, hl, rfl⟩ := hl
    obtain ⟨i1, i2, i3⟩ := lend_ok r h.2.1 (fun q hq => hp q (List.mem_cons_of_mem _ hq)) hd hl
    have e := h.1.1
    subst e
    refine ⟨⟨⟨rfl, h.1.2⟩, i1, fun b hb => by simp at hb⟩, fun gp hg b hb => ?_, i3⟩
    rcases List.mem_cons.mp hg with rfl | hg
    · simp at hb
    · exact i2 gp hg b hb
  | .ob o :: rs, v :: vs, fp :: fps, as, h, hp, hd, hl => by
    unfold lend at hl
    rw [Option.map_eq_some_iff] at hl
    obtain ⟨bs, hl, rfl⟩ := hl
    obtain ⟨i1, i2, i3⟩ := lend_ok r h.2.1 (fun q hq => hp q (List.mem_cons_of_mem _ hq)) hd hl
    obtain ⟨⟨a, rfl, k⟩, k2, k3⟩ := h.1
    refine ⟨⟨⟨a, rfl, k⟩, i1, fun b hb fq hq z => ?_⟩, fun gp hg b hb => ?_, i3⟩
    · rcases gps_mem h.2.1 hq with ⟨q, m1, m2, rfl⟩ | m1
      · obtain ⟨w', o', n1⟩ := i3 q.i m2
        exact k3 q.i w' o' n1 b hb z
      · exact h.2.2 b hb fq m1 z
    · rcases List.mem_cons.mp hg with rfl | hg
      · exact (k2 b hb).1
      · exact i2 gp hg b hb
  | [], _ :: _, _, _, h, _, _, _ => h.elim
  | [], [], _ :: _, _, h, _, _, _ => h.elim
  | _ :: _, [], _, _, h, _, _, _ => h.elim
  | _ :: _, _ :: _, [], _, h, _, _, _ => h.elim
structure Back (K : PySem.W.Frag) (H F' H' : Hp) (σ : L2.St) (s s' : S) (φ φ' : Nat → List Addr) (P : Nat → Prop) : Prop where
  len : s'.length = s.length
  out : ∀ i : Nat, ¬ P i → s'[i]? = s[i]? ∧ φ' i = φ i
  inn : ∀ i : Nat, P i → ∃ w o o' a, s[i]? = some (some (.ob w o)) ∧ s'[i]? = some (some (.ob w o')) ∧ σ[i]? = some (some (.ref a)) ∧ ObOk K F' H' o' a (φ' i) ∧ ∀ b ∈ φ' i, (b ∈ φ i ∨ strip H b = none) ∧ F' b = none
theorem back_ok (r : Rel K fx Fz σ H s φ) : ∀ {xs : List RV} {vs : List V} {fps : List (List Addr)} {as : List AV} {os : List Ob} {fqs : List (List Addr)} {s1 s' : S}, RvsOk K fx Fz σ H s φ xs vs fps → (∀ p, RV.bor p ∈ xs → p.f = none) → dupFree (bors xs) = true → lend s xs = some as →
    ObsOk K H F' H' as vs (gps φ xs fps) os fqs → back xs os s1 = some s' → s1.length = s.length → (∀ i ∈ bors xs, s1[i]? = s[i]?) →
    s'.length = s1.length ∧ (∀ i : Nat, i ∉ bors xs → s'[i]? = s1[i]? ∧ φOf φ xs fqs i = φ i) ∧ (∀ i : Nat, i ∈ bors xs → ∃ w o o' a, s[i]? = some (some (.ob w o)) ∧ s'[i]? = some (some (.ob w o')) ∧ σ[i]? = some (some (.ref a)) ∧ ObOk K F' H' o' a (φOf φ xs fqs i) ∧ φOf φ xs fqs i ∈ fqs ∧ ∀ b ∈ φOf φ xs fqs i, (b ∈ φ i ∨ strip H b = none) ∧ F' b = none) ∧
    ∀ i j, i ∈ bors xs → j ∈ bors xs → i ≠ j → ∀ b ∈ φOf φ xs fqs i, b ∉ φOf φ xs fqs j
  | [], [], [], as, os, fqs, s1, s', _, _, _, hl, ho, hb, _, _ => by
    cases hl
    cases os with
    | cons _ _ => cases fqs <;> exact ho.elim
    | nil =>
      cases hb
      refine ⟨rfl, fun i _ => ⟨rfl, ?_⟩, (fun i z => by simp [bors] at z), fun i j z => by simp [bors] at z⟩
      cases fqs <;> rfl
  | .bor p :: rs, v :: vs, fp :: fps, as, os, fqs, s1, s', h, hp, hd, hl, ho, hb, hlen, hs => by
    obtain ⟨hd1, hd2⟩ := dupFree_cons hd
    unfold lend at hl
    split at hl
    · next o ha =>
      rw [Option.map_eq_some_iff] at hl
      obtain ⟨bs, hl, rfl⟩ := hl
      cases os with
      | nil => cases fqs <;> exact ho.elim
      | cons o' os =>
        cases fqs with
        | nil => exact ho.elim
        | cons fq fqs =>
          obtain ⟨⟨a', e', k'⟩, hq, ho2, hdj⟩ := ho
          obtain ⟨w, a, k1, rfl, k3, k4⟩ := r.lent (hp p List.mem_cons_self) ha h.1.2
          have e' : a' = a := by injection e'.symm
          subst e'
          unfold back at hb
          rw [Option.bind_eq_some_iff] at hb
          obtain ⟨s2, hb1, hb2⟩ := hb
          have q1 : s1[p.i]? = some (some (.ob w o)) := (hs p.i List.mem_cons_self).trans k1
          have e2 : s2 = s1.set p.i (some (.ob w o')) := by
            unfold putPl at hb1
            rw [q1, hp p List.mem_cons_self] at hb1
            cases hb1; rfl
          have hlt : p.i < s1.length := (List.getElem?_eq_some_iff.mp q1).1
          obtain ⟨j1, j2, j3, j4⟩ := back_ok r h.2.1 (fun q hq => hp q (List.mem_cons_of_mem _ hq)) hd2 hl ho2 hb2 (by rw [e2]; simpa using hlen) (fun i hi => by
            rw [e2, List.getElem?_set_ne (fun z => hd1 (by rw [z]; exact hi))]
            exact hs i (List.mem_cons_of_mem _ hi))
          have self : φOf φ (.bor p :: rs) (fq :: fqs) p.i = fq := by simp [φOf]
          have oth : ∀ i, i ≠ p.i → φOf φ (.bor p :: rs) (fq :: fqs) i = φOf φ rs fqs i := fun i hi => by simp [φOf, hi]
          refine ⟨by rw [j1, e2]; simp, fun i hi => ?_, fun i hi => ?_, fun i j hi hj hn b hb => ?_⟩
          · have h1 : i ≠ p.i := fun z => hi (by rw [z]; exact List.mem_cons_self)
            have h2 : i ∉ bors rs := fun z => hi (List.mem_cons_of_mem _ z)
            obtain ⟨m1, m2⟩ := j2 i h2
            rw [oth i h1]
            exact ⟨by rw [m1, e2, List.getElem?_set_ne (fun z => h1 z.symm)], m2⟩
          · by_cases h1 : i = p.i
            · subst h1
              rw [self]
              refine ⟨w, o, o', _, k1, ?_, k4, k', List.mem_cons_self, hq⟩
              rw [(j2 p.i hd1).1, e2, List.getElem?_set_self hlt]
            · have h2 : i ∈ bors rs := by
                rcases List.mem_cons.mp hi with z | z
                · exact absurd z h1
                · exact z
              rw [oth i h1]
              obtain ⟨w1, o1, o2, a1, m1, m2, m3, m4, m5, m6⟩ := j3 i h2
              exact ⟨w1, o1, o2, a1, m1, m2, m3, m4, List.mem_cons_of_mem _ m5, m6⟩
          · by_cases h1 : i = p.i
            · subst h1
              have h3 : j ≠ p.i := fun z => hn z.symm
              have h2 : j ∈ bors rs := by
                rcases List.mem_cons.mp hj with z | z
                · exact absurd z h3
                · exact z
              rw [self] at hb
              rw [oth j h3]
              obtain ⟨_, _, _, _, _, _, _, _, m5, _⟩ := j3 j h2
              exact hdj b hb _ m5
            · have h2 : i ∈ bors rs := by
                rcases List.mem_cons.mp hi with z | z
                · exact absurd z h1
                · exact z
              rw [oth i h1] at hb
              by_cases h3 : j = p.i
              · subst h3
                rw [self]
                obtain ⟨_, _, _, _, _, _, _, _, m5, _⟩ := j3 i h2
                exact fun z => hdj b z _ m5 hb
              · rw [oth j h3]
                have h4 : j ∈ bors rs := by
                  rcases List.mem_cons.mp hj with z | z
                  · exact absurd z h3
                  · exact z
                exact j4 i j h2 h4 hn b hb
    · cases hl
  | .ob o :: rs, v :: vs, fp :: fps, as, os, fqs, s1, s', h, hp, hd, hl, ho, hb, hlen, hs => by
    unfold lend at hl
    rw [Option.map_eq_some_iff] at hl
    obtain ⟨bs, hl, rfl⟩ := hl
    cases os with
    | nil => cases fqs <;> exact ho.elim
    | cons o' os =>
      cases fqs with
      | nil => exact ho.elim
      | cons fq fqs =>
        obtain ⟨_, _, ho2, _⟩ := ho
        obtain ⟨j1, j2, j3, j4⟩ := back_ok r h.2.1 (fun q hq => hp q (List.mem_cons_of_mem _ hq)) hd hl ho2 hb hlen hs
        refine ⟨j1, j2, fun i hi => ?_, j4⟩
        obtain ⟨w1, o1, o2, a1, m1, m2, m3, m4, m5, m6⟩ := j3 i hi
        exact ⟨w1, o1, o2, a1, m1, m2, m3, m4, List.mem_cons_of_mem _ m5, m6⟩
  | .d x :: rs, v :: vs, fp :: fps, as, os, fqs, s1, s', h, hp, hd, hl, ho, hb, hlen, hs => by
    unfold lend at hl
    rw [Option.map_eq_some_iff] at hl
    obtain ⟨bs, hl, rfl⟩ := hl
    cases fqs with
    | nil => cases os <;> exact ho.elim
    | cons fq fqs =>
      have ho2 : ObsOk K H F' H' bs vs (gps φ rs fps) os fqs := by cases os <;> exact ho.2
      obtain ⟨j1, j2, j3, j4⟩ := back_ok r h.2.1 (fun q hq => hp q (List.mem_cons_of_mem _ hq)) hd hl ho2 hb hlen hs
      refine ⟨j1, j2, fun i hi => ?_, j4⟩
      obtain ⟨w1, o1, o2, a1, m1, m2, m3, m4, m5, m6⟩ := j3 i hi
      exact ⟨w1, o1, o2, a1, m1, m2, m3, m4, List.mem_cons_of_mem _ m5, m6⟩
  | .clo n c :: rs, v :: vs, fp :: fps, as, os, fqs, s1, s', h, hp, hd, hl, ho, hb, hlen, hs => by
    unfold lend at hl
    rw [Option.map_eq_some_iff] at hl
    obtain ⟨bs, hl, rfl⟩ := hl
    cases fqs with
    | nil => cases os <;> exact ho.elim
    | cons fq fqs =>
      have ho2 : ObsOk K H F' H' bs vs (gps φ rs fps) os fqs := by cases os <;> exact ho.2
      obtain ⟨j1, j2, j3, j4⟩ := back_ok r h.2.1 (fun q hq => hp q (List.mem_cons_of_mem _ hq)) hd hl ho2 hb hlen hs
      refine ⟨j1, j2, fun i hi => ?_, j4⟩
      obtain ⟨w1, o1, o2, a1, m1, m2, m3, m4, m5, m6⟩ := j3 i hi
      exact ⟨w1, o1, o2, a1, m1, m2, m3, m4, List.mem_cons_of_mem _ m5, m6⟩
  | [], _ :: _, _, _, _, _, _, _, h, _, _, _, _, _, _, _ => h.elim
  | [], [], _ :: _, _, _, _, _, _, h, _, _, _, _, _, _, _ => h.elim
  | _ :: _, [], _, _, _, _, _, _, h, _, _, _, _, _, _, _ => h.elim
  | _ :: _, _ :: _, [], _, _, _, _, _, h, _, _, _, _, _, _, _ => h.elim
theorem Rel.after (r : Rel K fx Fz σ H s φ) (g0 : Go L F0 H0 s0 φ0 Fz H s φ) {xs : List RV} {vs : List V} {fps : List (List Addr)} {as : List AV} {os : List Ob} {fqs : List (List Addr)} {s' : S} (h : RvsOk K fx Fz σ H s φ xs vs fps) (hf : ∀ fp ∈ fps, ∀ b ∈ fp, strip H0 b = none) (hp : ∀ p, RV.bor p ∈ xs → p.f = none) (hd : dupFree (bors xs) = true) (hl : lend s xs = some as) (hL : ∀ i ∈ bors xs, L i)
    (af : After (gps φ xs fps) Fz H F' H') (ho : ObsOk K H F' H' as vs (gps φ xs fps) os fqs) (hb : back xs os s = some s') : Rel K fx F' σ H' s' (φOf φ xs fqs) ∧ Go L F0 H0 s0 φ0 F' H' s' (φOf φ xs fqs) := by
  obtain ⟨j1, j2, j3, j4⟩ := back_ok r h hp hd hl ho hb rfl (fun _ _ => rfl)
  refine r.many g0 (fun i => i ∈ bors xs) (fun b => ∃ fp ∈ fps, b ∈ fp) j1 j2 (fun i hi => ?_) (fun i j hi hj => j4 i j hi hj) (fun b ⟨fp, h1, h2⟩ => ?_) af.f af.sub (fun b u e n k t => af.old b u e n fun gp hg z => ?_) af.dm af.nf af.hF af.tb hL
  · obtain ⟨w1, o1, o2, a1, m1, m2, m3, m4, m5, m6⟩ := j3 i hi
    exact ⟨w1, o1, o2, a1, m1, m2, m3, m4, m6⟩
  · obtain ⟨_, _, k3, k4⟩ := h.apart h1 b h2
    exact ⟨hf fp h1 b h2, k3, k4⟩
  · rcases gps_mem h hg with ⟨p, m1, m2, rfl⟩ | m1
    · exact k p.i m2 z
    · exact t ⟨gp, m1, z⟩
end
end VL
set_option maxHeartbeats 2000000
namespace VL
open PySem PySem.Spec PyProof.Rows L2
variable [Tabl]
def lent : IE → List Nat
  | .nil => [] | .cons a b => lent a ++ lent b
  | .var _ => [] | .fld _ => [] | .bor i => [i]
  | .cst _ => [] | .glb _ _ => []
  | .tup l => lent l | .lst l => lent l
  | .op _ a b => lent a ++ lent b | .neg a => lent a
  | .opB _ _ b => lent b
  | .cmp _ a b => lent a ++ lent b | .cmpL _ _ b => lent b | .cmpR _ a _ => lent a
  | .chain _ _ a b c => lent a ++ lent b ++ lent c
  | .not a => lent a | .and a b => lent a ++ lent b | .or a b => lent a ++ lent b
  | .ife t a b => lent t ++ lent a ++ lent b
  | .call _ l => lent l | .new _ _ l => lent l
  | .meth _ _ i l => i :: lent l | .methT _ _ a l => lent a ++ lent l | .methF _ _ p _ => [p.i]
  | .callC _ l => lent l
  | .blt _ l => lent l | .bltB _ _ => []
  | .isi a _ => lent a
  | .ix a b => lent a ++ lent b | .ixB _ b => lent b
  | .slc _ _ a lo hi => lent a ++ lent lo ++ lent hi | .slcB _ _ _ lo hi => lent lo ++ lent hi
  | .lc _ _ _ _ l c e => lent l ++ lent c ++ lent e
  | .told _ a => lent a
section
variable {cf : CF}
theorem bindM_ok {α β : Type} {m : M α} {f : α → M β} {s s' : S} {b : β} (h : bindM m f s = .ok b s') : ∃ a s1, m s = .ok a s1 ∧ f a s1 = .ok b s' := by
  unfold bindM R.bind at h
  cases e : m s with
  | ok a s1 => rw [e] at h; exact ⟨a, s1, rfl, h⟩
  | exc c s1 => rw [e] at h; cases h
  | stuck => rw [e] at h; cases h
theorem optM_ok {α : Type} {o : Option α} {s s' : S} {a : α} (h : optM o s = .ok a s') : o = some a ∧ s' = s := by
  unfold optM at h
  cases o with
  | none => cases h
  | some b => cases h; exact ⟨rfl, rfl⟩
theorem one_ok {l : List RV} {s s' : S} {r : RV} (h : one l s = .ok r s') : l = [r] ∧ s' = s := by
  unfold one at h
  split at h
  · cases h; exact ⟨rfl, rfl⟩
  · cases h
def noBor (xs : List RV) : Prop := ∀ p, RV.bor p ∉ xs
theorem noBor_d {d : D} : noBor [.d d] := fun p h => by simp at h
theorem noBor_o {o : Ob} : noBor [.ob o] := fun p h => by simp at h
theorem bop_nb {o : Bop} {x y r : RV} (h : bop o x y = some r) : noBor [r] := by
  unfold bop at h
  split at h <;> (try split at h) <;> first | (cases h; first | exact noBor_d | exact noBor_o) | cases h
theorem blt_nb {o : Blt} {ds : List D} {r : RV} (h : blt o ds = some r) : noBor [r] := by
  unfold blt at h
  split at h <;> (try split at h) <;> first | (cases h; first | exact noBor_d | exact noBor_o) | (simp only [Option.map_eq_some_iff] at h; obtain ⟨_, _, rfl⟩ := h; exact noBor_d) | cases h
theorem slc_nb {d : D} {lo hi : Option Int} {r : RV} (h : slcD d lo hi = some r) : noBor [r] := by
  unfold slcD at h
  split at h <;> first | (cases h; first | exact noBor_d | exact noBor_o) | cases h
theorem fromRC_nb {xs ys : List RV} {r : RC} {s s' : S} (h : fromRC xs r s = .ok ys s') : noBor ys := by
  unfold fromRC at h
  split at h
  · split at h
    · cases h; exact noBor_d
    · cases h
  · split at h <;> cases h
  · cases h
theorem callM_nb {f : Nat} {xs ys : List RV} {s s' : S} (h : callM cf f xs s = .ok ys s') : noBor ys := by
  unfold callM at h
  split at h
  · split at h
    · exact fromRC_nb h
    · cases h
  · cases h
theorem newM_nb {c f : Nat} {xs ys : List RV} {s s' : S} (h : newM cf c f xs s = .ok ys s') : noBor ys := by
  unfold newM at h
  split at h
  · split at h
    · split at h
      · split at h
        · cases h; exact noBor_o
        · cases h
      · split at h <;> cases h
      · cases h
    · cases h
  · cases h
theorem take_nb {i : Nat} {s s' : S} {r : RV} (h : take i s = .ok r s') : noBor [r] := by
  unfold take at h
  split at h <;> first | (cases h; first | exact noBor_d | exact fun p z => by simp at z) | cases h
theorem fldM_nb {p : Pl} {s s' : S} {r : RV} (h : fldM p s = .ok r s') : noBor [r] := by
  unfold fldM at h
  split at h
  · cases h
  · split at h <;> first | (cases h; first | exact noBor_d | exact fun p z => by simp at z) | cases h
theorem ev_bor : ∀ (a : IE) {s s' : S} {xs : List RV}, ev cf a s = .ok xs s' → ∀ p, RV.bor p ∈ xs → p.f = none ∧ p.i ∈ lent a
  | .nil, s, s', xs, h, p, hp => by cases h; simp at hp
  | .cons a b, s, s', xs, h, p, hp => by
    have h : bindM (ev cf a) (fun x => bindM (one x) fun r => bindM (ev cf b) fun xs => pureM (r.arg :: xs)) s = .ok xs s' := h
    obtain ⟨x, s1, h1, h⟩ := bindM_ok h
    have h : bindM (one x) (fun r => bindM (ev cf b) fun xs => pureM (r.arg :: xs)) s1 = .ok xs s' := h
    obtain ⟨r, s2, h2, h⟩ := bindM_ok h
    obtain ⟨e1, e2⟩ := one_ok h2
    subst e1 e2
    have h : bindM (ev cf b) (fun xs => pureM (r.arg :: xs)) s2 = .ok xs s' := h
    obtain ⟨ys, s3, h3, h⟩ := bindM_ok h
    have h : R.ok (r.arg :: ys) s3 = .ok xs s' := h
    cases h
    rcases List.mem_cons.mp hp with z | z
    · have := ev_bor a h1 p (by rw [arg_bor z.symm]; simp)
      exact ⟨this.1, List.mem_append_left _ this.2⟩
    · have := ev_bor b h3 p z
      exact ⟨this.1, List.mem_append_right _ this.2⟩
  | .var i, s, s', xs, h, p, hp => by
    obtain ⟨r, s1, h1, h⟩ := bindM_ok h
    cases h
    exact absurd hp (take_nb h1 p)
  | .fld q, s, s', xs, h, p, hp => by
    obtain ⟨r, s1, h1, h⟩ := bindM_ok h
    cases h
    exact absurd hp (fldM_nb h1 p)
  | .bor i, s, s', xs, h, p, hp => by
    have h : borM i s = .ok xs s' := h
    unfold borM at h
    split at h
    · cases h
      simp at hp
      subst hp
      exact ⟨rfl, by simp [lent]⟩
    · cases h
  | .cst d, s, s', xs, h, p, hp => by cases h; simp at hp
  | .glb _ d, s, s', xs, h, p, hp => by cases h; simp at hp
  | .tup l, s, s', xs, h, p, hp => by
    obtain ⟨x, s1, h1, h⟩ := bindM_ok h
    obtain ⟨x, s1, h1, h⟩ := bindM_ok h
    obtain ⟨x, s1, h1, h⟩ := bindM_ok h
    cases h; simp at hp
  | .lst l, s, s', xs, h, p, hp => by
    obtain ⟨x, s1, h1, h⟩ := bindM_ok h
    obtain ⟨x, s1, h1, h⟩ := bindM_ok h
    obtain ⟨x, s1, h1, h⟩ := bindM_ok h
    cases h; simp at hp
  | .op o a b, s, s', xs, h, p, hp => by
    obtain ⟨x, s1, h1, h⟩ := bindM_ok h
    obtain ⟨x, s1, h1, h⟩ := bindM_ok h
    obtain ⟨x, s1, h1, h⟩ := bindM_ok h
    cases h
    exact absurd hp (bop_nb (optM_ok h1).1 p)
  | .neg a, s, s', xs, h, p, hp => by
    obtain ⟨x, s1, h1, h⟩ := bindM_ok h
    cases x <;> first | (cases h; simp at hp; done) | cases h
  | .opB o q b, s, s', xs, h, p, hp => by
    obtain ⟨x, s1, h1, h⟩ := bindM_ok h
    obtain ⟨x, s1, h1, h⟩ := bindM_ok h
    obtain ⟨x, s1, h1, h⟩ := bindM_ok h
    obtain ⟨x, s1, h1, h⟩ := bindM_ok h
    cases h
    exact absurd hp (bop_nb (optM_ok h1).1 p)
  | .cmp o a b, s, s', xs, h, p, hp => by
    obtain ⟨x, s1, h1, h⟩ := bindM_ok h
    obtain ⟨x, s1, h1, h⟩ := bindM_ok h
    obtain ⟨x, s1, h1, h⟩ := bindM_ok h
    cases h; simp at hp
  | .cmpL o q b, s, s', xs, h, p, hp => by
    obtain ⟨x, s1, h1, h⟩ := bindM_ok h
    obtain ⟨x, s1, h1, h⟩ := bindM_ok h
    obtain ⟨x, s1, h1, h⟩ := bindM_ok h
    obtain ⟨x, s1, h1, h⟩ := bindM_ok h
    cases h; simp at hp
  | .cmpR o a q, s, s', xs, h, p, hp => by
    obtain ⟨x, s1, h1, h⟩ := bindM_ok h
    obtain ⟨x, s1, h1, h⟩ := bindM_ok h
    obtain ⟨x, s1, h1, h⟩ := bindM_ok h
    cases h; simp at hp
  | .chain o o' a b c, s, s', xs, h, p, hp => by
    obtain ⟨x, s1, h1, h⟩ := bindM_ok h
    obtain ⟨x, s1, h1, h⟩ := bindM_ok h
    obtain ⟨x, s1, h1, h⟩ := bindM_ok h
    cases x with
    | true =>
      obtain ⟨x, s1, h1, h⟩ := bindM_ok h
      obtain ⟨x, s1, h1, h⟩ := bindM_ok h
      cases h; simp at hp
    | false => cases h; simp at hp
  | .not a, s, s', xs, h, p, hp => by
    obtain ⟨x, s1, h1, h⟩ := bindM_ok h
    cases h; simp at hp
  | .and a b, s, s', xs, h, p, hp => by
    obtain ⟨x, s1, h1, h⟩ := bindM_ok h
    cases x with
    | true =>
      have := ev_bor b h p hp
      exact ⟨this.1, List.mem_append_right _ this.2⟩
    | false => cases h; simp at hp
  | .or a b, s, s', xs, h, p, hp => by
    obtain ⟨x, s1, h1, h⟩ := bindM_ok h
    cases x with
    | true => cases h; simp at hp
    | false =>
      have := ev_bor b h p hp
      exact ⟨this.1, List.mem_append_right _ this.2⟩
  | .ife t a b, s, s', xs, h, p, hp => by
    obtain ⟨x, s1, h1, h⟩ := bindM_ok h
    cases x with
    | true =>
      have := ev_bor a h p hp
      exact ⟨this.1, List.mem_append_left _ (List.mem_append_right _ this.2)⟩
    | false =>
      have := ev_bor b h p hp
      exact ⟨this.1, List.mem_append_right _ this.2⟩
  | .call f l, s, s', xs, h, p, hp => by
    obtain ⟨x, s1, h1, h⟩ := bindM_ok h
    exact absurd hp (callM_nb h p)
  | .new c f l, s, s', xs, h, p, hp => by
    obtain ⟨x, s1, h1, h⟩ := bindM_ok h
    exact absurd hp (newM_nb h p)
  | .meth m ms i l, s, s', xs, h, p, hp => by
    obtain ⟨x, s1, h1, h⟩ := bindM_ok (m := optM (methAt m ms ⟨i, none⟩ s)) h
    obtain ⟨x, s1, h1, h⟩ := bindM_ok h
    exact absurd hp (callM_nb h p)
  | .methT m ms a l, s, s', xs, h, p, hp => by
    obtain ⟨x, s1, h1, h⟩ := bindM_ok h
    obtain ⟨x, s1, h1, h⟩ := bindM_ok h
    obtain ⟨x, s1, h1, h⟩ := bindM_ok h
    obtain ⟨x, s1, h1, h⟩ := bindM_ok h
    exact absurd hp (callM_nb h p)
  | .methF m ms q js, s, s', xs, h, p, hp => by
    obtain ⟨x, s1, h1, h⟩ := bindM_ok (m := optM (methAt m ms q s)) h
    obtain ⟨x, s1, h1, h⟩ := bindM_ok h
    exact absurd hp (callM_nb h p)
  | .callC q l, s, s', xs, h, p, hp => by
    obtain ⟨x, s1, h1, h⟩ := bindM_ok h
    obtain ⟨x, s1, h1, h⟩ := bindM_ok h
    exact absurd hp (callM_nb h p)
  | .blt b l, s, s', xs, h, p, hp => by
    obtain ⟨x, s1, h1, h⟩ := bindM_ok h
    obtain ⟨x, s1, h1, h⟩ := bindM_ok h
    obtain ⟨x, s1, h1, h⟩ := bindM_ok h
    cases h
    exact absurd hp (blt_nb (optM_ok h1).1 p)
  | .bltB b q, s, s', xs, h, p, hp => by
    obtain ⟨x, s1, h1, h⟩ := bindM_ok h
    obtain ⟨x, s1, h1, h⟩ := bindM_ok h
    cases h
    exact absurd hp (blt_nb (optM_ok h1).1 p)
  | .isi a t, s, s', xs, h, p, hp => by
    obtain ⟨x, s1, h1, h⟩ := bindM_ok h
    obtain ⟨x, s1, h1, h⟩ := bindM_ok h
    cases h; simp at hp
  | .ix a b, s, s', xs, h, p, hp => by
    obtain ⟨x, s1, h1, h⟩ := bindM_ok h
    obtain ⟨x, s1, h1, h⟩ := bindM_ok h
    obtain ⟨x, s1, h1, h⟩ := bindM_ok h
    cases h; simp at hp
  | .ixB q b, s, s', xs, h, p, hp => by
    obtain ⟨x, s1, h1, h⟩ := bindM_ok h
    obtain ⟨x, s1, h1, h⟩ := bindM_ok h
    obtain ⟨x, s1, h1, h⟩ := bindM_ok h
    obtain ⟨x, s1, h1, h⟩ := bindM_ok h
    cases h; simp at hp
  | .slc bl bh a lo hi, s, s', xs, h, p, hp => by
    obtain ⟨x, s1, h1, h⟩ := bindM_ok h
    obtain ⟨x, s1, h1, h⟩ := bindM_ok h
    obtain ⟨x, s1, h1, h⟩ := bindM_ok h
    obtain ⟨x, s1, h1, h⟩ := bindM_ok h
    cases h
    exact absurd hp (slc_nb (optM_ok h1).1 p)
  | .slcB bl bh q lo hi, s, s', xs, h, p, hp => by
    obtain ⟨x, s1, h1, h⟩ := bindM_ok h
    obtain ⟨x, s1, h1, h⟩ := bindM_ok h
    obtain ⟨x, s1, h1, h⟩ := bindM_ok h
    obtain ⟨x, s1, h1, h⟩ := bindM_ok h
    obtain ⟨x, s1, h1, h⟩ := bindM_ok h
    cases h
    exact absurd hp (slc_nb (optM_ok h1).1 p)
  | .lc fz vs tg k l c e, s, s', xs, h, p, hp => by
    obtain ⟨x, s1, h1, h⟩ := bindM_ok h
    obtain ⟨x, s1, h1, h⟩ := bindM_ok h
    cases h; simp at hp
  | .told ks a, s, s', xs, h, p, hp => by
    have h : toldEnd ks (one1 (ev cf a) s) = .ok xs s' := h
    unfold toldEnd at h
    split at h
    · cases h; simp at hp
    · split at h
      · cases h; simp at hp
      · cases h
    · cases h
end
theorem bors_mem : ∀ {xs : List RV} {i : Nat}, i ∈ bors xs → ∃ p, RV.bor p ∈ xs ∧ p.i = i
  | [], i, h => by simp [bors] at h
  | .bor p :: r, i, h => by
    rcases List.mem_cons.mp h with rfl | h
    · exact ⟨p, List.mem_cons_self, rfl⟩
    · obtain ⟨q, h1, h2⟩ := bors_mem h
      exact ⟨q, List.mem_cons_of_mem _ h1, h2⟩
  | .d _ :: r, i, h => by
    obtain ⟨q, h1, h2⟩ := bors_mem (xs := r) h
    exact ⟨q, List.mem_cons_of_mem _ h1, h2⟩
  | .ob _ :: r, i, h => by
    obtain ⟨q, h1, h2⟩ := bors_mem (xs := r) h
    exact ⟨q, List.mem_cons_of_mem _ h1, h2⟩
  | .clo _ _ :: r, i, h => by
    obtain ⟨q, h1, h2⟩ := bors_mem (xs := r) h
    exact ⟨q, List.mem_cons_of_mem _ h1, h2⟩
section
variable {X : Cx} {CX : CXT} {k : Nat} {f C : Addr} {fd : FuncData} {ps : List Str} {sp : Sp} {E : L2.St → XK} {x m : Str} {p pos apos : Pos} {e o : Expr} {es : List Expr} {t : TA} {ta : TE}
theorem pe_callS0 (F : FnOk X.prog X.w X.K X.mg X.base CX k f fd ps sp) (hr : Room k X.A) (hg : Gl X x) (hm : X.mg x = some (.ref f)) (hk : PySem.W.keepIn X.K (.ref f) = true) (hb : L2.Binds X.K fd ps []) (hx : ∀ σ, PassesAt CX X σ (E σ))
    (hdb : (x == ("__debug__" : Str)) = false) : PE X (.Call (.Name x p) [] [] pos) (fun σ H Q => sp [] H Q (E σ)) := by
  refine ⟨fun pins s σ H Q I h => ?_⟩
  refine wpAny_Call_Name_kw (ld_glob I hg hm ?_ hdb)
  exact PySem.W.callWith_K0 I.kIn hk (run_fnS (us := []) (vs := []) (E := E) F hr hb (hx σ) I .nil h)
def tMethD (X : Cx) (CX : CXT) (m : Str) (E : L2.St → XK) (ta : TE) (t : TA) : TE := fun σ H Q => ta σ H fun x H1 => ∃ a C dx fs f fd ps sp k, x = .ref a ∧ H1 a = some (.ins C dx fs) ∧ fs.lookup m = none ∧ Cls X.K C ∧ Meth X.K C m f ∧ FnOk X.prog X.w X.K X.mg X.base CX k f fd ps sp ∧ Room k X.A ∧ L2.Binds X.K fd ps [] ∧
  t σ H1 fun vs H2 => sp (x :: vs) H2 Q (E σ)
theorem pe_methD {pl : Sem Bool} (he : PE X o ta) (hx : ∀ σ, PassesAt CX X σ (E σ)) (ha : PA X (e :: es) t)
    (hst : starEach (e :: es) X.env = (false, eval e X.env) :: starEach es X.env) (hpl : (backTo pos (starEach es X.env)).any (·.1) = false)
    (ht : eval (.Call (.Attribute o m apos) (e :: es) [] pos) X.env = (do
      let ov ← eval o X.env
      standAt apos.atName
      let (f, first) ← holding [ov] (getMethod ov m pl)
      callWith pos f first (backTo pos (starEach (e :: es) X.env)) (backToKw pos (keywordEach [] X.env)))) :
    PE X (.Call (.Attribute o m apos) (e :: es) [] pos) (tMethD X CX m E ta t) := by
  refine ⟨fun pins s σ H Q I h => ?_⟩
  refine PySem.W.methodCall_KW (pl := pl) (thn (he.run pins s σ H _ I h) fun u s1 ⟨x, H1, I1, rx, a, C, dx, fs, f, fd, ps, sp, k, ex, ea, l, c, hm, F, hr, hb, q⟩ => ?_) ht
  subst ex
  obtain rfl : u = Value.ref a := rx
  refine getmeth_ok I1 ea c hm l ?_
  refine PySem.W.callWith_K (first := [.ref a]) (h₀ := X.base) I.ok.mod.kin hm.kp (thn (ha.run pos pins s1 σ H1 _ I1 q) fun us s2 ⟨vs, H2, I2, r, q2⟩ => ⟨I2.kIn, ?_⟩) hst hpl
  exact run_fnS (us := .ref a :: us) (vs := .ref a :: vs) (E := E) F hr hb (hx σ) I2 (.cons rfl r) q2
theorem pe_methD0 {pl : Sem Bool} (he : PE X o ta) (hx : ∀ σ, PassesAt CX X σ (E σ))
    (ht : eval (.Call (.Attribute o m apos) [] [] pos) X.env = (do
      let ov ← eval o X.env
      standAt apos.atName
      let (f, first) ← holding [ov] (getMethod ov m pl)
      callWith pos f first (backTo pos (starEach [] X.env)) (backToKw pos (keywordEach [] X.env)))) :
    PE X (.Call (.Attribute o m apos) [] [] pos) (tMethD X CX m E ta tNil) := by
  refine ⟨fun pins s σ H Q I h => ?_⟩
  refine PySem.W.methodCall_KW (pl := pl) (thn (he.run pins s σ H _ I h) fun u s1 ⟨x, H1, I1, rx, a, C, dx, fs, f, fd, ps, sp, k, ex, ea, l, c, hm, F, hr, hb, q⟩ => ?_) ht
  subst ex
  obtain rfl : u = Value.ref a := rx
  refine getmeth_ok I1 ea c hm l ?_
  exact PySem.W.callWith_K0 (first := [.ref a]) I1.kIn hm.kp (run_fnS (us := [.ref a]) (vs := [.ref a]) (E := E) F hr hb (hx σ) I1 (.cons rfl .nil) q)
def tMakeS (C : Addr) (sp : Sp) (E : L2.St → XK) (t : TA) : TE := fun σ H Q => t σ H fun vs H1 => ∀ x dx, H1 x = none → H1 dx = none → dx ≠ x →
  sp (.ref x :: vs) (upd (upd H1 dx (.own x)) x (.ins C dx [])) (fun v H2 => v = .non ∧ Q (.ref x) H2) (E σ)
theorem run_makeS {pins : List (Addr × Obj)} {σ : L2.St} {H : Hp} {s : Shared} {Q : VK} {us : List Value} {vs : List V} (M : Mk X.K C f) (F : FnOk X.prog X.w X.K X.mg X.base CX k f fd ps sp) (hr : Room (k + 1) X.A) (hb : L2.Binds X.K fd ps [])
    (hx : PassesAt CX X σ (E σ)) (I : Inv X pins σ H s) (r : Vals vs us)
    (h : ∀ x dx, H x = none → H dx = none → dx ≠ x → sp (.ref x :: vs) (upd (upd H dx (.own x)) x (.ins C dx [])) (fun v H2 => v = .non ∧ Q (.ref x) H2) (E σ)) :
    wpAny (model X.prog X.w) X.A (PySem.call (.ref C) us) (EP X pins σ Q) X.xe s := by
  have hq := h (s.heap.objs.size + 1) s.heap.objs.size (I.hok.fresh (Nat.le_succ _)) (I.hok.fresh (Nat.le_refl _)) (Nat.ne_of_lt (Nat.lt_succ_self _))
  have I2 := Inv.made (C := C) I
  have r2 : Vals (V.ref (s.heap.objs.size + 1) :: vs) (Value.ref (s.heap.objs.size + 1) :: us) := .cons rfl r
  have hl : ((Value.ref (s.heap.objs.size + 1) :: us) ++ []).length = ps.length := by
    have e := r2.length
    rw [F.len _ _ _ _ hq] at e
    simpa using e.symm
  have hb' := hb { s with heap := _ } (Value.ref (s.heap.objs.size + 1) :: us) I2.kIn hl
  rw [List.append_nil] at hb'
  refine wpAny_call (make_map (f := f) I.kIn M.makes M.init (beq_iff_eq.mp M.fn) (codeAny_mono (F.run _ X.stack _ _ ⟨Value.ref (s.heap.objs.size + 1) :: us, []⟩ (Value.ref (s.heap.objs.size + 1) :: us) _ _ (E σ) (hr.make C us [])
    (I2.env0.make C us []) hb' r2 hq) fun r s' hq' => ?_))
  cases r with
  | error e => exact hx pins _ _ e s' I2 hq'
  | ok fl =>
    cases fl with
    | ret u =>
      obtain ⟨v, H', I3, rv, ev, q3⟩ := I2.after hq'
      subst ev
      exact ⟨rv, ⟨V.ref (s.heap.objs.size + 1), H', I3, rfl, q3⟩⟩
    | next => exact False.elim hq'
    | brk => exact False.elim hq'
    | cont => exact False.elim hq'
theorem pe_makeS (M : Mk X.K C f) (F : FnOk X.prog X.w X.K X.mg X.base CX k f fd ps sp) (hr : Room (k + 1) X.A) (hg : Gl X x) (hm : X.mg x = some (.ref C)) (hb : L2.Binds X.K fd ps []) (hx : ∀ σ, PassesAt CX X σ (E σ))
    (ha : PA X (e :: es) t) (hdb : (x == ("__debug__" : Str)) = false) (he : starEach (e :: es) X.env = (false, eval e X.env) :: starEach es X.env) (hpl : (backTo pos (starEach es X.env)).any (·.1) = false) :
    PE X (.Call (.Name x p) (e :: es) [] pos) (tMakeS C sp E t) := by
  refine ⟨fun pins s σ H Q I h => ?_⟩
  refine wpAny_Call_Name_kw (ld_glob I hg hm ?_ hdb)
  refine PySem.W.callWith_K (h₀ := X.base) I.ok.mod.kin M.kp (thn (ha.run pos pins s σ H _ I h) fun us s1 ⟨vs, H1, I1, r, q⟩ => ⟨I1.kIn, ?_⟩) he hpl
  exact run_makeS M F hr hb (hx σ) I1 r q
theorem pe_makeS0 (M : Mk X.K C f) (F : FnOk X.prog X.w X.K X.mg X.base CX k f fd ps sp) (hr : Room (k + 1) X.A) (hg : Gl X x) (hm : X.mg x = some (.ref C)) (hb : L2.Binds X.K fd ps []) (hx : ∀ σ, PassesAt CX X σ (E σ))
    (hdb : (x == ("__debug__" : Str)) = false) : PE X (.Call (.Name x p) [] [] pos) (tMakeS C sp E tNil) := by
  refine ⟨fun pins s σ H Q I h => ?_⟩
  refine wpAny_Call_Name_kw (ld_glob I hg hm ?_ hdb)
  exact PySem.W.callWith_K0 I.kIn M.kp (run_makeS (us := []) (vs := []) (E := E) M F hr hb (hx σ) I .nil h)
end
section
variable {X : Cx} {W : WX} {L : Nat → Prop} {cf : CF} {fx : Fx} {Fz H F0 H0 : Hp} {σ : L2.St} {s s0 : S} {φ φ0 : Nat → List Addr}
theorem call_ok {n : Nat} {xs : List RV} {vs : List V} {fps : List (List Addr)} {Q : VK} (rl : Rel X.K fx Fz σ H s φ) (g0 : Go L F0 H0 s0 φ0 Fz H s φ) (h : RvsOk X.K fx Fz σ H s φ xs vs fps) (hf : ∀ fp ∈ fps, ∀ b ∈ fp, strip H0 b = none) (hp : ∀ p, RV.bor p ∈ xs → p.f = none) (hL : ∀ i ∈ bors xs, L i)
    (q : Post X.K X.mg W L fx F0 H0 s0 φ0 σ (callM cf n xs s) Q) : spD X.K X.mg (cf n) vs H Q (WE W σ) := by
  unfold callM at q
  cases hd : dupFree (bors xs) with
  | false => rw [hd] at q; exact q.elim
  | true =>
    rw [hd] at q
    cases hl : lend s xs with
    | none => rw [hl] at q; exact q.elim
    | some as =>
      rw [hl] at q
      obtain ⟨i1, i2, i3⟩ := lend_ok rl h hp hd hl
      refine ⟨Fz, as, gps φ xs fps, ⟨rl.sub, rl.tt.hF, rl.tt.tb⟩, i1, i2, ?_⟩
      have q : Post X.K X.mg W L fx F0 H0 s0 φ0 σ (fromRC xs (cf n as) s) Q := q
      unfold fromRC at q
      cases e1 : cf n as with
      | ok d os =>
        rw [e1] at q
        dsimp only at q
        cases hb : back xs os s with
        | none => rw [hb] at q; exact q.elim
        | some s' =>
          rw [hb] at q
          intro v H' F' fqs af ho rv
          obtain ⟨rl', g'⟩ := rl.after g0 h hf hp hd hl hL af ho hb
          exact q v [] H' F' _ g' rl' ⟨rfl, rv⟩ (fun _ z => nomatch z)
      | exc c os =>
        rw [e1] at q
        dsimp only at q
        cases hb : back xs os s with
        | none => rw [hb] at q; exact q.elim
        | some s' =>
          rw [hb] at q
          intro C H' F' fqs hm af ho
          obtain ⟨rl', g'⟩ := rl.after g0 h hf hp hd hl hL af ho hb
          exact q C H' F' _ hm g' rl'
      | stuck => rw [e1] at q; exact q.elim
theorem Rel.ext {H' : Hp} (r : Rel X.K fx Fz σ H s φ) (e2 : Same H H') : Rel X.K fx Fz σ H' s φ ∧ Go L Fz H s φ Fz H' s φ := by
  refine ⟨⟨r.sub.trans e2, fun b u q => ?_, fun b u q n => e2 _ _ (r.old b u q n), r.f0, r.nf, fun i x q => ?_, r.fz, r.dj, r.rt, r.len, r.tt.same e2⟩, ⟨Same.refl _, fun b u q _ _ => e2 _ _ q, fun b u q n => ⟨u, e2 _ _ q, n⟩, fun b u q _ n _ => n, fun i w x q => ⟨⟨x, q⟩, fun b hb => .inl hb⟩⟩⟩
  · obtain ⟨u', q', n'⟩ := r.dom b u q
    exact ⟨u', e2 _ _ q', n'⟩
  · obtain ⟨v, g1, g2⟩ := r.sl i x q
    exact ⟨v, g1, g2.same (Same.refl _) e2⟩
theorem RvsOk.go {Fz1 H1 : Hp} {s1 : S} {φ1 : Nat → List Addr} (g : Go L Fz H s φ Fz1 H1 s1 φ1) (r1 : Rel X.K fx Fz1 σ H1 s1 φ1) : ∀ {xs : List RV} {vs : List V} {fps : List (List Addr)}, (∀ p, RV.bor p ∈ xs → p.f = none) → RvsOk X.K fx Fz σ H s φ xs vs fps → RvsOk X.K fx Fz1 σ H1 s1 φ1 xs vs fps
  | [], [], [], _, _ => True.intro
  | r :: rs, v :: vs, fp :: fps, hp, h => ⟨RvOk.go g r1 (fun p e => hp p (by rw [e]; exact List.mem_cons_self)) h.1, RvsOk.go g r1 (fun p hp' => hp p (List.mem_cons_of_mem _ hp')) h.2.1, h.2.2⟩
  | [], _ :: _, _, _, h => h.elim
  | [], [], _ :: _, _, h => h.elim
  | _ :: _, [], _, _, h => h.elim
  | _ :: _, _ :: _, [], _, h => h.elim
theorem new_ok {c n : Nat} {xs : List RV} {vs : List V} {fps : List (List Addr)} {Q : VK} {x dx : Addr} (rl : Rel X.K fx Fz σ H s φ) (g0 : Go L F0 H0 s0 φ0 Fz H s φ) (h : RvsOk X.K fx Fz σ H s φ xs vs fps) (hf : ∀ fp ∈ fps, ∀ b ∈ fp, strip H0 b = none) (hp : ∀ p, RV.bor p ∈ xs → p.f = none) (hL : ∀ i ∈ bors xs, L i)
    (hx : H x = none) (hdx : H dx = none) (hne : dx ≠ x) (q : Post X.K X.mg W L fx F0 H0 s0 φ0 σ (newM cf c n xs s) Q) :
    spD X.K X.mg (cf n) (.ref x :: vs) (upd (upd H dx (.own x)) x (.ins (Tabl.C c) dx [])) (fun v H2 => v = .non ∧ Q (.ref x) H2) (WE W σ) := by
  have hx1 : upd H dx (.own x) x = none := by rw [upd_ne (Ne.symm hne)]; exact hx
  have eS : Same H (upd (upd H dx (.own x)) x (.ins (Tabl.C c) dx [])) := (same_upd hdx).trans (same_upd hx1)
  obtain ⟨rl2, gx⟩ := rl.ext (L := L) eS
  have g2 := g0.trans gx
  have h2 := RvsOk.go gx rl2 hp h
  have x0 : strip H0 x = none := by
    cases e : strip H0 x with
    | none => rfl
    | some o =>
      obtain ⟨e1, e2⟩ := strip_some e
      obtain ⟨u, e3, _⟩ := g0.dm x o e1 e2
      rw [hx] at e3; cases e3
  have hob : RvOk X.K fx Fz σ (upd (upd H dx (.own x)) x (.ins (Tabl.C c) dx [])) s φ (.ob (.ins c .nil)) (.ref x) [x] := by
    refine ⟨⟨x, rfl, dx, [], [], upd_same, rfl, by simp, rfl, rfl⟩, fun b hb => ?_, fun i w o q b hb z => ?_⟩
    · simp at hb; subst hb
      exact ⟨rl.free hx, rl.free0 hx⟩
    · simp at hb; subst hb
      obtain ⟨u, e, _⟩ := rl.foot q b z
      rw [hx] at e; cases e
  have h3 : RvsOk X.K fx Fz σ (upd (upd H dx (.own x)) x (.ins (Tabl.C c) dx [])) s φ (.ob (.ins c .nil) :: xs) (.ref x :: vs) ([x] :: fps) := by
    refine ⟨hob, h2, fun b hb fq hq z => ?_⟩
    simp at hb; subst hb
    obtain ⟨⟨u, e, _⟩, _⟩ := h.apart hq b z
    rw [hx] at e; cases e
  have hf3 : ∀ fp ∈ [x] :: fps, ∀ b ∈ fp, strip H0 b = none := fun fp hfp b hb => by
    rcases List.mem_cons.mp hfp with rfl | hfp
    · simp at hb; subst hb; exact x0
    · exact hf fp hfp b hb
  have hp3 : ∀ p, RV.bor p ∈ RV.ob (.ins c .nil) :: xs → p.f = none := fun p hp' => by
    rcases List.mem_cons.mp hp' with z | z
    · cases z
    · exact hp p z
  unfold newM at q
  cases hd : dupFree (bors xs) with
  | false => rw [hd] at q; exact q.elim
  | true =>
    rw [hd] at q
    cases hl : lend s xs with
    | none => rw [hl] at q; exact q.elim
    | some as =>
      rw [hl] at q
      have hl3 : lend s (RV.ob (.ins c .nil) :: xs) = some (.o (.ins c .nil) :: as) := by unfold lend; rw [hl]; rfl
      obtain ⟨i1, i2, i3⟩ := lend_ok rl2 h3 hp3 hd hl3
      refine ⟨Fz, _, gps φ (RV.ob (.ins c .nil) :: xs) ([x] :: fps), ⟨rl2.sub, rl2.tt.hF, rl2.tt.tb⟩, i1, i2, ?_⟩
      dsimp only at q
      cases e1 : cf n (.o (.ins c .nil) :: as) with
      | ok d os =>
        rw [e1] at q
        cases os with
        | nil => cases d <;> exact q.elim
        | cons o os =>
          cases d with
          | none =>
            dsimp only at q
            cases hb : back xs os s with
            | none => rw [hb] at q; exact q.elim
            | some s' =>
              rw [hb] at q
              intro v H' F' fqs af ho rv
              have hb3 : back (RV.ob (.ins c .nil) :: xs) (o :: os) s = some s' := hb
              obtain ⟨rl', g'⟩ := rl2.after g2 h3 hf3 hp3 hd hl3 hL af ho hb3
              refine ⟨by cases rv; rfl, ?_⟩
              cases fqs with
              | nil => exact ho.elim
              | cons fq fqs =>
                obtain ⟨j1, j2, j3, j4⟩ := back_ok rl2 h3 hp3 hd hl3 ho hb3 rfl (fun _ _ => rfl)
                obtain ⟨⟨a, ea, ko⟩, k2, k3, k4⟩ := ho
                have ea : x = a := by injection ea
                subst ea
                refine q (.ref x) fq H' F' _ g' rl' ⟨⟨x, rfl, ko⟩, fun b hb => ?_, fun i w o1 hq b hbq z => ?_⟩ fun b hb => ?_
                · obtain ⟨m1, m2⟩ := k2 b hb
                  refine ⟨m2, ?_⟩
                  rcases m1 with m1 | m1
                  · simp at m1; subst m1; exact rl.free0 hx
                  · exact rl2.free0' m1
                · by_cases hi : i ∈ bors xs
                  · obtain ⟨_, _, _, _, _, _, _, _, m5, _⟩ := j3 i hi
                    have e5 : φOf φ (RV.ob (.ins c .nil) :: xs) (fq :: fqs) i = φOf φ xs fqs i := rfl
                    rw [e5] at z m5
                    obtain ⟨l1, l2, l3, l4⟩ := back_ok rl2 h2 hp hd hl k3 hb rfl (fun _ _ => rfl)
                    obtain ⟨_, _, _, _, _, _, _, _, n5, _⟩ := l3 i hi
                    exact k4 b hbq _ n5 z
                  · obtain ⟨m1, m2⟩ := j2 i hi
                    rw [m2] at z
                    rw [m1] at hq
                    obtain ⟨u, e, mo⟩ := rl2.foot hq b z
                    rcases (k2 b hbq).1 with n1 | n1
                    · simp at n1; subst n1
                      exact hob.2.2 i w o1 hq b (by simp) z
                    · exact strip_none n1 e mo.nt
                · rcases (k2 b hb).1 with m1 | m1
                  · simp at m1; subst m1; exact x0
                  · exact free_back (fp := [b]) g2 (fun c hc => by simp at hc; subst hc; exact m1) b (by simp)
          | _ => exact q.elim
      | exc c' os =>
        rw [e1] at q
        cases os with
        | nil => exact q.elim
        | cons o os =>
          dsimp only at q
          cases hb : back xs os s with
          | none => rw [hb] at q; exact q.elim
          | some s' =>
            rw [hb] at q
            intro C H' F' fqs hm af ho
            have hb3 : back (RV.ob (.ins c .nil) :: xs) (o :: os) s = some s' := hb
            obtain ⟨rl', g'⟩ := rl2.after g2 h3 hf3 hp3 hd hl3 hL af ho hb3
            exact q C H' F' _ hm g' rl'
      | stuck => rw [e1] at q; exact q.elim
end
end VL
set_option maxHeartbeats 2000000
namespace VL
open PySem PySem.Spec PyProof.Rows L2
variable [Tabl]
section
variable {X : Cx} {W : WX} {L : Nat → Prop} {cf : CF} {e a b c o : Expr} {pos p apos : Pos} {ia ib ic : IE} {k : Nat} {f : Addr} {fd : FuncData} {ps : List Str} {x m : Str} {es : List Expr} {ms : List (Nat × Nat)}
theorem bors_L {l : IE} {s s' : S} {xs : List RV} (hL : ∀ i ∈ lent l, L i) (h : ev cf l s = .ok xs s') : ∀ i ∈ bors xs, L i := fun i hi => by
  obtain ⟨p, h1, h2⟩ := bors_mem hi
  rw [← h2]
  exact hL _ (ev_bor l h p h1).2
theorem Post.args {fx : Fx} {Fz H F0 H0 : Hp} {σ : L2.St} {s s0 : S} {φ φ0 : Nat → List Addr} {Q : VK} {g : List RV → M (List RV)} (rl : Rel X.K fx Fz σ H s φ) (g0 : Go L F0 H0 s0 φ0 Fz H s φ) (hL : ∀ i ∈ lent ia, L i) (q : Post X.K X.mg W L fx F0 H0 s0 φ0 σ (bindM (ev cf ia) g s) Q) {Rr : List V → Hp → Prop}
    (h : ∀ Fz1 H1 s1 φ1 xs vs fps, Rel X.K fx Fz1 σ H1 s1 φ1 → Go L Fz H s φ Fz1 H1 s1 φ1 → Go L F0 H0 s0 φ0 Fz1 H1 s1 φ1 → RvsOk X.K fx Fz1 σ H1 s1 φ1 xs vs fps → (∀ fp ∈ fps, ∀ b ∈ fp, strip H b = none) → (∀ p, RV.bor p ∈ xs → p.f = none) → (∀ i ∈ bors xs, L i) → Post X.K X.mg W L fx F0 H0 s0 φ0 σ (g xs s1) Q → Rr vs H1) :
    tA X.K X.mg W L (ev cf ia) σ H Rr := by
  refine ⟨fx, Fz, s, φ, rl, ?_⟩
  unfold bindM VL.R.bind at q
  cases e1 : ev cf ia s with
  | ok rs s1 =>
    rw [e1] at q
    intro vs fps H1 F1 φ1 g1 rl1 rvs hf hb hl
    exact h F1 H1 s1 φ1 rs vs fps rl1 g1 (g0.trans g1) rvs hf hb (bors_L hL e1) q
  | exc c s1 => rw [e1] at q; exact PostX.mono g0 q
  | stuck => rw [e1] at q; exact q.elim
theorem px_call {n : Nat} (F : FnOk X.prog X.w X.K X.mg X.base (L2N.CX X.prog X.w) k f fd ps (spD X.K X.mg (cf n))) (hr : Room k X.A) (hg : Gl X x) (hm : X.mg x = some (.ref f)) (hk : PySem.W.keepIn X.K (.ref f) = true) (hb : L2.Binds X.K fd ps []) (tk : ∀ σ, PassesAt (L2N.CX X.prog X.w) X σ (WE W σ))
    (hL : ∀ i ∈ lent ia, L i) (ha : PXA X W L (e :: es) (ev cf ia)) (hdb : (x == ("__debug__" : Str)) = false) (he : starEach (e :: es) X.env = (false, eval e X.env) :: starEach es X.env) (hpl : (backTo pos (starEach es X.env)).any (·.1) = false) :
    PX X W L (.Call (.Name x p) (e :: es) [] pos) (ev cf (.call n ia)) :=
  PE.imp (pe_callS F hr hg hm hk hb tk ha hdb he hpl) fun σ H Q ⟨fx, Fz, s, φ, rl, q⟩ =>
    Post.args (g := fun xs => callM cf n xs) rl Go.refl hL q fun F1 H1 s1 φ1 xs vs fps rl1 _ g1 rvs hf hp hb q => call_ok rl1 g1 rvs hf hp hb q
theorem px_call0 {n : Nat} (F : FnOk X.prog X.w X.K X.mg X.base (L2N.CX X.prog X.w) k f fd ps (spD X.K X.mg (cf n))) (hr : Room k X.A) (hg : Gl X x) (hm : X.mg x = some (.ref f)) (hk : PySem.W.keepIn X.K (.ref f) = true) (hb : L2.Binds X.K fd ps []) (tk : ∀ σ, PassesAt (L2N.CX X.prog X.w) X σ (WE W σ))
    (hdb : (x == ("__debug__" : Str)) = false) : PX X W L (.Call (.Name x p) [] [] pos) (ev cf (.call n .nil)) :=
  PE.imp (pe_callS0 F hr hg hm hk hb tk hdb) fun σ H Q ⟨fx, Fz, s, φ, rl, q⟩ => by
    exact call_ok (xs := []) (vs := []) (fps := []) rl Go.refl True.intro (fun _ z => by simp at z) (fun _ z => by simp at z) (fun _ z => by simp [bors] at z) (q : Post X.K X.mg W L fx Fz H s φ σ (callM cf n [] s) Q)
theorem px_new {c n : Nat} (M : Mk X.K (Tabl.C c) f) (F : FnOk X.prog X.w X.K X.mg X.base (L2N.CX X.prog X.w) k f fd ps (spD X.K X.mg (cf n))) (hr : Room (k + 1) X.A) (hg : Gl X x) (hm : X.mg x = some (.ref (Tabl.C c))) (hb : L2.Binds X.K fd ps []) (tk : ∀ σ, PassesAt (L2N.CX X.prog X.w) X σ (WE W σ))
    (hL : ∀ i ∈ lent ia, L i) (ha : PXA X W L (e :: es) (ev cf ia)) (hdb : (x == ("__debug__" : Str)) = false) (he : starEach (e :: es) X.env = (false, eval e X.env) :: starEach es X.env) (hpl : (backTo pos (starEach es X.env)).any (·.1) = false) :
    PX X W L (.Call (.Name x p) (e :: es) [] pos) (ev cf (.new c n ia)) :=
  PE.imp (pe_makeS M F hr hg hm hb tk ha hdb he hpl) fun σ H Q ⟨fx, Fz, s, φ, rl, q⟩ =>
    Post.args (g := fun xs => newM cf c n xs) rl Go.refl hL q fun F1 H1 s1 φ1 xs vs fps rl1 _ g1 rvs hf hp hb q x dx hx hdx hne => new_ok rl1 g1 rvs hf hp hb hx hdx hne q
theorem px_new0 {c n : Nat} (M : Mk X.K (Tabl.C c) f) (F : FnOk X.prog X.w X.K X.mg X.base (L2N.CX X.prog X.w) k f fd ps (spD X.K X.mg (cf n))) (hr : Room (k + 1) X.A) (hg : Gl X x) (hm : X.mg x = some (.ref (Tabl.C c))) (hb : L2.Binds X.K fd ps []) (tk : ∀ σ, PassesAt (L2N.CX X.prog X.w) X σ (WE W σ))
    (hdb : (x == ("__debug__" : Str)) = false) : PX X W L (.Call (.Name x p) [] [] pos) (ev cf (.new c n .nil)) :=
  PE.imp (pe_makeS0 M F hr hg hm hb tk hdb) fun σ H Q ⟨fx, Fz, s, φ, rl, q⟩ => by
    intro x dx hx hdx hne
    exact new_ok (xs := []) (vs := []) (fps := []) rl Go.refl True.intro (fun _ z => by simp at z) (fun _ z => by simp at z) (fun _ z => by simp [bors] at z) hx hdx hne (q : Post X.K X.mg W L fx Fz H s φ σ (newM cf c n [] s) Q)
def MethsOk (X : Cx) (cf : CF) (k : Nat) (m : Str) (ms : List (Nat × Nat)) : Prop := ∀ c n, ms.lookup c = some n → ∃ f fd ps, Meth X.K (Tabl.C c) m f ∧ L2.Binds X.K fd ps [] ∧ FnOk X.prog X.w X.K X.mg X.base (L2N.CX X.prog X.w) k f fd ps (spD X.K X.mg (cf n))
theorem cls_ok {K : PySem.W.Frag} {F H : Hp} {o : Ob} {a : Addr} {fp : List Addr} {c : Nat} (h : ObOk K F H o a fp) (hc : o.cls m = some c) : ∃ dx fvs, H a = some (.ins (Tabl.C c) dx fvs) ∧ fvs.lookup m = none := by
  cases o with
  | ins c' fs =>
    unfold Ob.cls at hc
    dsimp only at hc
    cases e : fs.get m with
    | some _ => rw [e] at hc; cases hc
    | none =>
      rw [e] at hc; cases hc
      obtain ⟨dx, fvs, fp', h1, h2, h3, h4⟩ := h
      obtain ⟨_, _, k2, _⟩ := FsOk.split m h4
      rw [e] at k2
      exact ⟨dx, fvs, h1, k2.1⟩
  | lst _ => cases hc
  | dct _ => cases hc
  | dcl _ => cases hc
  | rws _ => cases hc
theorem methAt_ok {q : Pl} {s : S} {n : Nat} (h : methAt m ms q s = some n) : ∃ o c, VL.atPl s q = some (.o o) ∧ o.cls m = some c ∧ ms.lookup c = some n := by
  unfold methAt at h
  split at h
  · next o e =>
    rw [Option.bind_eq_some_iff] at h
    obtain ⟨c, h1, h2⟩ := h
    exact ⟨o, c, e, h1, h2⟩
  · cases h
theorem Post.bindOf {α : Type} {fx : Fx} {Fz H : Hp} {σ : L2.St} {s : S} {φ : Nat → List Addr} {Q : VK} {o : Option α} {g : α → M (List RV)} {s1 : S} (h : Post X.K X.mg W L fx Fz H s φ σ (bindM (optM o) g s1) Q) : ∃ a, o = some a ∧ Post X.K X.mg W L fx Fz H s φ σ (g a s1) Q := Post.bindO h
section
variable {i : Nat} (hc : ∀ c, Cls X.K (Tabl.C c)) (M : MethsOk X cf k m ms) (hr : Room k X.A) (tk : ∀ σ, PassesAt (L2N.CX X.prog X.w) X σ (WE W σ))
include hc M hr tk
theorem px_meth {pl : Sem Bool} (ho : PE X o (tVar i)) (hLi : L i) (hL : ∀ i ∈ lent ia, L i) (ha : PXA X W L (e :: es) (ev cf ia)) (he : starEach (e :: es) X.env = (false, eval e X.env) :: starEach es X.env) (hpl : (backTo pos (starEach es X.env)).any (·.1) = false)
    (ht : eval (.Call (.Attribute o m apos) (e :: es) [] pos) X.env = (do
      let ov ← eval o X.env
      standAt apos.atName
      let (f, first) ← holding [ov] (getMethod ov m pl)
      callWith pos f first (backTo pos (starEach (e :: es) X.env)) (backToKw pos (keywordEach [] X.env)))) :
    PX X W L (.Call (.Attribute o m apos) (e :: es) [] pos) (ev cf (.meth m ms i ia)) :=
  PE.imp (pe_methD ho tk ha he hpl ht) fun σ H Q ⟨fx, Fz, s, φ, rl, q⟩ => by
    obtain ⟨n, hn, q⟩ := Post.bindOf (g := fun f => bindM (ev cf ia) fun xs => callM cf f (.bor ⟨i, none⟩ :: xs)) q
    obtain ⟨ob, c, h1, h2, h3⟩ := methAt_ok hn
    obtain ⟨v, fp, k1, ⟨a, rfl, k2⟩, k3, k4, k5⟩ := rl.atPl h1
    obtain ⟨dx, fvs, m1, m2⟩ := cls_ok k2 h2
    obtain ⟨f, fd, ps, n1, n2, n3⟩ := M c n h3
    refine ⟨.ref a, k1, a, _, dx, fvs, f, fd, ps, _, k, rfl, m1, m2, hc c, n1, n3, hr, n2, ?_⟩
    refine Post.args (g := fun xs => callM cf n (.bor ⟨i, none⟩ :: xs)) rl Go.refl hL q fun F1 H1 s1 φ1 xs vs fps rl1 _ g1 rvs hf hp hb q => ?_
    refine call_ok (xs := .bor ⟨i, none⟩ :: xs) (vs := .ref a :: vs) (fps := [] :: fps) rl1 g1 ⟨⟨rfl, k1⟩, rvs, fun b hb => by simp at hb⟩ (fun fp hfp b hb => ?_) (fun p hp' => ?_) (fun j hj => ?_) q
    · rcases List.mem_cons.mp hfp with rfl | hfp
      · simp at hb
      · exact hf fp hfp b hb
    · rcases List.mem_cons.mp hp' with z | z
      · cases z; rfl
      · exact hp p z
    · rcases List.mem_cons.mp hj with z | z
      · rw [z]; exact hLi
      · exact hb j z
theorem px_meth0 {pl : Sem Bool} (ho : PE X o (tVar i)) (hLi : L i)
    (ht : eval (.Call (.Attribute o m apos) [] [] pos) X.env = (do
      let ov ← eval o X.env
      standAt apos.atName
      let (f, first) ← holding [ov] (getMethod ov m pl)
      callWith pos f first (backTo pos (starEach [] X.env)) (backToKw pos (keywordEach [] X.env)))) :
    PX X W L (.Call (.Attribute o m apos) [] [] pos) (ev cf (.meth m ms i .nil)) :=
  PE.imp (pe_methD0 ho tk ht) fun σ H Q ⟨fx, Fz, s, φ, rl, q⟩ => by
    obtain ⟨n, hn, q⟩ := Post.bindOf (g := fun f => bindM (ev cf .nil) fun xs => callM cf f (.bor ⟨i, none⟩ :: xs)) q
    obtain ⟨ob, c, h1, h2, h3⟩ := methAt_ok hn
    obtain ⟨v, fp, k1, ⟨a, rfl, k2⟩, k3, k4, k5⟩ := rl.atPl h1
    obtain ⟨dx, fvs, m1, m2⟩ := cls_ok k2 h2
    obtain ⟨f, fd, ps, n1, n2, n3⟩ := M c n h3
    refine ⟨.ref a, k1, a, _, dx, fvs, f, fd, ps, _, k, rfl, m1, m2, hc c, n1, n3, hr, n2, ?_⟩
    refine call_ok (xs := [.bor ⟨i, none⟩]) (vs := [.ref a]) (fps := [[]]) rl Go.refl ⟨⟨rfl, k1⟩, True.intro, fun b hb => by simp at hb⟩ (fun fp hfp b hb => ?_) (fun p hp' => ?_) (fun j hj => ?_) (q : Post X.K X.mg W L fx Fz H s φ σ (callM cf n [.bor ⟨i, none⟩] s) Q)
    · simp at hfp; subst hfp; simp at hb
    · simp at hp'; rw [hp']
    · simp [bors] at hj; rw [hj]; exact hLi
theorem px_methT {pl : Sem Bool} (ho : PX X W L o (ev cf ib)) (hL : ∀ i ∈ lent ia, L i) (ha : PXA X W L (e :: es) (ev cf ia)) (he : starEach (e :: es) X.env = (false, eval e X.env) :: starEach es X.env) (hpl : (backTo pos (starEach es X.env)).any (·.1) = false)
    (ht : eval (.Call (.Attribute o m apos) (e :: es) [] pos) X.env = (do
      let ov ← eval o X.env
      standAt apos.atName
      let (f, first) ← holding [ov] (getMethod ov m pl)
      callWith pos f first (backTo pos (starEach (e :: es) X.env)) (backToKw pos (keywordEach [] X.env)))) :
    PX X W L (.Call (.Attribute o m apos) (e :: es) [] pos) (ev cf (.methT m ms ib ia)) :=
  PE.imp (pe_methD ho tk ha he hpl ht) fun σ H Q ⟨fx, Fz, s, φ, rl, q⟩ => by
    refine ⟨fx, Fz, s, φ, rl, ?_⟩
    have q : Post X.K X.mg W L fx Fz H s φ σ (bindM (ev cf ib) (fun x => bindM (one x) fun r => bindM (optM (methOf m ms r)) fun f => bindM (ev cf ia) fun xs => callM cf f (r :: xs)) s) Q := q
    unfold bindM VL.R.bind at q
    cases e1 : ev cf ib s with
    | exc c s1 => rw [e1] at q; exact q
    | stuck => rw [e1] at q; exact q.elim
    | ok l s1 =>
      rw [e1] at q
      cases l with
      | nil => exact q.elim
      | cons r l =>
        cases l with
        | cons _ _ => exact q.elim
        | nil =>
          intro v fp H1 F1 φ1 g1 rl1 rv hf
          have q : Post X.K X.mg W L fx Fz H s φ σ (bindM (optM (methOf m ms r)) (fun f => bindM (ev cf ia) fun xs => callM cf f (r :: xs)) s1) Q := q
          obtain ⟨n, hn, q⟩ := Post.bindOf q
          cases r with
          | d _ => cases hn
          | clo _ _ => cases hn
          | bor _ => cases hn
          | ob ob =>
            unfold methOf at hn
            rw [Option.bind_eq_some_iff] at hn
            obtain ⟨c, h2, h3⟩ := hn
            obtain ⟨⟨a, rfl, k2⟩, k3, k4⟩ := rv
            obtain ⟨dx, fvs, m1, m2⟩ := cls_ok k2 h2
            obtain ⟨f, fd, ps, n1, n2, n3⟩ := M c n h3
            refine ⟨a, _, dx, fvs, f, fd, ps, _, k, rfl, m1, m2, hc c, n1, n3, hr, n2, ?_⟩
            refine Post.args (g := fun xs => callM cf n (.ob ob :: xs)) rl1 g1 hL q fun F2 H2 s2 φ2 xs vs fps rl2 g12 g2 rvs hf2 hp hb q => ?_
            have rv2 : RvOk X.K fx F2 σ H2 s2 φ2 (.ob ob) (.ref a) fp := RvOk.go g12 rl2 (fun p hp => by cases hp) ⟨⟨a, rfl, k2⟩, k3, k4⟩
            refine call_ok (xs := .ob ob :: xs) (vs := .ref a :: vs) (fps := fp :: fps) rl2 g2 ⟨rv2, rvs, fun b hb fq hq z => ?_⟩ (fun fq hfp b hb => ?_) (fun p hp' => ?_) hb q
            · obtain ⟨u, e5, mo⟩ := k2.dom b hb
              exact strip_none (hf2 fq hq b z) e5 mo.nt
            · rcases List.mem_cons.mp hfp with rfl | hfp
              · exact hf b hb
              · exact free_back g1 (hf2 fq hfp) b hb
            · rcases List.mem_cons.mp hp' with z | z
              · cases z
              · exact hp p z
theorem px_methT0 {pl : Sem Bool} (ho : PX X W L o (ev cf ib))
    (ht : eval (.Call (.Attribute o m apos) [] [] pos) X.env = (do
      let ov ← eval o X.env
      standAt apos.atName
      let (f, first) ← holding [ov] (getMethod ov m pl)
      callWith pos f first (backTo pos (starEach [] X.env)) (backToKw pos (keywordEach [] X.env)))) :
    PX X W L (.Call (.Attribute o m apos) [] [] pos) (ev cf (.methT m ms ib .nil)) :=
  PE.imp (pe_methD0 ho tk ht) fun σ H Q ⟨fx, Fz, s, φ, rl, q⟩ => by
    refine ⟨fx, Fz, s, φ, rl, ?_⟩
    have q : Post X.K X.mg W L fx Fz H s φ σ (bindM (ev cf ib) (fun x => bindM (one x) fun r => bindM (optM (methOf m ms r)) fun f => bindM (ev cf .nil) fun xs => callM cf f (r :: xs)) s) Q := q
    unfold bindM VL.R.bind at q
    cases e1 : ev cf ib s with
    | exc c s1 => rw [e1] at q; exact q
    | stuck => rw [e1] at q; exact q.elim
    | ok l s1 =>
      rw [e1] at q
      cases l with
      | nil => exact q.elim
      | cons r l =>
        cases l with
        | cons _ _ => exact q.elim
        | nil =>
          intro v fp H1 F1 φ1 g1 rl1 rv hf
          have q : Post X.K X.mg W L fx Fz H s φ σ (bindM (optM (methOf m ms r)) (fun f => callM cf f [r]) s1) Q := q
          obtain ⟨n, hn, q⟩ := Post.bindOf q
          cases r with
          | d _ => cases hn
          | clo _ _ => cases hn
          | bor _ => cases hn
          | ob ob =>
            unfold methOf at hn
            rw [Option.bind_eq_some_iff] at hn
            obtain ⟨c, h2, h3⟩ := hn
            obtain ⟨⟨a, rfl, k2⟩, k3, k4⟩ := rv
            obtain ⟨dx, fvs, m1, m2⟩ := cls_ok k2 h2
            obtain ⟨f, fd, ps, n1, n2, n3⟩ := M c n h3
            refine ⟨a, _, dx, fvs, f, fd, ps, _, k, rfl, m1, m2, hc c, n1, n3, hr, n2, ?_⟩
            refine call_ok (xs := [.ob ob]) (vs := [.ref a]) (fps := [fp]) rl1 g1 ⟨⟨⟨a, rfl, k2⟩, k3, k4⟩, True.intro, fun b hb fq hq => by simp at hq⟩ (fun fq hfp b hb => ?_) (fun p hp' => ?_) (fun j hj => ?_) q
            · simp at hfp; subst hfp; exact hf b hb
            · simp at hp'
            · simp [bors] at hj
end
end
end VL
set_option maxHeartbeats 1000000
namespace VL
open PySem PySem.Spec PyProof.Rows L2
variable [Tabl]
def Wk (K : PySem.W.Frag) (Fz : Hp) (J : It) (ys : List D) : Prop := ∀ Fz' H', Same Fz Fz' → Same Fz' H' → ∀ i : Nat,
  (∀ d, ys[i]? = some d → J.go i H' ∧ ∀ x H'', J.yld i H' x H'' → ∃ Fz'', Same Fz' Fz'' ∧ Same H' H'' ∧ (∀ fx σ s φ, Rel K fx Fz' σ H' s φ → Rel K fx Fz'' σ H'' s φ ∧ ∀ L, Go L Fz' H' s φ Fz'' H'' s φ) ∧ Rp K Fz'' x d) ∧ (ys.length ≤ i → J.stop i H')
def PostI (K : PySem.W.Frag) (mg : Str → Option Value) (W : WX) (L : Nat → Prop) (fx : Fx) (Fz H : Hp) (s : S) (φ : Nat → List Addr) (σ : L2.St) (res : R (List D)) (Rr : It → Hp → Prop) : Prop := match res with
  | .ok ys s' => ∀ J H' Fz' φ', Go L Fz H s φ Fz' H' s' φ' → Rel K fx Fz' σ H' s' φ' → Wk K Fz' J ys → Rr J H'
  | .exc c s' => PostX K mg W L fx Fz H s φ σ c s'
  | .stuck => False
def tIt (K : PySem.W.Frag) (mg : Str → Option Value) (W : WX) (L : Nat → Prop) (m : M (List D)) : TI := fun σ H Rr => ∃ fx Fz s φ, Rel K fx Fz σ H s φ ∧ PostI K mg W L fx Fz H s φ σ (m s) Rr
abbrev PXI (X : Cx) (W : WX) (L : Nat → Prop) (tg it : Expr) (m : M (List D)) : Prop := PI X tg it (tIt X.K X.mg W L m)
theorem PI.imp {X : Cx} {tg it : Expr} {t t' : TI} (h : PI X tg it t) (i : ∀ σ H Q, t' σ H Q → t σ H Q) : PI X tg it t' := ⟨fun pins s σ H Q I q => h.run pins s σ H Q I (i σ H Q q)⟩
section
variable {X : Cx} {W : WX} {L : Nat → Prop} {cf : CF} {e a b c tg : Expr} {pos p : Pos} {ia ib ic : IE}
def iSeq (K : PySem.W.Frag) (tl : TE) : TI := fun σ H R => tl σ H fun x H1 => (∃ a, x = .ref a ∧ (∃ xs, SqL K H1 a xs) ∧ R (Itl K a) H1) ∨ ∃ a, x = .ref a ∧ (∃ xs, SqT K H1 a xs) ∧ R (Itt K a) H1
theorem pi_seq {l : Expr} {tl : TE} (hl : PE X l tl) : PI X tg l (iSeq X.K tl) := by
  refine ⟨fun pins s σ H R I h => ?_⟩
  refine thn (hl.run pins s σ H _ I h) fun v s1 ⟨x, H1, I1, r1, q1⟩ => ?_
  rcases q1 with ⟨a, e, ⟨xs, hq⟩, q⟩ | ⟨a, e, ⟨xs, hq⟩, q⟩
  · subst e
    cases r1
    obtain ⟨its, rv, p, hz⟩ := I1.list hq
    refine wpAny_pyIter_list p.isList ?_
    refine ⟨s1.heap.objs.size, [s1.heap.objs.size], _, _, H1, rfl, I1.kept (t' := s1.toks) fun b o e => Heap.get?_push_of_some _ e, turn_list a _, ⟨_, Heap.get?_push_size _ rfl, rfl, rfl⟩, fun b hb => ?_, q⟩
    have e : b = s1.heap.objs.size := by simpa using hb
    subst e
    exact I1.fpOk (Nat.le_refl _) (I1.hok.fresh (Nat.le_refl _))
  · subst e
    cases r1
    obtain ⟨its, rv, p, hz⟩ := I1.tuple hq
    refine wpAny_pyIter_tuple (show s1.heap.IsTuple a its.toArray from p) ?_
    refine ⟨s1.heap.objs.size, [s1.heap.objs.size], _, _, H1, rfl, I1.kept (t' := s1.toks) fun b o e => Heap.get?_push_of_some _ e, turn_tuple a _, ⟨_, Heap.get?_push_size _ rfl, rfl, rfl⟩, fun b hb => ?_, q⟩
    have e : b = s1.heap.objs.size := by simpa using hb
    subst e
    exact I1.fpOk (Nat.le_refl _) (I1.hok.fresh (Nat.le_refl _))
theorem wk_list {K : PySem.W.Frag} {Fz : Hp} {a : Addr} {vs : List V} {ys : List D} (h : Fz a = some (.lst vs)) (r : Rps K Fz vs ys) : Wk K Fz (Itl K a) ys := fun F' H' g1 g2 i => by
  have hs : SqL K H' a vs := SqL.of (g2 _ _ (g1 _ _ h))
  refine ⟨fun d hd => ?_, fun hi => ⟨vs, hs, by rw [r.length]; exact hi⟩⟩
  obtain ⟨v, h1, h2⟩ := r.get hd
  refine ⟨⟨vs, v, hs, h1⟩, fun x H'' hy => ?_⟩
  obtain ⟨rfl, hy⟩ := hy
  have := (hy vs hs).symm.trans h1
  cases this
  exact ⟨F', Same.refl _, Same.refl _, fun _ _ _ _ z => ⟨z, fun _ => Go.refl⟩, h2.mono g1⟩
theorem wk_tup {K : PySem.W.Frag} {Fz : Hp} {a : Addr} {vs : List V} {ys : List D} (h : SqT K Fz a vs) (r : Rps K Fz vs ys) : Wk K Fz (Itt K a) ys := fun F' H' g1 g2 i => by
  have hs : SqT K H' a vs := sqT_mono g2 (sqT_mono g1 h)
  refine ⟨fun d hd => ?_, fun hi => ⟨vs, hs, by rw [r.length]; exact hi⟩⟩
  obtain ⟨v, h1, h2⟩ := r.get hd
  refine ⟨⟨vs, v, hs, h1⟩, fun x H'' hy => ?_⟩
  obtain ⟨rfl, hy⟩ := hy
  have := (hy vs hs).symm.trans h1
  cases this
  exact ⟨F', Same.refl _, Same.refl _, fun _ _ _ _ z => ⟨z, fun _ => Go.refl⟩, h2.mono g1⟩
theorem wk_range {K : PySem.W.Frag} {Fz : Hp} {lo : Int} {n : Nat} : Wk K Fz (Itr lo n) ((List.range n).map fun (k : Nat) => .int (lo + (k : Int))) := fun F' H' g1 g2 i => by
  refine ⟨fun d hd => ?_, fun hi => by simpa [Itr] using hi⟩
  rw [List.getElem?_map] at hd
  have hi : i < n := by
    cases q : (List.range n)[i]? with
    | none => rw [q] at hd; cases hd
    | some z =>
      have := (List.getElem?_eq_some_iff.mp q).1
      simpa using this
  rw [List.getElem?_range hi] at hd
  cases hd
  refine ⟨hi, fun x H'' hy => ?_⟩
  obtain ⟨rfl, rfl⟩ := hy
  exact ⟨F', Same.refl _, Same.refl _, fun _ _ _ _ z => ⟨z, fun _ => Go.refl⟩, .int _⟩
theorem itM_arg {k : Itk} {m : M (List RV)} {σ : L2.St} {H : Hp} {Rr : It → Hp → Prop} {R2 : List V → Hp → Prop} (h : tIt X.K X.mg W L (itM k m) σ H Rr)
    (hr : ∀ fx Fz H s φ xs ds ys, Rel X.K fx Fz σ H s φ → Rps X.K Fz xs ds → itD k ds = some ys → (∀ J, Wk X.K Fz J ys → Rr J H) → R2 xs H) : tA X.K X.mg W L m σ H R2 := by
  obtain ⟨fx, Fz, s, φ, rl, p⟩ := h
  refine ⟨fx, Fz, s, φ, rl, ?_⟩
  unfold itM bindM VL.R.bind at p
  cases e : m s with
  | ok rs s1 =>
    rw [e] at p
    dsimp only at p
    unfold optM at p
    cases e1 : toDs rs with
    | none => rw [e1] at p; exact p.elim
    | some ds =>
      rw [e1] at p
      have p : PostI X.K X.mg W L fx Fz H s φ σ (optM (itD k ds) s1) Rr := p
      unfold optM at p
      cases e2 : itD k ds with
      | none => rw [e2] at p; exact p.elim
      | some ys =>
        rw [e2] at p
        intro vs fps H' F' φ' g rl' rp hf hb hl
        exact hr fx F' H' s1 φ' vs ds ys rl' (rp.data hl e1) e2 fun J hj => p J H' F' φ' g rl' hj
  | exc c s1 => rw [e] at p; exact p
  | stuck => rw [e] at p; exact p.elim
theorem itD_seq {d : D} {ys : List D} (h : itD .seq [d] = some ys) : (d = .list ys ∨ d = .tuple ys) ∧ ys.length ≤ 1000000 := by
  cases d with
  | list xs =>
    simp only [itD, itSeq] at h
    by_cases q : okLen xs.length = true
    · rw [if_pos q] at h; cases h; exact ⟨.inl rfl, of_decide_eq_true q⟩
    · rw [if_neg q] at h; cases h
  | tuple xs =>
    simp only [itD, itSeq] at h
    by_cases q : okLen xs.length = true
    · rw [if_pos q] at h; cases h; exact ⟨.inr rfl, of_decide_eq_true q⟩
    · rw [if_neg q] at h; cases h
  | _ => simp [itD, itSeq] at h
theorem itM_cons {k : Itk} (s : S) : itM k (ev cf (.cons ia .nil)) s = (bindM (one1 (ev cf ia)) fun d => optM (itD k [d])) s := by
  show (bindM (bindM (ev cf ia) fun x => bindM (one x) fun r => bindM (pureM []) fun xs => pureM (r.arg :: xs)) fun xs => bindM (optM (toDs xs)) fun ds => optM (itD k ds)) s = _
  unfold one1 bindM
  cases e1 : ev cf ia s with
  | ok l s1 => cases l with
    | nil => rfl
    | cons r l => cases l with
      | cons _ _ => rfl
      | nil =>
        cases r with
        | d x => rfl
        | clo _ _ => rfl
        | bor _ => rfl
        | ob o => cases o <;> rfl
  | exc c s1 => rfl
  | stuck => rfl
theorem pxi_seq (h : PX X W L e (ev cf ia)) : PXI X W L tg e (itM .seq (ev cf (.cons ia .nil))) :=
  PI.imp (pi_seq (PX.d h)) fun σ H Rr q => by
    obtain ⟨fx, Fz, s, φ, rl, p⟩ := q
    refine ⟨fx, Fz, s, φ, rl, ?_⟩
    rw [itM_cons] at p
    unfold bindM at p
    cases e1 : one1 (ev cf ia) s with
    | ok d s1 =>
      rw [e1] at p
      have p2 : PostI X.K X.mg W L fx Fz H s φ σ (optM (itD .seq [d]) s1) Rr := p
      clear p
      intro v H' F' φ' g rl' rp
      cases e2 : itD .seq [d] with
      | none => rw [e2] at p2; exact p2.elim
      | some ys =>
        rw [e2] at p2
        have p : PostI X.K X.mg W L fx Fz H s φ σ (.ok ys s1) Rr := p2
        obtain ⟨hd | hd, _⟩ := itD_seq e2
        · subst hd
          cases rp with
          | lst h1 h2 => exact .inl ⟨_, rfl, ⟨_, SqL.of (rl'.sub _ _ h1)⟩, p _ H' F' φ' g rl' (wk_list h1 h2)⟩
        · subst hd
          cases rp with
          | tup h1 h2 => exact .inr ⟨_, rfl, ⟨_, sqT_mono rl'.sub h1⟩, p _ H' F' φ' g rl' (wk_tup h1 h2)⟩
    | exc c s1 => rw [e1] at p; exact p
    | stuck => rw [e1] at p; exact p.elim
theorem itD_r1 {ds ys : List D} (h : itD .range1 ds = some ys) : ∃ j, ds = [.int j] ∧ -1000000 < j ∧ j < 1000000 ∧ ys = (List.range j.toNat).map fun (k : Nat) => .int (0 + (k : Int)) := by
  have h : itR1 ds = some ys := h
  unfold itR1 at h
  split at h
  · next j =>
    split at h
    · next hj => cases h; exact ⟨_, rfl, hj.1, hj.2, by simp⟩
    · cases h
  · cases h
theorem itD_r2 {ds ys : List D} (h : itD .range2 ds = some ys) : ∃ i j, ds = [.int i, .int j] ∧ -400000 < i ∧ i < 400000 ∧ -400000 < j ∧ j < 400000 ∧ ys = (List.range (j - i).toNat).map fun (k : Nat) => .int (i + (k : Int)) := by
  have h : itR2 ds = some ys := h
  unfold itR2 at h
  split at h
  · next i j =>
    split at h
    · next hj => cases h; exact ⟨_, _, rfl, hj.1, hj.2.1, hj.2.2.1, hj.2.2.2, rfl⟩
    · cases h
  · cases h
theorem itD_len {k : Itk} {ds ys : List D} (h : itD k ds = some ys) : ys.length ≤ 1000000 := by
  cases k with
  | seq =>
    cases ds with
    | nil => simp [itD, itSeq] at h
    | cons d ds =>
      cases ds with
      | nil => exact (itD_seq h).2
      | cons _ _ => simp [itD, itSeq] at h
  | enum =>
    have h : (itSeq ds).map (numbered 0) = some ys := h
    rw [Option.map_eq_some_iff] at h
    obtain ⟨zs, h1, rfl⟩ := h
    have nl : ∀ (xs : List D) n, (numbered n xs).length = xs.length := by
      intro xs
      induction xs with
      | nil => intro n; rfl
      | cons x xs ih => intro n; simp [numbered, ih]
    rw [nl]
    cases ds with
    | nil => simp [itSeq] at h1
    | cons d ds =>
      cases ds with
      | nil => exact (itD_seq (d := d) h1).2
      | cons _ _ => simp [itSeq] at h1
  | range1 =>
    obtain ⟨j, _, h1, h2, rfl⟩ := itD_r1 h
    rw [List.length_map, List.length_range]; omega
  | range2 =>
    obtain ⟨i, j, _, h1, h2, h3, h4, rfl⟩ := itD_r2 h
    rw [List.length_map, List.length_range]; omega
theorem pxi_range1 {x : Str} (hx : x = "range") (hg : Gl X x) (hm : X.mg x = none) (ha : PXA X W L [a] (ev cf ia)) (hs : starEach [a] X.env = [(false, eval a X.env)]) : PXI X W L tg (.Call (.Name x p) [a] [] pos) (itM .range1 (ev cf ia)) := by
  subst hx
  refine PI.imp (pi_range1 hg hm ha hs) fun σ H Rr q => itM_arg q fun fx Fz H s φ xs ds ys rl rp e k => ?_
  obtain ⟨j, rfl, h1, h2, rfl⟩ := itD_r1 e
  cases rp with
  | cons h t =>
    cases t
    cases h
    exact ⟨j, rfl, by omega, by omega, k _ wk_range⟩
theorem pxi_range2 {x : Str} (hx : x = "range") (hg : Gl X x) (hm : X.mg x = none) (ha : PXA X W L [a, b] (ev cf ia)) (hs : starEach [a, b] X.env = [(false, eval a X.env), (false, eval b X.env)]) (hs2 : starEach [b] X.env = [(false, eval b X.env)]) : PXI X W L tg (.Call (.Name x p) [a, b] [] pos) (itM .range2 (ev cf ia)) := by
  subst hx
  refine PI.imp (pi_range2 hg hm ha hs hs2) fun σ H Rr q => itM_arg q fun fx Fz H s φ xs ds ys rl rp e k => ?_
  obtain ⟨i, j, rfl, h1, h2, h3, h4, rfl⟩ := itD_r2 e
  cases rp with
  | cons h t =>
    cases t with
    | cons h' t =>
      cases t
      cases h
      cases h'
      exact ⟨i, j, rfl, ⟨by omega, by omega, by omega, by omega⟩, k _ wk_range⟩
mutual
def tgR (K : PySem.W.Frag) : Tg → TG
  | .nm i => gName i
  | .tp ts => gTup K ts.len (tgsR K ts)
def tgsR (K : PySem.W.Frag) : Tgs → TGs
  | .nil => gNil
  | .cons t r => gCons (tgR K t) (tgsR K r)
def Tgs.len : Tgs → Nat
  | .nil => 0
  | .cons _ r => r.len + 1
end
structure Sto (vs : List Nat) (σ σ' : L2.St) (s s' : S) : Prop where
  len : σ'.length = σ.length
  out : ∀ j : Nat, j ∉ vs → σ'[j]? = σ[j]? ∧ s'[j]? = s[j]?
  inn : ∀ j : Nat, j ∈ vs → ∀ w o, s'[j]? = some (some (.ob w o)) → s[j]? = some (some (.ob w o)) ∧ σ'[j]? = σ[j]?
theorem setSlot_eq {s s' : S} {i : Nat} {v : SV} (h : setSlot s i v = some s') : s' = s.set i (some v) ∧ ∀ o, s[i]? ≠ some (some (.ob false o)) := by
  unfold setSlot at h
  split at h
  · cases h
  · next hn => cases h; exact ⟨rfl, fun o z => hn o z⟩
mutual
theorem setT_ok {K : PySem.W.Frag} {fx : Fx} {Fz H : Hp} {Q : L2.St → Hp → Prop} : ∀ {tg : Tg} {v : V} {d : D} {σ : L2.St} {s s' : S} {φ : Nat → List Addr}, Rel K fx Fz σ H s φ → Rp K Fz v d → setT tg d s = some s' →
    (∀ σ', (∃ φ', Rel K fx Fz σ' H s' φ' ∧ ∀ (j : Nat) w o, s'[j]? = some (some (.ob w o)) → φ' j = φ j) → σ'.length = σ.length → (∀ j : Nat, j ∉ tg.slots → σ'[j]? = σ[j]? ∧ s'[j]? = s[j]?) → (∀ (j : Nat) w o, s'[j]? = some (some (.ob w o)) → s[j]? = some (some (.ob w o))) → Q σ' H) → tgR K tg v σ H Q
  | .nm i, v, d, σ, s, s', φ, rl, h, e, q => by
    have rl1 := rl.put (i := i) (x := .d d) (y := .d d) (v := v) (fp := []) ⟨rfl, h⟩ rfl e
    obtain ⟨rfl, hn⟩ := setSlot_eq e
    refine q _ ⟨_, rl1, fun j w o hj => ?_⟩ (by rw [List.length_set]) (fun j hj => ?_) (fun j w o hj => ?_)
    · by_cases z : j = i
      · subst z
        have hi : j < s.length := by have := (List.getElem?_eq_some_iff.mp hj).1; simpa using this
        rw [List.getElem?_set_self hi] at hj; cases hj
      · simp [z]
    · have z : i ≠ j := fun z => hj (by rw [z]; simp [Tg.slots])
      exact ⟨List.getElem?_set_ne z, List.getElem?_set_ne z⟩
    · by_cases z : j = i
      · subst z
        have hi : j < s.length := by have := (List.getElem?_eq_some_iff.mp hj).1; simpa using this
        rw [List.getElem?_set_self hi] at hj; cases hj
      · rw [List.getElem?_set_ne (Ne.symm z)] at hj; exact hj
  | .tp ts, v, .tuple xs, σ, s, s', φ, rl, h, e, q => by
    cases h with
    | tup h1 h2 =>
      have e : setTs ts xs s = some s' := e
      exact ⟨_, _, rfl, sqT_mono rl.sub h1, by rw [h2.length]; exact setTs_len e, setTs_ok rl h2 e q⟩
  | .tp ts, v, .none, σ, s, s', φ, rl, h, e, q => by cases e
  | .tp ts, v, .bool _, σ, s, s', φ, rl, h, e, q => by cases e
  | .tp ts, v, .int _, σ, s, s', φ, rl, h, e, q => by cases e
  | .tp ts, v, .str _, σ, s, s', φ, rl, h, e, q => by cases e
  | .tp ts, v, .list _, σ, s, s', φ, rl, h, e, q => by cases e
  | .tp ts, v, .dict _, σ, s, s', φ, rl, h, e, q => by cases e
theorem setTs_ok {K : PySem.W.Frag} {fx : Fx} {Fz H : Hp} {Q : L2.St → Hp → Prop} : ∀ {ts : Tgs} {vs : List V} {ds : List D} {σ : L2.St} {s s' : S} {φ : Nat → List Addr}, Rel K fx Fz σ H s φ → Rps K Fz vs ds → setTs ts ds s = some s' →
    (∀ σ', (∃ φ', Rel K fx Fz σ' H s' φ' ∧ ∀ (j : Nat) w o, s'[j]? = some (some (.ob w o)) → φ' j = φ j) → σ'.length = σ.length → (∀ j : Nat, j ∉ ts.slots → σ'[j]? = σ[j]? ∧ s'[j]? = s[j]?) → (∀ (j : Nat) w o, s'[j]? = some (some (.ob w o)) → s[j]? = some (some (.ob w o))) → Q σ' H) → tgsR K ts vs σ H Q
  | .nil, vs, ds, σ, s, s', φ, rl, h, e, q => by
    cases h with
    | nil => cases e; exact ⟨rfl, q σ ⟨φ, rl, fun _ _ _ _ => rfl⟩ rfl (fun _ _ => ⟨rfl, rfl⟩) fun _ _ _ z => z⟩
    | cons _ _ => cases e
  | .cons t r, vs, ds, σ, s, s', φ, rl, h, e, q => by
    cases h with
    | nil => cases e
    | cons h1 h2 =>
      simp only [setTs, Option.bind_eq_some_iff] at e
      obtain ⟨s1, e1, e2⟩ := e
      refine ⟨_, _, rfl, setT_ok rl h1 e1 fun σ1 ⟨φ1, rl1, k1⟩ hl1 ho1 hb1 => ?_⟩
      refine setTs_ok rl1 h2 e2 fun σ2 ⟨φ2, rl2, k2⟩ hl2 ho2 hb2 => q σ2 ⟨φ2, rl2, fun j w o hj => ?_⟩ (by rw [hl2, hl1]) (fun j hj => ?_) fun j w o hj => hb1 j w o (hb2 j w o hj)
      · rw [k2 j w o hj]; exact k1 j w o (hb2 j w o hj)
      · simp only [Tgs.slots, List.mem_append, not_or] at hj
        obtain ⟨a1, a2⟩ := ho1 j hj.1
        obtain ⟨b1, b2⟩ := ho2 j hj.2
        exact ⟨b1.trans a1, b2.trans a2⟩
theorem setTs_len : ∀ {ts : Tgs} {ds : List D} {s s' : S}, setTs ts ds s = some s' → ds.length = ts.len
  | .nil, [], _, _, _ => rfl
  | .nil, _ :: _, _, _, e => by cases e
  | .cons _ _, [], _, _, e => by cases e
  | .cons t r, d :: ds, s, s', e => by
    simp only [setTs, Option.bind_eq_some_iff] at e
    obtain ⟨s1, e1, e2⟩ := e
    rw [List.length_cons, setTs_len e2]; rfl
end
theorem setTg_ok {K : PySem.W.Frag} {fx : Fx} {Fz H : Hp} {Q : L2.St → Hp → Prop} {tg : Tg} {v : V} {d : D} {σ : L2.St} {s s' : S} {u : Unit} {φ : Nat → List Addr} (rl : Rel K fx Fz σ H s φ) (h : Rp K Fz v d) (e : setTg tg d s = .ok u s')
    (q : ∀ σ', (∃ φ', Rel K fx Fz σ' H s' φ' ∧ ∀ (j : Nat) w o, s'[j]? = some (some (.ob w o)) → φ' j = φ j) → σ'.length = σ.length → (∀ j : Nat, j ∉ tg.slots → σ'[j]? = σ[j]? ∧ s'[j]? = s[j]?) → (∀ (j : Nat) w o, s'[j]? = some (some (.ob w o)) → s[j]? = some (some (.ob w o))) → Q σ' H) : tgR K tg v σ H Q := by
  unfold setTg at e
  split at e
  · next s1 e1 => cases e; exact setT_ok rl h e1 q
  · cases e
theorem setTg_exc {tg : Tg} {d : D} {s s' : S} {c : Str} (e : setTg tg d s = .exc c s') : False := by
  unfold setTg at e
  split at e <;> cases e
end
end VL
set_option maxHeartbeats 1000000
namespace VL
open PySem PySem.Spec PyProof.Rows L2
theorem enum_new1 {u : Value} {ob : Obj} {Hc : Heap → Prop} (Bg : Begins u ob Hc) :
    Meets (Builtin.«enumerate.__new__» ⟨[.type "enumerate", u], []⟩) (fun _ Rr st => Hc st.heap ∧
      Rr (.ok (.ret (.ref (st.heap.push ob).objs.size))) { st with heap := (st.heap.push ob).push { cls := .type "enumerate", data := .fields #[.none, .bool false, .ref st.heap.objs.size, rawInt 0, .none, .none] } }) :=
  .of_wp fun P w A Rr st hyp => by
    obtain ⟨hp, gl, dd, tk, os⟩ := st; obtain ⟨c1, hyp⟩ := hyp
    have sube := sub_enumerate
    have goIter : ∀ {A' : Around} {E : Value → Shared → Prop} {Q : Value → Shared → Prop}, Q (.ref hp.objs.size) ⟨hp.push ob, gl, dd, tk, os⟩ → wpAny (model P w) A' (pyIter u) Q E ⟨hp, gl, dd, tk, os⟩ :=
      fun q => Bg.iter P w _ _ ⟨hp, gl, dd, tk, os⟩ _ c1 q
    wp_walk using goIter
    refine wpAny_stack_any fun stk => wpAny_pure ?_
    split
    · rename_i cl _ _ _ _ _
      cases (cl == Value.type "enumerate") <;> (wp_walk using goIter; exact ⟨_, rfl, hyp⟩)
    · wp_walk using goIter
      exact ⟨_, rfl, hyp⟩
theorem call_enum1 {P : Program} {w : World} {A : Around} {E : Value → Shared → Prop} {st : Shared} {u : Value} {ob : Obj} {Hc : Heap → Prop} {Q : Value → Shared → Prop} (Bg : Begins u ob Hc) (c1 : Hc st.heap)
    (hq : ∀ h2, IsEnum h2 (st.heap.objs.size + 1) st.heap.objs.size 0 .none → h2.get? st.heap.objs.size = some ob → h2.objs.size = st.heap.objs.size + 2 →
      (∀ b x, st.heap.get? b = some x → h2.get? b = some x) → Q (.ref (st.heap.objs.size + 1)) { st with heap := h2 }) :
    wpAny (model P w) A (call (.type "enumerate") [u]) Q E st := by
  refine callType_new F.called_enumerate (by decide) (F.typeCall_enumerate_1 _) (F.newCall_enumerate_1 _) (fun z => F.args_object_init_2 z _) F.entry_enumerate_new (enum_new1 Bg) ⟨c1, ?_⟩
  have sz : (st.heap.push ob).objs.size = st.heap.objs.size + 1 := Heap.size_push ..
  show _ ∧ _
  rw [sz]
  have ise : IsEnum ((st.heap.push ob).push { cls := .type "enumerate", data := .fields #[.none, .bool false, .ref st.heap.objs.size, rawInt 0, .none, .none] }) (st.heap.objs.size + 1) st.heap.objs.size 0 .none := by
    have z := Heap.get?_push_size (st.heap.push ob) (o := { cls := .type "enumerate", data := .fields #[.none, .bool false, .ref st.heap.objs.size, rawInt 0, .none, .none] }) rfl
    rw [sz] at z; exact z
  exact ⟨⟨_, ise, rfl⟩, hq _ ise (Heap.get?_push_of_some _ (Heap.get?_push_size _ Bg.free)) (by rw [Heap.size_push, sz]) fun b x y => Heap.get?_push_of_some _ (Heap.get?_push_of_some _ y)⟩
def Itet (K : PySem.W.Frag) (a : Addr) : It :=
  ⟨fun i H => ∃ (ys : List V) (y : V), SqT K H a ys ∧ ys[i]? = some y, fun i H v H' => ∃ T y, v = .ref T ∧ H T = none ∧ H' = upd H T (.tup [.int (i : Nat), y]) ∧ ∀ ys, SqT K H a ys → ys[i]? = some y, fun i H => ∃ ys : List V, SqT K H a ys ∧ ys.length ≤ i⟩
theorem turn_enumT {P : Program} {w : World} {K : PySem.W.Frag} {elts : List Expr} {kk : Nat} {tpos : Pos} (a e it : Addr) :
    Turn P w K (.Tuple elts kk tpos) (Itet K a) [e, it] e (fun i h => (∃ old, IsEnum h e it ((i : Nat) : Int) old) ∧ h.IsTupleIter it a i ∧ e ≠ it ∧ e ≠ a ∧ a ≠ it) where
  mem := by simp
  obj := fun i h st b hb => by
    obtain ⟨⟨old, he⟩, ⟨o, ho, hc, hd⟩, _⟩ := st
    have e' : b = e ∨ b = it := by simpa using hb
    rcases e' with z | z
    · rw [z]; exact ⟨_, he, fun _ q => nomatch q⟩
    · rw [z]; exact ⟨o, ho, fun _ q => by rw [hd] at q; cases q⟩
  keep := fun i h h' st k => let ⟨⟨old, he⟩, hi, hne⟩ := st; ⟨⟨old, k e (by simp) _ he⟩, hi.at fun o q => k it (by simp) o q, hne⟩
  item := by
    intro X hP hw hK hc i pins s σ H E I hf st hg
    subst hP hw hK
    obtain ⟨⟨old, he⟩, hit, hne, hea, hai⟩ := st
    obtain ⟨ys, y, hq, hy⟩ := hg
    obtain ⟨its, rv, p, hz⟩ := I.tuple hq
    obtain ⟨u, hu, ru⟩ := rv.get hy
    have hel : e < s.heap.objs.size := Heap.lt_size he
    have hil : it < s.heap.objs.size := by obtain ⟨_, q, _⟩ := hit; exact Heap.lt_size q
    have hi : i < its.toArray.size := by
      have := (List.getElem?_eq_some_iff.mp hu).1
      simpa using this
    refine wpAny_pyNext_enum_itemD (Draws.tuple (A := X.A.in1) (I.ok.hd hc) it a hai its.toArray) he ⟨hit, p⟩ hi hne (by simp [hne, hea]) fun x h' tk hx ho hst hT hsz hk => ?_
    have ex : x = u := by
      have : its[i]? = some x := by simpa using hx
      exact Option.some.inj (this.symm.trans hu)
    subst ex
    refine ⟨_, rfl, wpAny_letOwnedTupleGo_enum (s := { s with heap := h', toks := tk + 1 }) ho fun h'' he' sb => ?_⟩
    have hT2 : h''.get? s.heap.objs.size = some { cls := .type "tuple", data := .seq #[.int i tk, x] } := (sb.2 _ (Nat.ne_of_gt hel)).trans hT
    have new : ObjOk X.prog X.w (upd H s.heap.objs.size (.tup [.int (i : Nat), y])) h'' s.heap.objs.size (.tup [.int (i : Nat), y]) :=
      ⟨by show 2 ≤ sizeLine; decide, [.int i tk, x], .cons ⟨_, rfl⟩ (.cons ru .nil), ⟨_, hT2, rfl, _, rfl⟩⟩
    have I1 : Inv X pins σ (upd H s.heap.objs.size (.tup [.int (i : Nat), y])) { s with heap := h'', toks := tk + 1 } :=
      I.turnedNew (ch := [e, it]) (fun b o2 hb q => (sb.2 b (fun z => hb (by simp [z]))).trans (hk b o2 (fun z => hb (by simp [z])) (fun z => hb (by simp [z])) q)) hf (Nat.le_refl _) new
    refine ⟨.ref s.heap.objs.size, _, I1, rfl, ⟨_, y, rfl, I.hok.fresh (Nat.le_refl _), rfl, fun zs hz => by rw [I.tuple_inj hz hq]; exact hy⟩, ⟨⟨x, ?_⟩, hst.1.at fun o q => (sb.2 it (Ne.symm hne)).trans q, hne, hea, hai⟩, fun b hb => ?_⟩
    · have e1 : ((i + 1 : Nat) : Int) = (i : Int) + 1 := by omega
      rw [e1]; exact he'
    · have hb' : b < s.heap.objs.size := by
        have e' : b = e ∨ b = it := by simpa using hb
        rcases e' with z | z
        · rw [z]; exact hel
        · rw [z]; exact hil
      rw [upd_ne (Nat.ne_of_lt hb')]
      exact (hf b hb).1
  done := by
    intro X hP hw hK hc i pins s σ H E I hf st hg
    subst hP hw hK
    obtain ⟨⟨old, he⟩, hit, hne, hea, hai⟩ := st
    obtain ⟨ys, hq, hy⟩ := hg
    obtain ⟨its, rv, p, hz⟩ := I.tuple hq
    obtain ⟨f0, f1, f2, f3, f4, f5⟩ := hf it (by simp)
    have hl := rv.length
    have Dn : Draws X.prog X.w X.A.in1 it [it, a] i (fun _ _ => True) (fun j h => j = i ∧ h.IsTupleIter it a i ∧ h.IsTuple a its.toArray) :=
      { live := fun _ _ z => let ⟨o, ho, _⟩ := z.2.1; ⟨o, ho⟩
        frame := fun _ _ _ z hk => ⟨z.1, z.2.1.at fun o q => hk it (by simp) o q, z.2.2.at fun o q => hk a (by simp) o q⟩
        item := fun j s Q E hj z hQ => absurd z.1 (Nat.ne_of_lt hj)
        done := fun s Q E z hE => wpAny_nextOf_tuple_end (I.ok.hd hc) z.2.1 z.2.2 (by simp; omega) hE }
    exact wpAny_pyNext_enum_endD Dn he ⟨rfl, hit, p⟩ fun h' eb => ⟨rfl, I.turned (t' := s.toks) (fun b o hb q => eb b o hb q) f0 f1 f3 f4 f5⟩
  self := fun A i s Q E st h => let ⟨⟨_, he⟩, _⟩ := st; wpAny_pyIter_enum he h
variable [Tabl]
section
variable {X : Cx} {W : WX} {L : Nat → Prop} {cf : CF} {e a tg : Expr} {pos p : Pos} {ia : IE}
def iEn (K : PySem.W.Frag) (ta : TA) : TI := fun σ H R => ta σ H fun vs H1 => (∃ a, vs = [.ref a] ∧ (∃ xs, SqL K H1 a xs) ∧ R (Ite K a) H1) ∨ ∃ a, vs = [.ref a] ∧ (∃ xs, SqT K H1 a xs) ∧ R (Itet K a) H1
theorem pi_en {ta : TA} {tpos : Pos} {elts : List Expr} {kk : Nat} {x : Str} (hx : x = "enumerate") (hg : Gl X x) (hm : X.mg x = none) (ha : PA X [e] ta) (hs : starEach [e] X.env = [(false, eval e X.env)]) :
    PI X (.Tuple elts kk tpos) (.Call (.Name x p) [e] [] pos) (iEn X.K ta) := by
  subst hx
  refine ⟨fun pins s σ H R I h => ?_⟩
  refine Call_ (ld_blt I hg hm boot_enumerate (PyProof.Rows.callWith_type1 (thn (ha.run pos pins s σ H _ I h) fun us s1 ⟨vs, H1, I1, r1, q1⟩ => ?_) hs rfl))
  rcases q1 with ⟨a, ex, ⟨xs, hq⟩, q⟩ | ⟨a, ex, ⟨xs, hq⟩, q⟩
  · subst ex
    cases r1 with
    | cons r rr =>
    cases rr
    cases r
    obtain ⟨its, rv, p', hz⟩ := I1.list hq
    refine call_enum1 (begins_list a its.toArray) p'.isList fun h' he hit hsz hk => wpAny_pyIter_enum he ?_
    have I2 : Inv X pins σ H1 { s1 with heap := h' } := I1.kept (t' := s1.toks) hk
    refine ⟨s1.heap.objs.size + 1, [s1.heap.objs.size + 1, s1.heap.objs.size], _, _, H1, rfl, I2, turn_enum a (s1.heap.objs.size + 1) s1.heap.objs.size, ⟨⟨.none, he⟩, ⟨_, hit, rfl, rfl⟩, Nat.succ_ne_self _⟩, fun b hb => ?_, q⟩
    have e' : b = s1.heap.objs.size + 1 ∨ b = s1.heap.objs.size := by simpa using hb
    have hle : s1.heap.objs.size ≤ b := by
      rcases e' with z | z
      · rw [z]; exact Nat.le_succ _
      · rw [z]; exact Nat.le_refl _
    exact I1.fpOk hle (I1.hok.fresh hle)
  · subst ex
    cases r1 with
    | cons r rr =>
    cases rr
    cases r
    obtain ⟨its, rv, p', hz⟩ := I1.tuple hq
    have hal : a < s1.heap.objs.size := by obtain ⟨_, q, _⟩ := (show s1.heap.IsTuple a its.toArray from p'); exact Heap.lt_size q
    refine call_enum1 (begins_tuple a its.toArray) p' fun h' he hit hsz hk => wpAny_pyIter_enum he ?_
    have I2 : Inv X pins σ H1 { s1 with heap := h' } := I1.kept (t' := s1.toks) hk
    refine ⟨s1.heap.objs.size + 1, [s1.heap.objs.size + 1, s1.heap.objs.size], _, _, H1, rfl, I2, turn_enumT a (s1.heap.objs.size + 1) s1.heap.objs.size, ⟨⟨.none, he⟩, ⟨_, hit, rfl, rfl⟩, Nat.succ_ne_self _, fun z => absurd hal (by rw [← z]; exact Nat.not_lt_of_le (Nat.le_succ _)), Nat.ne_of_lt hal⟩, fun b hb => ?_, q⟩
    have e' : b = s1.heap.objs.size + 1 ∨ b = s1.heap.objs.size := by simpa using hb
    have hle : s1.heap.objs.size ≤ b := by
      rcases e' with z | z
      · rw [z]; exact Nat.le_succ _
      · rw [z]; exact Nat.le_refl _
    exact I1.fpOk hle (I1.hok.fresh hle)
theorem numbered_get : ∀ (ys : List D) (n i : Nat), (numbered n ys)[i]? = ys[i]?.map fun y => .tuple [.int ((n + i : Nat) : Int), y]
  | [], _, _ => rfl
  | y :: ys, n, 0 => rfl
  | y :: ys, n, i + 1 => by
    show (numbered (n + 1) ys)[i]? = _
    rw [numbered_get ys (n + 1) i]
    show _ = (ys[i]?).map _
    have e : n + 1 + i = n + (i + 1) := by omega
    rw [e]
theorem numbered_len : ∀ (ys : List D) (n : Nat), (numbered n ys).length = ys.length
  | [], _ => rfl
  | y :: ys, n => congrArg (· + 1) (numbered_len ys (n + 1))
theorem wk_new {K : PySem.W.Frag} {Fz F' H' : Hp} {T : Addr} {v : V} {d : D} {i : Nat} (g1 : Same Fz F') (hT : H' T = none) (hv : Rp K Fz v d) (hz : F' T = none) :
    ∃ F2, Same F' F2 ∧ Same H' (upd H' T (.tup [.int (i : Nat), v])) ∧ (∀ fx σ s φ, Rel K fx F' σ H' s φ → Rel K fx F2 σ (upd H' T (.tup [.int (i : Nat), v])) s φ ∧ ∀ L, Go L F' H' s φ F2 (upd H' T (.tup [.int (i : Nat), v])) s φ) ∧ Rp K F2 (.ref T) (.tuple [.int ((0 + i : Nat) : Int), d]) := by
  have e : ((0 + i : Nat) : Int) = ((i : Nat) : Int) := by omega
  have s1 : Same F' (upd F' T (.tup [.int (i : Nat), v])) := same_upd hz
  refine ⟨upd F' T (.tup [.int (i : Nat), v]), s1, same_upd hT, fun fx σ s φ rl => ⟨(rl.lay (L := fun _ => True) hT).2, fun L => (rl.lay hT).1⟩, ?_⟩
  rw [e]
  exact .tup (.inl (.inl upd_same)) (.cons (.int _) (.cons ((hv.mono g1).mono s1) .nil))
theorem wk_enL {K : PySem.W.Frag} {Fz : Hp} {a : Addr} {vs : List V} {ys : List D} (h : Fz a = some (.lst vs)) (r : Rps K Fz vs ys) : Wk K Fz (Ite K a) (numbered 0 ys) := fun F' H' g1 g2 i => by
  have hs : SqL K H' a vs := SqL.of (g2 _ _ (g1 _ _ h))
  rw [numbered_get, numbered_len]
  refine ⟨fun d hd => ?_, fun hi => ⟨vs, hs, by rw [r.length]; exact hi⟩⟩
  rw [Option.map_eq_some_iff] at hd
  obtain ⟨y, hy, rfl⟩ := hd
  obtain ⟨v, h1, h2⟩ := r.get hy
  refine ⟨⟨vs, v, hs, h1⟩, fun x H'' hx => ?_⟩
  obtain ⟨T, u, rfl, hT, rfl, hu⟩ := hx
  have := (hu vs hs).symm.trans h1
  cases this
  exact wk_new g1 hT h2 (by
    cases q : F' T with
    | none => rfl
    | some o => have z := g2 _ _ q; rw [hT] at z; cases z)
theorem wk_enT {K : PySem.W.Frag} {Fz : Hp} {a : Addr} {vs : List V} {ys : List D} (h : SqT K Fz a vs) (r : Rps K Fz vs ys) : Wk K Fz (Itet K a) (numbered 0 ys) := fun F' H' g1 g2 i => by
  have hs : SqT K H' a vs := sqT_mono g2 (sqT_mono g1 h)
  rw [numbered_get, numbered_len]
  refine ⟨fun d hd => ?_, fun hi => ⟨vs, hs, by rw [r.length]; exact hi⟩⟩
  rw [Option.map_eq_some_iff] at hd
  obtain ⟨y, hy, rfl⟩ := hd
  obtain ⟨v, h1, h2⟩ := r.get hy
  refine ⟨⟨vs, v, hs, h1⟩, fun x H'' hx => ?_⟩
  obtain ⟨T, u, rfl, hT, rfl, hu⟩ := hx
  have := (hu vs hs).symm.trans h1
  cases this
  exact wk_new g1 hT h2 (by
    cases q : F' T with
    | none => rfl
    | some o => have z := g2 _ _ q; rw [hT] at z; cases z)
theorem itD_en {ds ys : List D} (h : itD .enum ds = some ys) : ∃ zs, ys = numbered 0 zs ∧ (ds = [.list zs] ∨ ds = [.tuple zs]) := by
  have h : (itSeq ds).map (numbered 0) = some ys := h
  rw [Option.map_eq_some_iff] at h
  obtain ⟨zs, h1, rfl⟩ := h
  refine ⟨zs, rfl, ?_⟩
  unfold itSeq at h1
  split at h1
  · split at h1
    · cases h1; exact .inl rfl
    · cases h1
  · split at h1
    · cases h1; exact .inr rfl
    · cases h1
  · cases h1
theorem pxi_enum {x : Str} {tpos : Pos} {elts : List Expr} {kk : Nat} (hx : x = "enumerate") (hg : Gl X x) (hm : X.mg x = none) (ha : PXA X W L [a] (ev cf ia)) (hs : starEach [a] X.env = [(false, eval a X.env)]) : PXI X W L (.Tuple elts kk tpos) (.Call (.Name x p) [a] [] pos) (itM .enum (ev cf ia)) := by
  refine PI.imp (pi_en hx hg hm ha hs) fun σ H Rr q => itM_arg q fun fx Fz H s φ xs ds ys rl rp e k => ?_
  obtain ⟨zs, rfl, rfl | rfl⟩ := itD_en e
  · cases rp with
    | cons h t =>
      cases t
      cases h with
      | lst h1 h2 => exact .inl ⟨_, rfl, ⟨_, SqL.of (rl.sub _ _ h1)⟩, k _ (wk_enL h1 h2)⟩
  · cases rp with
    | cons h t =>
      cases t
      cases h with
      | tup h1 h2 => exact .inr ⟨_, rfl, ⟨_, sqT_mono rl.sub h1⟩, k _ (wk_enT h1 h2)⟩
end
end VL
set_option maxHeartbeats 2000000
namespace VL
open PySem PySem.Spec PyProof.Rows L2
structure Air (X : Cx) (L0 : Addr) (W : WX) (a : Addr) (s' : Shared) : Prop where
  ex : ∃ (B : Heap) (sI : Shared) (pl : List (Addr × Obj)) (σ : L2.St) (H : Hp) (cls : Value) (d : Option Addr), W cls d σ H ∧ H a = none ∧ Inv X pl σ H sI ∧
    (∀ b o, b ∉ frs X.stack → sI.heap.get? b = some o → B.get? b = some o) ∧ Sky B X.stack a (L2N.Zn cls d) L0 s'.heap ∧ sI.heap.UpToSlots s'.heap ∧ AllBare s'.gens ∧ s'.os = sI.os
structure Tk (X : Cx) (W : WX) : Prop where
  ex : ∃ (L0 : Addr) (E0 : Env) (o0 : List Env), X.env.frame = some L0 ∧ X.stack = E0 :: o0 ∧ E0.frame = some L0 ∧ ∀ a s', Air X L0 W a s' → X.xe (.ref a) s'
theorem Tk.of {X : Cx} {W : WX} (t : L2N.Takes X W) (hs : X.stack = X.env :: X.outer) (hf : X.env.frame = some X.env.locals) : Tk X W :=
  ⟨_, _, _, hf, hs, hf, fun a s' ⟨B, sI, pl, σ, H, cls, d, w, n, I, nb, sk, up, g, o⟩ => t _ _ ⟨a, B, sI, pl, σ, H, cls, d, rfl, I, fun b o e hb => nb b o hb e, up, sk, n, o, g, w⟩⟩
theorem Air.call {X : Cx} {L0 : Addr} {W : WX} {pl : List (Addr × Obj)} {σ : L2.St} {H : Hp} {s s' : Shared} {E : XK} {u : Value} (I : Inv X pl σ H s) (c : L2N.CX X.prog X.w X.stack H s E u s') (hW : ∀ cls d H', E cls d H' → W cls d σ H') : ∃ a, u = .ref a ∧ Air X L0 W a s' := by
  obtain ⟨a, B, H', cls, d, hu, fl, hok, ub, na, os, ag, hE⟩ := c
  refine ⟨a, hu, ?_⟩
  -- the state's heap: the ground and the frames
  obtain ⟨G, hG, hN⟩ := restrict s'.heap fun b => decide (b ∈ frs X.stack) || (B.get? b).isSome
  have ground : ∀ b o, B.get? b = some o → G.get? b = some o := fun b o e => (hG b (by simp [e])).trans (fl.1 b o e)
  have frame : ∀ b ∈ frs X.stack, G.get? b = s'.heap.get? b := fun b hb => hG b (by simp [hb])
  have only : ∀ b o, G.get? b = some o → s'.heap.get? b = some o := fun b o e => by
    cases q : (decide (b ∈ frs X.stack) || (B.get? b).isSome) with
    | true => rw [← hG b q]; exact e
    | false => rw [hN b q] at e; cases e
  have J : Inv X pl σ H' { s with heap := G, gens := s'.gens, drawn := s'.drawn, toks := s'.toks } := by
    refine I.call (ch := []) ⟨fun b o e n hb _ => ground b o (ub.keep b o e n hb), fun b o e n hb _ => ?_, fun b o e n _ => ub.free b o e n, fun b o e _ => ?_, ub.tups, ub.frzs, ub.tbls⟩ (hok.kept ground) ag fun _ z => nomatch z
    · rw [frame b hb]; exact ub.slot b o e hb
    · by_cases hb : b ∈ frs X.stack
      · obtain ⟨sl, q⟩ := ub.slot b o e hb
        exact ⟨_, (frame b hb).trans q⟩
      · obtain ⟨o', q⟩ := ub.there b o e hb
        exact ⟨o', ground b o' q⟩
  refine ⟨B, _, pl, σ, H', cls, d, hW _ _ _ hE, na, J, fun b o hb e => ?_, .inr (.inl fl), Heap.UpToSlots.of_keeps only, ag, os⟩
  have e' : G.get? b = some o := e
  cases q : B.get? b with
  | none =>
    have z := hN b (by simp [hb, q])
    rw [e'] at z; cases z
  | some o' =>
    have z := ground b o' q
    rw [e'] at z; cases z; rfl
theorem Tk.pass {X : Cx} {W : WX} (t : Tk X W) (σ : L2.St) : PassesAt (L2N.CX X.prog X.w) X σ (WE W σ) := fun pl H s u s' I c => by
  obtain ⟨L0, E0, o0, h1, h2, h3, h4⟩ := t.ex
  obtain ⟨a, rfl, x⟩ := Air.call (L0 := L0) I c (fun _ _ _ h => h)
  exact h4 a s' x
theorem note_same {e : Value} {env env' : Env} (h : env.frame = env'.frame) : noteFrame e env = noteFrame e env' := by
  unfold noteFrame PySem.frameOf
  rw [h]
section
variable {M : Model} {A : Around} {E : Value → Shared → Prop} {s : Shared} {B : Heap} {env E0 : Env} {o0 : List Env} {L0 a : Addr} {cls : Value} {d : Option Addr}
theorem sky_note {Q : Unit → Shared → Prop} (hA : A.frames = some (E0 :: o0)) (h0 : E0.frame = some L0) (he : env.frame = some L0) (x : Sky B (E0 :: o0) a (L2N.Zn cls d) L0 s.heap)
    (h : ∀ h', HandSPX.HeldZ B (E0 :: o0) a (L2N.Zn cls d) L0 h' → s.heap.UpToSlots h' → Q () { s with heap := h' }) : wpAny M A (noteFrame (.ref a) env) Q E s := by
  rw [note_same (env' := E0) (he.trans h0.symm)]
  rcases x with ⟨k1, k2, k3, oe, vs, k4, k5, k6, k7⟩ | fl | hd
  · exact PXN.look_newZ L2N.Zn.steady hA k3 h0 k4 k1 k2 k6 k7 k5 h
  · exact PXN.looks_onZ L2N.Zn.steady hA h0 fl h
  · exact HandSPX.againZ h0 hd.2.2.2 (h s.heap hd (Heap.UpToSlots.refl _))
theorem held_passOn {α : Type} {w : String} {Q : α → Shared → Prop} {l : List Env} {Z : Obj → Prop} (he : env.frame = some L0) (x : HandSPX.HeldZ B l a Z L0 s.heap)
    (h : ∀ h', HandSPX.HeldZ B l a Z L0 h' → s.heap.UpToSlots h' → E (.ref a) { s with heap := h' }) : wpAny M A (passOn w (.ref a) env : Sem α) Q E s := by
  obtain ⟨k1, k2, k3, k4⟩ := x
  have k4' := k4
  obtain ⟨oe, vs, T, oT, ts, m1, m2, m3, m4, m5⟩ := k4'
  unfold PySem.passOn
  refine wpAny_bind (wpAny_field m1 m3 m4 ?_)
  rw [if_neg (by simp)]
  rw [he]
  refine wpAny_bind (HandSPX.setFlight_anyZ (fr := some L0) k1 k3 k4 fun h' n1 n2 n3 n4 => ?_)
  exact wpAny_throw (h h' ⟨n1, k2, n2, n3⟩ n4)
theorem held_less {l : List Env} {Z : Obj → Prop} {C : Addr} {h h' : Heap} (x : HandSPX.HeldZ B l a Z L0 h) (hC : ∃ o, B.get? C = some o) (hs : Heap.SameBut C h h') : HandSPX.HeldZ (PySem.W.hideAll B [C]) l a Z L0 h' := by
  obtain ⟨k1, k2, k3, oe, vs, T, oT, ts, m1, m2, m3, m4, m5, m6, m7, m8, m9⟩ := x
  obtain ⟨oC, eC⟩ := hC
  have ne : ∀ b, B.get? b = none → b ≠ C := fun b hb z => by rw [z, eC] at hb; cases hb
  have less : ∀ b, B.get? b = none → (PySem.W.hideAll B [C]).get? b = none := fun b hb => by
    cases q : (PySem.W.hideAll B [C]).get? b with
    | none => rfl
    | some o => rw [PySem.W.of_hideAll _ q] at hb; cases hb
  have fr : ∀ (l : List Env), h.FunFrames B l → h'.FunFrames (PySem.W.hideAll B [C]) l := by
    intro l
    induction l with
    | nil => intro _; exact True.intro
    | cons env r ih =>
      rintro ⟨z1, ⟨L, o, z2, z3, z4, z5⟩, z6⟩
      exact ⟨z1, ⟨L, o, z2, less L z3, (hs.2 L (ne L z3)).trans z4, z5⟩, ih z6⟩
  refine ⟨fun b o e => ?_, less a k2, fr l k3, oe, vs, T, oT, ts, (hs.2 a (ne a k2)).trans m1, m2, m3, m4, less T m5, m6, (hs.2 T (ne T m5)).trans m7, m8, m9⟩
  have hb : b ≠ C := fun z => by rw [z, PySem.W.hideAll_none [C] List.mem_cons_self] at e; cases e
  exact (hs.2 b hb).trans (k1 b o (PySem.W.of_hideAll _ e))
theorem comp_run {e : Expr} {scope : Scope} {env : Env} {pos : Pos} {acc0 first : Sem Value} {g : Comprehension} {gs : List Comprehension} {cl : List (Str × Addr)} {use : Option (Value → Sem Unit)} {Q : Value → Shared → Prop}
    (hg : clausesOf e = g :: gs) (hset : ∀ x, foldedSetIterable g.iter env x = pure x) (hcl : closureFor scope env = pure cl) (hk : scope.kind = .function) (hl : ∀ x ∈ scope.names, x.2 = .local → scope.names.lookup x.1 = some .local)
    (h : wpAny M A first (fun x s1 => wpAny M A (pyIter x) (fun it s2 => wpAny M A acc0 (fun acc s3 => wpAny M A (newFunctionEnv scope env.globals cl [] env.qual none .none (some env)) (fun ce s4 =>
      codeAny M A (.compStart e 0 it acc { ce with scope := relabel scope env }) (fun r s5 => match r with
        | .ok _ => compPost M A E use Q acc ce.locals (.ok .next) s5
        | .error x => ∃ m, s5.heap.Ns ce.locals m ∧ ∀ h', Heap.SameBut ce.locals s5.heap h' → wpAny M A (passOn "comprehension.variables-let-go" x { ce with scope := relabel scope env } : Sem Value) (fun _ _ => False) E { s5 with heap := h' }) s4) E s3) E s2) E s1) E s) :
    wpAny M A (comprehension e scope env pos acc0 false first use) Q E s := by
  have up {α : Type} {t : Sem α} {R R' : α → Shared → Prop} {s : Shared} (x : wpAny M A t R E s) (y : ∀ b s', R b s' → R' b s') : wpAny M A t R' E s := wpAny_mono x y fun _ _ z => z
  unfold comprehension
  rw [hg, hcl]
  refine wpAny_bind (up h fun x s1 h1 => wpAny_bind (wpAny_standAt ?_))
  refine wpAny_bind (wpAny_of_eq (hset x) (wpAny_bind (wpAny_holding (up h1 fun it s2 h2 => wpAny_standIf ?_))))
  refine wpAny_bind (up h2 fun acc s3 h3 => wpAny_bind (wpAny_pure (wpAny_bind (up h3 fun ce s4 h4 => ?_))))
  dsimp only
  have mine : ∀ (vs : List (Str × NameKind)), (∀ x ∈ vs, x ∈ scope.names) → ∀ x ∈ vs, x.2 = .local → Env.kindOf { ce with scope := relabel scope env } x.1 = some .local := fun vs hv x hx hx2 => lookup_relabel_local (hl x (hv x hx) hx2)
  refine wpAny_holding (wpAny_bind (wpAny_attempt (wpAny_holding (wpAny_run (codeAny_mono h4 fun r s5 hr => ?_)))))
  have rev : ∀ x ∈ (scope.names.filter fun x => (x.2 == .local || x.2 == .cell) && x.1 != (".0" : Str)).reverse, x ∈ scope.names := fun x hx => (List.mem_filter.mp (List.mem_reverse.mp hx)).1
  cases r with
  | error x =>
    obtain ⟨m, n1, n2⟩ := hr
    refine wpAny_bind (wpAny_holding (wpAny_comp_letGo (cenv := { ce with scope := relabel scope env }) hk _ s5 m (mine _ rev) n1 fun h' m' _ sb => ?_))
    exact wpAny_mono (n2 h' sb) (fun _ _ f => f.elim) fun _ _ y => y
  | ok f =>
    cases use with
    | none =>
      obtain ⟨m, n1, n2⟩ := hr
      exact wpAny_bind (wpAny_holding (wpAny_comp_letGo (cenv := { ce with scope := relabel scope env }) hk _ s5 m (mine _ rev) n1 fun h' m' _ sb => wpAny_pure (n2 h' sb)))
    | some u =>
      refine wpAny_bind (wpAny_rule (wpAny_bind (wpAny_holding (up hr fun _ s6 ⟨m, n1, n2⟩ => ?_))))
      refine wpAny_bind (wpAny_comp_letGo (cenv := { ce with scope := relabel scope env }) hk _ s6 m (mine _ fun x hx => ?_) n1 fun h' m' _ sb => wpAny_pure (n2 h' sb))
      rcases List.mem_append.mp hx with z | z
      · exact rev x (List.mem_of_mem_drop z)
      · exact rev x (List.mem_of_mem_take z)
end
end VL
set_option maxHeartbeats 2000000
namespace VL
open PySem PySem.Spec PyProof.Rows L2
abbrev Wo (W : WX) (σ : L2.St) : WX := fun cls d _ H => W cls d σ H
def lost (X : Cx) (ce : Env) (x : Value) (s5 : Shared) : Prop := ∃ m, s5.heap.Ns ce.locals m ∧ ∀ h', Heap.SameBut ce.locals s5.heap h' → wpAny (model X.prog X.w) X.A (PySem.passOn "comprehension.variables-let-go" x ce : Sem Value) (fun _ _ => False) X.xe { s5 with heap := h' }
section
variable {X : Cx} {W : WX} {pl : List (Addr × Obj)} {σ : L2.St} {H3 : Hp} {s3 : Shared} {scope : Scope} {ce : Env} {fp : List Addr}
theorem tk_blk {R : Result → Shared → Prop} (tk : Tk X W) (I : Inv X pl σ H3 s3) (hfp : ∀ b ∈ fp, FpOk X pl H3 b) (hf : ce.frame = X.env.frame) (hC : ce.locals = s3.heap.objs.size) (hR : ∀ x s5, lost X ce x s5 → R (.error x) s5) :
    Tk ((X.blk s3 H3 scope ce fp).wish (notedBy (model X.prog X.w) X.A ce fun e s' => R (.error e) s')) (Wo W σ) := by
  obtain ⟨L0, E0, o0, k1, k2, k3, k4⟩ := tk.ex
  refine ⟨L0, E0, o0, hf.trans k1, k2, k3, fun a s' ⟨B, sI, pb, σb, Hb, cls, d, w, na, Ib, nb, sk, up, ag, os⟩ => ?_⟩
  have sk : Sky B X.stack a (L2N.Zn cls d) L0 s'.heap := sk
  have hA : X.A.frames = some (E0 :: o0) := by rw [← k2]; exact I.ok.frames
  rw [k2] at sk
  refine sky_note hA k3 (hf.trans k1) sk fun h1 held up1 => hR _ _ ?_
  obtain ⟨m, hn, _⟩ := Ib.loc
  have hn : sI.heap.Ns ce.locals m := hn
  have hCn : Hb ce.locals = none := Ib.free
  have nC : ∀ b o, s3.heap.get? b = some o → b ≠ ce.locals := fun b o e z => by
    rw [z, hC] at e
    exact Nat.lt_irrefl _ (Heap.lt_size e)
  have nFr : ce.locals ∉ frs X.stack := fun z => by
    rcases List.mem_cons.mp (I.stkSub _ z) with q | q
    · have := I.lt
      rw [← q, hC] at this
      exact Nat.lt_irrefl _ this
    · exact I.nofs (Nat.le_of_eq hC.symm) q
  have gC : ∃ o, B.get? ce.locals = some o := by
    obtain ⟨o, es, ep, ho, _⟩ := hn
    exact ⟨o, nb _ o nFr ho⟩
  refine ⟨m, up1.ns (up.ns hn), fun h2 sb => ?_⟩
  rw [← k2] at held
  refine held_passOn (hf.trans k1) (held_less held gC sb) fun h4 held4 up4 => k4 a _ ?_
  have hide : ∀ b o, b ≠ ce.locals → sI.heap.get? b = some o → (PySem.W.hideAll sI.heap [ce.locals]).get? b = some o := fun b o hb e => PySem.W.hideAll_get _ e (by simpa using hb)
  have ub : Un (frs X.stack) fp H3 Hb s3.heap sI.heap := Ib.base
  have J : Inv X pl σ Hb { sI with heap := PySem.W.hideAll sI.heap [ce.locals] } := by
    refine I.call' (ch := fp) Ib.os ⟨fun b o e n h1 h2 => hide b o (nC b o e) (ub.keep b o e n h1 h2), fun b o e n h1 h2 => ?_, ub.free, fun b o e h2 => ?_, ub.tups, ub.frzs, ub.tbls⟩ (fun b o e => ?_) Ib.bare fun b hb => ?_
    · obtain ⟨sl, q⟩ := ub.slot b o e n h1 h2
      exact ⟨sl, hide b _ (nC b o e) q⟩
    · obtain ⟨o', q⟩ := ub.there b o e h2
      exact ⟨o', hide b o' (nC b o e) q⟩
    · refine (Ib.hok b o e).stay (fun c u hc q => hide c u (fun z => ?_) q) (fun _ q => q) fun _ _ q => q
      rcases hc with hc | hc
      · rw [← hc, z, hCn] at e; cases e
      · rw [z, hCn] at hc; cases hc
    · obtain ⟨_, z2, _, z4, z5, z6⟩ := hfp b hb
      exact ⟨z4, z2, z5, z6⟩
  have os : s'.os = sI.os := os
  refine ⟨PySem.W.hideAll B [ce.locals], _, pl, σ, Hb, cls, d, w, na, J, fun b o hb e => ?_, .inr (.inr held4), fun b o e hn => ?_, ag, os⟩
  · have hbC : b ≠ ce.locals := fun z => by
      have e : (PySem.W.hideAll sI.heap [ce.locals]).get? b = some o := e
      rw [z, PySem.W.hideAll_none [ce.locals] List.mem_cons_self] at e; cases e
    exact PySem.W.hideAll_get _ (nb b o hb (PySem.W.of_hideAll _ e)) (by simpa using hbC)
  · have hbC : b ≠ ce.locals := fun z => by
      have e : (PySem.W.hideAll sI.heap [ce.locals]).get? b = some o := e
      rw [z, PySem.W.hideAll_none [ce.locals] List.mem_cons_self] at e; cases e
    obtain ⟨sl, q⟩ := up b o (PySem.W.of_hideAll _ e) hn
    obtain ⟨sl2, q2⟩ := up1 b _ q hn
    have q3 : h2.get? b = some { o with slots := sl2 } := (sb.2 b hbC).trans q2
    obtain ⟨sl3, q4⟩ := up4 b { o with slots := sl2 } q3 hn
    exact ⟨sl3, q4⟩
end
def tLcE (wi : TI) (g : TG) (tt : WX → TT) (te : WX → TE) (W : WX) (vs : List Nat) : TE := fun σ H Q => wi σ H fun J H1 => ∀ D, H1 D = none → ∃ Iv : Nat → Nat → Hp → Prop, (∃ n, Iv 0 n (upd H1 D (.lst []))) ∧ ∀ i n H, Iv i n H →
  (J.stop i H ∧ Q (.ref D) H) ∨ (J.go i H ∧ ∀ x H', J.yld i H x H' → g x (wipe σ vs) H' fun σ2 H2 => wipe σ2 vs = wipe σ vs ∧ tt (Wo W σ) σ2 H2 fun b H3 =>
    if b = true then te (Wo W σ) σ2 H3 fun y H4 => ∃ acc, H4 D = some (.lst acc) ∧ acc.length < sizeLine ∧ ∃ n', n' < n ∧ Iv (i + 1) n' (upd H4 D (.lst (acc ++ [y]))) else ∃ n', n' < n ∧ Iv (i + 1) n' H3)
section
variable {X : Cx} {W : WX} {elt tg iter : Expr} {ifs : List Expr} {scope : Scope} {own : List (Str × Nat)} {pos : Pos} {wi : TI} {g : TG} {tt : WX → TT} {te : WX → TE}
def InBlk (X : Cx) (scope : Scope) (P : Cx → WX → Prop) : Prop := ∀ (s : Shared) (H : Hp) (C : Addr) (cl : List (Str × Addr)) (fp : List Addr) (xe : Value → Shared → Prop) (W' : WX), Tk ((X.blk s H scope (compEnvC scope cl C X.env) fp).wish xe) W' → P ((X.blk s H scope (compEnvC scope cl C X.env) fp).wish xe) W'
theorem lcE_core {pl : List (Addr × Obj)} {s : Shared} {σ : L2.St} {H : Hp} {Q : VK} {pos' : Pos} {use : Option (Value → Sem Unit)} {Qf : Value → Shared → Prop}
    (hc : X.calm = true) (hN : X.N.Nodup) (tk : Tk X W) (I : Inv X pl σ H s) (hi : PI X tg iter wi) (ok : BlkOk X.N X.env.scope scope own)
    (hg : InBlk X scope fun Y _ => PG Y tg g) (ht : InBlk X scope fun Y W' => PTs Y ifs (tt W')) (he : InBlk X scope fun Y W' => PE Y elt (te W')) (hset : ∀ x, foldedSetIterable iter X.env x = pure x)
    (h : tLcE wi g tt te W (own.map (·.2)) σ H Q)
    (fin : ∀ D C s' m H', Inv X pl σ H' s' → Q (.ref D) H' → s'.heap.Ns C m → FpOk X pl H' C → compPost (model X.prog X.w) X.A X.xe use Qf (.ref D) C (.ok .next) s') :
    wpAny (model X.prog X.w) X.A (comprehension (.ListComp elt [⟨tg, iter, ifs, 0⟩] scope pos) scope X.env pos' (newList []) false (eval iter X.env) use) Qf X.xe s := by
  have has : ∀ y ∈ scope.names, y.2 = .free → ∃ c, X.env.cells.lookup y.1 = some c := fun y hy e => (ok.free y hy e).elim (fun k => I.ok.has _ (.inl k)) fun k => I.ok.has _ (.inr k)
  refine comp_run rfl hset (closure_ok has) ok.kind (fun y hy e => (ok.uniq y hy).trans (by rw [e])) (thn (hi.run pl s σ H _ I h) fun xv s1 hx => thn hx fun itv s2 h2 => ?_)
  obtain ⟨it, fp, tn, J, H2, rfl, I2, T, st2, f2, q⟩ := h2
  -- the new list at D
  refine wpAny_newObj_type ?_ (by show 0 ≤ sizeLine; decide)
  have nD : H2 s2.heap.objs.size = none := I2.hok.fresh (Nat.le_refl _)
  obtain ⟨Iv, ⟨n0, v0⟩, turn⟩ := q _ nD
  generalize eD : s2.heap.objs.size = D at *
  generalize es3 : ({ s2 with heap := s2.heap.push { cls := .type "list", data := .seq ([] : List Value).toArray } } : Shared) = s3
  have push : ∀ b o, s2.heap.get? b = some o → s3.heap.get? b = some o := fun b o e => by rw [← es3]; exact Heap.get?_push_of_some _ e
  have I3 : Inv X pl σ (upd H2 D (.lst [])) s3 := by
    rw [← es3]
    exact I2.laid (t' := s2.toks) (fun b o e => Heap.get?_push_of_some _ e) (Nat.le_of_eq eD) ⟨Nat.zero_le _, [], 0, .nil, by rw [← eD]; exact Heap.get?_push_size _ rfl⟩
  have old : ∀ b ∈ fp, b ≠ D := fun b hb z => by
    obtain ⟨o, e, _⟩ := T.obj _ _ st2 b hb
    exact Nat.lt_irrefl _ (by have := Heap.lt_size e; rw [z, eD] at this; exact this)
  have f3 : ∀ b ∈ fp, FpOk X pl (upd H2 D (.lst [])) b := fun b hb => ⟨by rw [upd_ne (old b hb)]; exact (f2 b hb).1, (f2 b hb).2⟩
  have st3 : tn 0 s3.heap := T.keep _ _ _ st2 fun b _ o e => push b o e
  have l3 : ∀ b ∈ fp, b < s3.heap.objs.size := fun b hb => by
    obtain ⟨o, e, _⟩ := T.obj _ _ st3 b hb
    exact Heap.lt_size e
  generalize eH3 : upd H2 D (.lst []) = H3 at I3 f3 v0
  -- the block's frame
  refine newEnv_comp ?_
  have I4 := block_start I3 ok hN fun b hb => ⟨f3 b hb, l3 b hb⟩
  let ce := compEnvC scope (cellsFrom (s3.heap.objs.size + 1) scope.names (cloFrom X.env.cells scope.names [])) s3.heap.objs.size X.env
  let R : Result → Shared → Prop := fun r s5 => match r with
    | .ok _ => compPost (model X.prog X.w) X.A X.xe use Qf (.ref D) ce.locals (.ok .next) s5
    | .error x => lost X ce x s5
  let xe := notedBy (model X.prog X.w) X.A ce fun e s' => R (.error e) s'
  let Y := X.blk s3 H3 scope ce fp
  have I4 : Inv Y [] (wipe σ (own.map (·.2))) H3 { s3 with heap := pushCells (s3.heap.push { cls := .type "dict", data := .dict #[] }) scope.names } := I4
  have tkB : Tk (Y.wish xe) (Wo W σ) := tk_blk (R := R) tk I3 f3 rfl rfl fun _ _ z => z
  have pg := hg s3 H3 _ _ fp xe _ tkB
  have pt := ht s3 H3 _ _ fp xe _ tkB
  have pe := he s3 H3 _ _ fp xe _ tkB
  show codeAny _ _ (.compStart (.ListComp elt [⟨tg, iter, ifs, 0⟩] scope pos) 0 (.ref it) (.ref D) ce) R { s3 with heap := pushCells (s3.heap.push { cls := .type "dict", data := .dict #[] }) scope.names }
  generalize es4 : ({ s3 with heap := pushCells (s3.heap.push { cls := .type "dict", data := .dict #[] }) scope.names } : Shared) = s4 at I4 ⊢
  have st4 : tn 0 s4.heap := T.keep _ _ _ st3 fun b _ o e => by rw [← es4]; exact pushCells_keeps _ _ _ _ (Heap.get?_push_of_some _ e)
  have frees : ∀ {σ' : L2.St} {H' : Hp} {s' : Shared}, Inv Y [] σ' H' s' → (∀ b ∈ fp, H' b = none) → ∀ b ∈ fp, FpOk Y [] H' b := fun {σ' H' s'} I' hn b hb =>
    ⟨hn b hb, (I'.ok.exf b hb).1, I'.ok.exfs b hb, .inl hb, (I'.ok.exf b hb).2, fun p hp => by simp [Y] at hp⟩
  have loop : codeAny (model X.prog X.w) X.A (.compLoop (.ListComp elt [⟨tg, iter, ifs, 0⟩] scope pos) 0 (.ref it) (.ref D) ce) R s4 := by
    refine compLoop_any (fun n s' => ∃ i H', Iv i n H' ∧ (∀ b ∈ fp, H' b = none) ∧ tn i s'.heap ∧ Inv Y [] (wipe σ (own.map (·.2))) H' s') ?_ n0 ⟨0, H3, v0, fun b hb => (f3 b hb).1, st4, I4⟩
    rintro n s5 ⟨i, H5, v5, n5, st5, I5⟩
    rcases turn i n H5 v5 with ⟨stop, qq⟩ | ⟨go, step⟩
    · refine thn (T.done Y rfl rfl rfl hc i [] s5 _ H5 xe I5 (frees I5 n5) st5 stop) ?_
      rintro r s6 ⟨rfl, I6⟩
      have I7 : Inv X pl σ H5 s6 := I3.call' (ch := fp) I6.os I6.base I6.hok I6.bare fun b hb => ⟨(f3 b hb).2.2.2.1, (f3 b hb).2.1, (f3 b hb).2.2.2.2.1, (f3 b hb).2.2.2.2.2⟩
      obtain ⟨m, hn, _⟩ := I6.loc
      exact fin D ce.locals s6 m H5 I7 qq hn (I3.fpOk (Nat.le_refl _) I6.free)
    · refine thn (T.item Y rfl rfl rfl hc i [] s5 _ H5 xe I5 (frees I5 n5) st5 go) ?_
      rintro r s6 ⟨u, rfl, h6⟩
      refine thn h6 fun _ s7 ⟨x, H7, I7, r7, y7, st7, n7⟩ => ?_
      have P7 := (I7.pinned (frees I7 n7) (T.obj _ _ st7)).wish xe
      refine thn (pg.run _ s7 _ H7 x u _ P7 r7 (step x H7 y7)) fun _ s8 ⟨σ8, H8, I8, hw, q8⟩ => ?_
      refine thn (pt.run _ s8 σ8 H8 _ I8 q8) fun b s9 ⟨H9, I9, q9⟩ => ?_
      have next : ∀ {s' : Shared} {H' : Hp}, Inv (Y.wish xe) ([] ++ pinsAt fp s7.heap) σ8 H' s' → (∃ n', n' < n ∧ Iv (i + 1) n' H') → ∃ n', n' < n ∧ ∃ i H', Iv i n' H' ∧ (∀ b ∈ fp, H' b = none) ∧ tn i s'.heap ∧ Inv Y [] (wipe σ (own.map (·.2))) H' s' := fun {s' H'} I' ⟨n', lt, v'⟩ => by
        have pinned : ∀ b ∈ fp, ∀ o, s7.heap.get? b = some o → s'.heap.get? b = some o ∧ H' b = none := fun b hb o e => by
          have z := I'.pin (b, o) (List.mem_append_right _ (List.mem_append_right _ (mem_pinsAt hb e)))
          exact ⟨z.1, z.2.1⟩
        refine ⟨n', lt, i + 1, H', v', fun b hb => ?_, T.keep _ _ _ st7 fun b hb o e => (pinned b hb o e).1, ?_⟩
        · obtain ⟨o, e, _⟩ := T.obj _ _ st7 b hb
          exact (pinned b hb o e).2
        · exact (I'.unwish.unpinned (pins := [])).weak (by rw [← hw, wipe_length]) fun j v e => by rw [← hw] at e; exact (wipe_some e).1
      cases b with
      | false => exact next I9 (by simpa using q9)
      | true =>
        have q9 := (show te (Wo W σ) σ8 H9 _ from by simpa using q9)
        refine thn (pe.run _ s9 σ8 H9 _ I9 q9) fun z s10 ⟨yv, H10, I10, r10, acc, hD10, hz10, nx⟩ => ?_
        exact app_ok (X := Y.wish xe) I10 hD10 hz10 r10 fun s11 I11 => next I11 nx
  exact codeAny_compStart_list loop (T.self X.A 0 _ _ _ st4 loop)
theorem pe_lcE (hc : X.calm = true) (hN : X.N.Nodup) (tk : Tk X W) (hi : PI X tg iter wi) (ok : BlkOk X.N X.env.scope scope own) (hg : InBlk X scope fun Y _ => PG Y tg g) (ht : InBlk X scope fun Y W' => PTs Y ifs (tt W')) (he : InBlk X scope fun Y W' => PE Y elt (te W'))
    (hset : ∀ x, foldedSetIterable iter X.env x = pure x) : PE X (.ListComp elt [⟨tg, iter, ifs, 0⟩] scope pos) (tLcE wi g tt te W (own.map (·.2))) := by
  refine ⟨fun pl s σ H Q I h => ?_⟩
  rw [eval_ListComp]
  refine lcE_core hc hN tk I hi ok hg ht he hset h fun D C s' m H' I' q hn f => ⟨m, hn, fun h'' sb => ⟨.ref D, H', ?_, rfl, q⟩⟩
  exact I'.turned (t' := s'.toks) (fun b o hb e => (sb.2 b hb).trans e) f.1 f.2.1 f.2.2.2.1 f.2.2.2.2.1 f.2.2.2.2.2
theorem ps_lcE {i : Nat} {y : Str} {py spos : Pos} (hc : X.calm = true) (hN : X.N.Nodup) (tk : Tk X W) (hy : X.N[i]? = some y) (hyl : X.env.scope.names.lookup y = some .local) (hsw : swapsWith (.ListComp elt [⟨tg, iter, ifs, 0⟩] scope pos) (some (.Name y py)) spos.line X.env = pure true)
    (hi : PI X tg iter wi) (ok : BlkOk X.N X.env.scope scope own) (hg : InBlk X scope fun Y _ => PG Y tg g) (ht : InBlk X scope fun Y W' => PTs Y ifs (tt W')) (he : InBlk X scope fun Y W' => PE Y elt (te W'))
    (hset : ∀ x, foldedSetIterable iter X.env x = pure x) : PS X (.Assign [.Name y py] (.ListComp elt [⟨tg, iter, ifs, 0⟩] scope pos) spos) (tAsg (tLcE wi g tt te W (own.map (·.2))) (gName i)) := by
  refine ⟨fun pl s σ H Dn I h => ?_⟩
  rw [exec_Assign_Name_used _ _ _ _ hsw]
  refine wpAny_bind (wpAny_standAt (wpAny_bind (wpAny_bind (thn (lcE_core (Qf := fun _ s' => SP X pl Dn .next s') (Q := fun x H1 => gName i x σ H1 Dn.nx) hc hN tk I hi ok hg ht he hset h fun L C s' m H' I' q hn f => ?_) fun _ s' hq => wpAny_pure (wpAny_pure hq)))))
  refine wpAny_assign_Name (store_ok2 (v := V.ref L) I' hN hy (.inl hyl) rfl (fun s2 I2 ⟨a, sb, ha⟩ => ?_) (.inr hyl))
  have ne : C ≠ a := by
    rcases ha with z | z
    · rw [z]; exact f.2.1
    · exact fun e => f.2.2.2.2.1 y a z e.symm
  exact ⟨m, hn.sameBut sb ne, fun h3 sb3 => ⟨_, H', I2.turned (t' := s2.toks) (fun b o hb e => (sb3.2 b hb).trans e) f.1 f.2.1 f.2.2.2.1 f.2.2.2.2.1 f.2.2.2.2.2, q⟩⟩
end
end VL
set_option maxHeartbeats 2000000
namespace VL
open PySem PySem.Spec PyProof.Rows L2
variable [Tabl]
section
variable {K : PySem.W.Frag} {fx : Fx} {L : Nat → Prop} {Fz H F0 H0 : Hp} {σ : L2.St} {s s0 : S} {φ φ0 : Nat → List Addr}
theorem Rel.frz : ∀ (is : List Nat) {Fz : Hp} {s : S}, Rel K fx Fz σ H s φ → ∃ Fz', Go L Fz H s φ Fz' H (frzAll is s) φ ∧ Rel K fx Fz' σ H (frzAll is s) φ
  | [], Fz, s, r => ⟨Fz, Go.refl, r⟩
  | i :: is, Fz, s, r => by
    unfold frzAll
    split
    · next xs q =>
      obtain ⟨v, F1, _, g1, r1, _⟩ := r.freezeSlot (L := L) q
      obtain ⟨F2, g2, r2⟩ := Rel.frz is r1
      exact ⟨F2, g1.trans g2, r2⟩
    · exact Rel.frz is r
theorem wipeL_length (s : S) : ∀ vs : List Nat, (wipeL s vs).length = s.length
  | [] => rfl
  | v :: vs => by unfold wipeL; rw [List.length_set, wipeL_length s vs]
theorem wipeL_in {s : S} {i : Nat} : ∀ {vs : List Nat}, i ∈ vs → ∀ x, (wipeL s vs)[i]? ≠ some (some x)
  | v :: vs, h, x, e => by
    unfold wipeL at e
    by_cases hi : v = i
    · subst hi
      by_cases hv : v < (wipeL s vs).length
      · rw [List.getElem?_set_self hv] at e; cases e
      · rw [List.getElem?_eq_none (by simpa using hv)] at e; cases e
    · rw [List.getElem?_set_ne hi] at e
      rcases List.mem_cons.mp h with z | z
      · exact hi z.symm
      · exact wipeL_in z x e
theorem wipeL_out {s : S} {i : Nat} : ∀ {vs : List Nat}, i ∉ vs → (wipeL s vs)[i]? = s[i]?
  | [], _ => rfl
  | v :: vs, h => by
    unfold wipeL
    rw [List.getElem?_set_ne (fun z => h (by rw [z]; exact List.mem_cons_self))]
    exact wipeL_out fun z => h (List.mem_cons_of_mem _ z)
theorem hide_some {s : S} {vs : List Nat} {i : Nat} {x : SV} (h : (hide s vs)[i]? = some (some x)) : i ∉ vs ∧ ∃ y, s[i]? = some (some y) ∧ hideO (some y) = some x := by
  unfold hide at h
  have hi : i ∉ vs := fun z => wipeL_in z x h
  rw [wipeL_out hi, List.getElem?_map] at h
  refine ⟨hi, ?_⟩
  cases e : s[i]? with
  | none => rw [e] at h; cases h
  | some y =>
    rw [e] at h
    cases y with
    | none => cases h
    | some y => exact ⟨y, rfl, Option.some.inj h⟩
theorem hide_ob {s : S} {vs : List Nat} {i : Nat} {w : Bool} {o : Ob} (h : (hide s vs)[i]? = some (some (.ob w o))) : i ∉ vs ∧ w = false ∧ ∃ w', s[i]? = some (some (.ob w' o)) := by
  obtain ⟨h1, y, h2, h3⟩ := hide_some h
  cases y with
  | d _ => cases h3
  | clo _ _ => cases h3
  | ob w' o' => cases h3; exact ⟨h1, rfl, w', h2⟩
theorem hide_of {s : S} {vs : List Nat} {i : Nat} {w : Bool} {o : Ob} (hi : i ∉ vs) (h : s[i]? = some (some (.ob w o))) : (hide s vs)[i]? = some (some (.ob false o)) := by
  unfold hide
  rw [wipeL_out hi, List.getElem?_map, h]; rfl
theorem hide_length (s : S) (vs : List Nat) : (hide s vs).length = s.length := by unfold hide; rw [wipeL_length, List.length_map]
def fxB (σ : L2.St) (H Fz : Hp) (φ : Nat → List Addr) (t : S) : Fx where
  B i := match t[i]? with
    | some (some (.ob _ _)) => φ i
    | _ => []
  R i := match t[i]? with
    | some (some (.ob _ _)) => match σ[i]? with
      | some (some (.ref a)) => some a
      | _ => none
    | _ => none
  H0 := strip H
  F0 := Fz
theorem fxB_B {t : S} {i : Nat} {b : Addr} (h : b ∈ (fxB σ H Fz φ t).B i) : ∃ w o, t[i]? = some (some (.ob w o)) ∧ b ∈ φ i := by
  unfold fxB at h
  dsimp only at h
  split at h
  · next w o e => exact ⟨w, o, e, h⟩
  · simp at h
theorem Rel.block (r : Rel K fx Fz σ H s φ) (vs : List Nat) : Rel K (fxB σ H Fz φ (hide s vs)) Fz (wipe σ vs) H (hide s vs) φ := by
  have slot : ∀ (i : Nat) w o, (hide s vs)[i]? = some (some (.ob w o)) → ∃ a w', s[i]? = some (some (.ob w' o)) ∧ σ[i]? = some (some (.ref a)) ∧ ObOk K Fz H o a (φ i) ∧ i ∉ vs ∧ w = false := fun i w o h => by
    obtain ⟨h1, h2, w', h3⟩ := hide_ob h
    obtain ⟨v, g1, a, rfl, g2⟩ := r.sl i _ h3
    exact ⟨a, w', h3, g1, g2, h1, h2⟩
  refine ⟨r.sub, fun b o q => ⟨o, strip_some q⟩, fun b o q _ => (strip_some q).1, Same.refl _, fun b o _ q => q, fun i x q => ?_, fun i w o q b hb => ?_, fun i j w w' o o' hn q1 q2 => ?_, fun i a q => ?_, ?_, ⟨fun b o q => (strip_some q).2, r.tt.hF, r.tt.tb⟩⟩
  · obtain ⟨hi, y, h1, h2⟩ := hide_some q
    obtain ⟨v, g1, g2⟩ := r.sl i y h1
    refine ⟨v, by rw [wipe_out hi]; exact g1, ?_⟩
    cases y with
    | d y => cases h2; exact g2
    | clo _ _ => cases h2; exact g2
    | ob w o => cases h2; exact g2
  · obtain ⟨a, w', k1, k2, k3, k4, k5⟩ := slot i w o q
    refine ⟨(r.fz i w' o k1 b hb).1, .inr ⟨k5, ?_⟩⟩
    show b ∈ match (hide s vs)[i]? with | some (some (.ob _ _)) => φ i | _ => []
    rw [q]; exact hb
  · obtain ⟨_, w1, k1, _⟩ := slot i w o q1
    obtain ⟨_, w2, k2, _⟩ := slot j w' o' q2
    exact r.dj i j w1 w2 o o' hn k1 k2
  · unfold fxB at q
    dsimp only at q
    cases e : (hide s vs)[i]? with
    | none => rw [e] at q; cases q
    | some y =>
      cases y with
      | none => rw [e] at q; cases q
      | some y =>
        cases y with
        | d _ => rw [e] at q; cases q
        | clo _ _ => rw [e] at q; cases q
        | ob w o =>
          rw [e] at q
          obtain ⟨a', w', k1, k2, k3, k4, k5⟩ := slot i w o e
          rw [k2] at q
          cases q
          exact ⟨by rw [wipe_out k4]; exact k2, o, by rw [k5]⟩
  · rw [hide_length, wipe_length]; exact r.len
theorem unhideL_get : ∀ (s t : S) (i : Nat), s.length ≤ t.length → (unhideL s t)[i]? = (s[i]?).map fun x => unhideO x ((t[i]?).getD none)
  | [], t, i, h => by cases t <;> simp [unhideL]
  | x :: s, [], i, h => by simp at h
  | x :: s, y :: t, 0, h => by simp [unhideL]
  | x :: s, y :: t, i + 1, h => by
    simp only [unhideL, List.getElem?_cons_succ]
    exact unhideL_get s t i (by simpa using h)
theorem unhideL_length : ∀ (s t : S), (unhideL s t).length = s.length
  | [], t => by cases t <;> rfl
  | x :: s, [] => rfl
  | x :: s, y :: t => by simp [unhideL, unhideL_length s t]
theorem unhide_get {vs : List Nat} {t : S} (hl : t.length = s.length) {i : Nat} {x : SV} (h : (unhide vs s t)[i]? = some (some x)) :
    (∃ w o o', i ∉ vs ∧ s[i]? = some (some (.ob w o)) ∧ t[i]? = some (some o') ∧ (∃ w' q, o' = .ob w' q ∧ x = .ob w q)) ∨ (s[i]? = some (some x) ∧ ∀ w o, x = .ob w o → i ∈ vs ∨ ∀ w' o', t[i]? ≠ some (some (.ob w' o'))) := by
  unfold unhide at h
  rw [unhideL_get _ _ _ (by rw [wipeL_length, hl]; exact Nat.le_refl _)] at h
  cases e : s[i]? with
  | none => rw [e] at h; cases h
  | some y =>
    rw [e] at h
    have h : unhideO y (((wipeL t vs)[i]?).getD none) = some x := Option.some.inj h
    by_cases hi : i ∈ vs
    · have hn : ((wipeL t vs)[i]?).getD none = none := by
        cases q : (wipeL t vs)[i]? with
        | none => rfl
        | some z =>
          cases z with
          | none => rfl
          | some z => exact absurd q (wipeL_in hi z)
      rw [hn] at h
      cases y with
      | none => cases h
      | some y =>
        have : y = x := by
          cases y <;> exact Option.some.inj h
        subst this
        exact .inr ⟨rfl, fun w o _ => .inl hi⟩
    · rw [wipeL_out hi] at h
      cases y with
      | none => cases h
      | some y =>
        cases y with
        | d y => cases h; exact .inr ⟨rfl, fun w o z => by cases z⟩
        | clo _ _ => cases h; exact .inr ⟨rfl, fun w o z => by cases z⟩
        | ob w o =>
          cases q : t[i]? with
          | none => rw [q] at h; cases h; exact .inr ⟨rfl, fun _ _ _ => .inr fun _ _ z => by cases z⟩
          | some z =>
            rw [q] at h
            cases z with
            | none => cases h; exact .inr ⟨rfl, fun _ _ _ => .inr fun _ _ z => by cases z⟩
            | some z =>
              cases z with
              | d _ => cases h; exact .inr ⟨rfl, fun _ _ _ => .inr fun _ _ z => by cases z⟩
              | clo _ _ => cases h; exact .inr ⟨rfl, fun _ _ _ => .inr fun _ _ z => by cases z⟩
              | ob w' o' => cases h; exact .inl ⟨w, o, _, hi, rfl, rfl, w', o', rfl, rfl⟩
theorem Rel.unblock {F4 H4 : Hp} {σ4 : L2.St} {t4 : S} {φ4 : Nat → List Addr} {vs : List Nat} (r : Rel K fx Fz σ H s φ) (r4 : Rel K (fxB σ H Fz φ (hide s vs)) F4 σ4 H4 t4 φ4) (g4 : Go L Fz H (hide s vs) φ F4 H4 t4 φ4) (hl : σ4.length = σ.length) :
    ∃ φ', Rel K fx F4 σ H4 (unhide vs s t4) φ' ∧ Go L Fz H s φ F4 H4 (unhide vs s t4) φ' := by
  have hlen : t4.length = s.length := by rw [r4.len, hl, r.len]
  have back : ∀ (i : Nat) w o, i ∉ vs → s[i]? = some (some (.ob w o)) → ∃ a o', σ[i]? = some (some (.ref a)) ∧ σ4[i]? = some (some (.ref a)) ∧ t4[i]? = some (some (.ob false o')) ∧ (hide s vs)[i]? = some (some (.ob false o)) := fun i w o hi hq => by
    obtain ⟨v, g1, a, rfl, _⟩ := r.sl i _ hq
    have hb := hide_of (s := s) hi hq
    have hR : (fxB σ H Fz φ (hide s vs)).R i = some a := by
      show (match (hide s vs)[i]? with | some (some (.ob _ _)) => (match σ[i]? with | some (some (.ref a)) => some a | _ => none) | _ => none) = some a
      rw [hb, g1]
    obtain ⟨k1, o', k2⟩ := r4.rt i a hR
    exact ⟨a, o', g1, k1, k2, hb⟩
  -- what a slot of objects holds afterwards
  have obs : ∀ (i : Nat) w o, (unhide vs s t4)[i]? = some (some (.ob w o)) → (i ∉ vs ∧ (∃ o0, s[i]? = some (some (.ob w o0))) ∧ t4[i]? = some (some (.ob false o))) ∨ (i ∈ vs ∧ s[i]? = some (some (.ob w o))) := fun i w o h => by
    rcases unhide_get hlen h with ⟨w1, o1, o', hi, h1, h2, w', q, rfl, hx⟩ | ⟨h1, h2⟩
    · cases hx
      obtain ⟨a, o2, _, _, k3, _⟩ := back i _ o1 hi h1
      rw [h2] at k3; cases k3
      exact .inl ⟨hi, ⟨o1, h1⟩, h2⟩
    · by_cases hi : i ∈ vs
      · exact .inr ⟨hi, h1⟩
      · rcases h2 w o rfl with z | z
        · exact absurd z hi
        · obtain ⟨a, o2, _, _, k3, _⟩ := back i w o hi h1
          exact absurd k3 (z _ _)
  let φ' : Nat → List Addr := fun i => if i ∈ vs then φ i else φ4 i
  have keepV : ∀ (i : Nat) w o, i ∈ vs → s[i]? = some (some (.ob w o)) → ∀ b ∈ φ i, H4 b = H b := fun i w o hi hq b hb => by
    obtain ⟨u, e, m⟩ := r.foot hq b hb
    rw [e]
    refine r4.old b u (strip_of e m.nt) fun j z => ?_
    obtain ⟨w1, o1, e1, hb1⟩ := fxB_B z
    obtain ⟨n1, _, w2, e2⟩ := hide_ob e1
    exact r.dj i j w w2 o o1 (fun z => n1 (z ▸ hi)) hq e2 b hb hb1
  have f4 : ∀ (i : Nat) o, i ∉ vs → t4[i]? = some (some (.ob false o)) → ∀ b ∈ φ4 i, F4 b = none ∧ (strip H b = none ∨ b ∈ φ i) := fun i o hi hq b hb => by
    obtain ⟨k1, k2⟩ := r4.fz i false o hq b hb
    refine ⟨k1, ?_⟩
    rcases k2 with k2 | ⟨_, k2⟩
    · exact .inl k2
    · obtain ⟨_, _, _, k3⟩ := fxB_B k2
      exact .inr k3
  refine ⟨φ', ⟨r4.sub, fun b o q => ?_, fun b o q n => ?_, fun b o q => r4.f0 b o (r.f0 b o q), fun b o q n => ?_, fun i x q => ?_, fun i w o q b hb => ?_, fun i j w w' o o' hn q1 q2 b hb => ?_, fun i a q => ?_, ?_, ⟨r.tt.h0, r4.tt.hF, r4.tt.tb⟩⟩, ⟨r4.f0, fun b o e n k => ?_, g4.dm, fun b o e n z k => ?_, fun i w x q => ?_⟩⟩
  · obtain ⟨u, e, m⟩ := r.dom b o q
    exact r4.dom b u (strip_of e m)
  · have e := r.old b o q n
    refine r4.old b o (strip_of e (r.tt.h0 b o q)) fun i z => ?_
    obtain ⟨w1, o1, e1, hb1⟩ := fxB_B z
    obtain ⟨_, _, w2, e2⟩ := hide_ob e1
    rcases (r.fz i w2 o1 e2 b hb1).2 with f | f
    · rw [q] at f; cases f
    · exact n i f.2
  · obtain ⟨u, e, m⟩ := r.dom b o q
    exact r4.nf b u (strip_of e m) (r.nf b o q n)
  · cases x with
    | ob w o =>
      rcases obs i w o q with ⟨hi, ⟨o0, h0⟩, h1⟩ | ⟨hi, h0⟩
      · obtain ⟨a, o2, k1, k2, k3, _⟩ := back i w o0 hi h0
        rw [h1] at k3; cases k3
        obtain ⟨v, m1, a', rfl, m2⟩ := r4.sl i _ h1
        rw [k2] at m1; cases m1
        refine ⟨_, k1, a, rfl, ?_⟩
        show ObOk K F4 H4 o a (if i ∈ vs then φ i else φ4 i)
        rw [if_neg hi]; exact m2
      · obtain ⟨v, m1, a', rfl, m2⟩ := r.sl i _ h0
        refine ⟨_, m1, a', rfl, ?_⟩
        show ObOk K F4 H4 o a' (if i ∈ vs then φ i else φ4 i)
        rw [if_pos hi]
        exact m2.keep r4.f0 (keepV i w o hi h0)
    | d x =>
      rcases unhide_get hlen q with ⟨_, _, _, _, _, _, _, _, _, z⟩ | ⟨h1, _⟩
      · cases z
      · obtain ⟨v, m1, m2⟩ := r.sl i _ h1
        exact ⟨v, m1, Rp.mono r4.f0 m2⟩
    | clo n e =>
      rcases unhide_get hlen q with ⟨_, _, _, _, _, _, _, _, _, z⟩ | ⟨h1, _⟩
      · cases z
      · obtain ⟨v, m1, m2⟩ := r.sl i _ h1
        exact ⟨v, m1, Tabl.cl_mono r4.f0 m2⟩
  · have hb : b ∈ (if i ∈ vs then φ i else φ4 i) := hb
    rcases obs i w o q with ⟨hi, ⟨o0, h0⟩, h1⟩ | ⟨hi, h0⟩
    · rw [if_neg hi] at hb
      obtain ⟨k1, k2⟩ := f4 i o hi h1 b hb
      refine ⟨k1, ?_⟩
      rcases k2 with k2 | k2
      · exact .inl (r.free0' k2)
      · exact (r.fz i w o0 h0 b k2).2
    · rw [if_pos hi] at hb
      obtain ⟨k1, k2⟩ := r.fz i w o h0 b hb
      obtain ⟨u, e, m⟩ := r.foot h0 b hb
      exact ⟨r4.nf b u (strip_of e m.nt) k1, k2⟩
  · have hb : b ∈ (if i ∈ vs then φ i else φ4 i) := hb
    show b ∉ (if j ∈ vs then φ j else φ4 j)
    rcases obs i w o q1 with ⟨hi, ⟨o0, h0⟩, h1⟩ | ⟨hi, h0⟩
    · rw [if_neg hi] at hb
      rcases obs j w' o' q2 with ⟨hj, ⟨p0, g0⟩, g1⟩ | ⟨hj, g0⟩
      · rw [if_neg hj]
        exact r4.dj i j false false o o' hn h1 g1 b hb
      · rw [if_pos hj]
        intro z
        obtain ⟨u, e, m⟩ := r.foot g0 b z
        rcases (f4 i o hi h1 b hb).2 with k | k
        · exact strip_none k e m.nt
        · exact r.dj i j w w' o0 o' hn h0 g0 b k z
    · rw [if_pos hi] at hb
      rcases obs j w' o' q2 with ⟨hj, ⟨p0, g0⟩, g1⟩ | ⟨hj, g0⟩
      · rw [if_neg hj]
        intro z
        obtain ⟨u, e, m⟩ := r.foot h0 b hb
        rcases (f4 j o' hj g1 b z).2 with k | k
        · exact strip_none k e m.nt
        · exact r.dj i j w w' o p0 hn h0 g0 b hb k
      · rw [if_pos hj]
        exact r.dj i j w w' o o' hn h0 g0 b hb
  · obtain ⟨k1, o, k2⟩ := r.rt i a q
    refine ⟨k1, ?_⟩
    unfold unhide
    rw [unhideL_get _ _ _ (by rw [wipeL_length, hlen]; exact Nat.le_refl _), k2]
    by_cases hi : i ∈ vs
    · cases e : ((wipeL t4 vs)[i]?).getD none with
      | none => exact ⟨o, rfl⟩
      | some z =>
        exfalso
        cases e2 : (wipeL t4 vs)[i]? with
        | none => rw [e2] at e; cases e
        | some y => rw [e2] at e; exact wipeL_in hi z (by rw [e2]; exact congrArg some e)
    · rw [wipeL_out hi]
      obtain ⟨_, o', _, _, k3, _⟩ := back i false o hi k2
      rw [k3]
      exact ⟨o', rfl⟩
  · unfold unhide; rw [unhideL_length]; exact r.len
  · refine g4.fr b o e n fun i w x hL hq => ?_
    obtain ⟨hi, _, w', h1⟩ := hide_ob hq
    exact k i w' x hL h1
  · exact r4.nf b o (strip_of e n) z
  · have : ∀ b, b ∈ φ' i ↔ b ∈ (if i ∈ vs then φ i else φ4 i) := fun b => Iff.rfl
    rcases obs i w x q with ⟨hi, ⟨o0, h0⟩, h1⟩ | ⟨hi, h0⟩
    · refine ⟨⟨o0, h0⟩, fun b hb => ?_⟩
      have hb := (this b).mp hb
      rw [if_neg hi] at hb
      rcases (f4 i x hi h1 b hb).2 with k | k
      · exact .inr k
      · exact .inl k
    · refine ⟨⟨x, h0⟩, fun b hb => ?_⟩
      have hb := (this b).mp hb
      rw [if_pos hi] at hb
      exact .inl hb
theorem Rel.temp {D : Addr} {vs ws : List V} (r : Rel K fx Fz σ H s φ) (hD : H D = some (.lst vs)) (hF : Fz D = none) (h0 : fx.H0 D = none) (hn : ∀ (i : Nat) w o, s[i]? = some (some (.ob w o)) → D ∉ φ i) : Rel K fx Fz σ (upd H D (.lst ws)) s φ := by
  have ne : ∀ b o, Fz b = some o → b ≠ D := fun b o e => ne_of_none e hF
  refine ⟨fun b o e => by rw [upd_ne (ne b o e)]; exact r.sub b o e, fun b o q => ?_, fun b o q n => by rw [upd_ne (ne_of_none q h0)]; exact r.old b o q n, r.f0, r.nf, fun i x q => ?_, r.fz, r.dj, r.rt, r.len, ⟨r.tt.h0, r.tt.hF, tabs_mut r.tt.tb fun b o e n => ?_⟩⟩
  · obtain ⟨u, e, m⟩ := r.dom b o q
    exact ⟨u, by rw [upd_ne (ne_of_none q h0)]; exact e, m⟩
  · obtain ⟨v, g1, g2⟩ := r.sl i x q
    exact ⟨v, g1, g2.keep (Same.refl _) fun w o e b hb => upd_ne fun z => hn i w o (by rw [q, e]) (z ▸ hb)⟩
  · rw [upd_ne (fun z => n (by rw [z, hD] at e; cases e; exact True.intro))]; exact e
end
section
variable {X : Cx} {W : WX} {L : Nat → Prop} {cf : CF} {elt tgE iter : Expr} {ifs : List Expr} {scope : Scope} {own : List (Str × Nat)} {pos : Pos} {fz : List Nat} {tg : Tg} {k : Itk} {il ic ie : IE}
theorem wipe_eq {σ σ' : L2.St} (hl : σ'.length = σ.length) : ∀ {vs : List Nat}, (∀ j : Nat, j ∉ vs → σ'[j]? = σ[j]?) → wipe σ' vs = wipe σ vs := fun {vs} h => by
  refine List.ext_getElem? fun j => ?_
  by_cases hj : j ∈ vs
  · have key : ∀ (τ : L2.St) (vs : List Nat), j ∈ vs → (wipe τ vs)[j]? = if j < τ.length then some none else none := by
      intro τ vs
      induction vs with
      | nil => intro h; cases h
      | cons v vs ih =>
        intro h
        unfold wipe
        by_cases hv : v = j
        · subst hv
          by_cases hlt : v < (wipe τ vs).length
          · rw [List.getElem?_set_self hlt, if_pos (by rw [← wipe_length τ vs]; exact hlt)]
          · rw [List.getElem?_eq_none (by simpa using hlt), if_neg (by rw [← wipe_length τ vs]; exact hlt)]
        · rw [List.getElem?_set_ne hv]
          rcases List.mem_cons.mp h with z | z
          · exact absurd z.symm hv
          · exact ih z
    rw [key _ _ hj, key _ _ hj, hl]
  · rw [wipe_out hj, wipe_out hj, h j hj]
theorem wipe_wipe {σ : L2.St} {vs : List Nat} : wipe (wipe σ vs) vs = wipe σ vs := wipe_eq (wipe_length _ _) fun j hj => wipe_out hj
structure Turning (X : Cx) (L : Nat → Prop) (fx : Fx) (F0 H0 : Hp) (s0 : S) (φ0 : Nat → List Addr) (σ : L2.St) (A : Addr) (Fz H : Hp) (s : S) (φ : Nat → List Addr) (acc : List V) (ds : List D) : Prop where
  rl : Rel X.K fx Fz σ H s φ
  g : Go L F0 H0 s0 φ0 Fz H s φ
  hD : H A = some (.lst acc)
  fD : Fz A = none
  zD : fx.H0 A = none
  oD : strip H0 A = none
  nD : ∀ (i : Nat) w o, s[i]? = some (some (.ob w o)) → A ∉ φ i
  rp : Rps X.K Fz acc ds
theorem Go.temp {F0 H0 Fz H : Hp} {s0 s : S} {φ0 φ : Nat → List Addr} {A : Addr} {ws : List V} (g : Go L F0 H0 s0 φ0 Fz H s φ) (h : strip H0 A = none) : Go L F0 H0 s0 φ0 Fz (upd H A (.lst ws)) s φ := by
  have ne : ∀ b o, H0 b = some o → NT o → b ≠ A := fun b o e n z => by rw [z] at e; exact strip_none h e n
  refine ⟨g.fz, fun b o e n k => by rw [upd_ne (ne b o e n)]; exact g.fr b o e n k, fun b o e n => ?_, g.nz, g.ob⟩
  obtain ⟨u, e', n'⟩ := g.dm b o e n
  exact ⟨u, by rw [upd_ne (ne b o e n)]; exact e', n'⟩
theorem Turning.more {fx : Fx} {F0 H0 Fz H F5 H5 : Hp} {s0 s s5 : S} {φ0 φ φ5 : Nat → List Addr} {σ : L2.St} {A : Addr} {acc : List V} {ds : List D} {v : V} {d : D} (T : Turning X L fx F0 H0 s0 φ0 σ A Fz H s φ acc ds) (r : Rel X.K fx F5 σ H5 s5 φ5) (g : Go L Fz H s φ F5 H5 s5 φ5) :
    H5 A = some (.lst acc) ∧ Turning X L fx F0 H0 s0 φ0 σ A F5 H5 s5 φ5 acc ds ∧ (Rp X.K F5 v d → Turning X L fx F0 H0 s0 φ0 σ A F5 (upd H5 A (.lst (acc ++ [v]))) s5 φ5 (acc ++ [v]) (ds ++ [d])) := by
  have h5 : H5 A = some (.lst acc) := g.fr A _ T.hD (nt_lst _) fun i w x _ q => T.nD i w x q
  have f5 : F5 A = none := g.nz A _ T.hD (nt_lst _) T.fD T.nD
  have n5 : ∀ (i : Nat) w o, s5[i]? = some (some (.ob w o)) → A ∉ φ5 i := fun i w o q z => by
    obtain ⟨⟨x', q'⟩, f⟩ := g.ob i w o q
    rcases f A z with f | f
    · exact T.nD i w x' q' f
    · exact strip_none f T.hD (nt_lst _)
  have g5 := T.g.trans g
  have p5 := T.rp.mono g.fz
  exact ⟨h5, ⟨r, g5, h5, f5, T.zD, T.oD, n5, p5⟩, fun rv => ⟨r.temp h5 f5 T.zD n5, g5.temp T.oD, upd_same, f5, T.zD, T.oD, n5, p5.append (.cons rv .nil)⟩⟩
theorem lcT_run {vs : List Nat} {c : M Bool} {e : M (List RV)} {y : D} {u : S} : lcT vs tg c e y u = lcBack vs u ((bindM (setTg tg y) fun _ => bindM c fun b => match b with | true => bindM (one1 e) fun d => pureM (some d) | false => pureM none) (hide u vs)) := rfl
theorem setTg_go {t t1 : S} {φ φ1 : Nat → List Addr} {F H : Hp} (h : ∀ (j : Nat) w o, t1[j]? = some (some (.ob w o)) → t[j]? = some (some (.ob w o))) (k : ∀ (j : Nat) w o, t1[j]? = some (some (.ob w o)) → φ1 j = φ j) : Go L F H t φ F H t1 φ1 :=
  ⟨Same.refl _, fun _ _ e _ _ => e, fun _ o e n => ⟨o, e, n⟩, fun _ _ _ _ z _ => z, fun i w x q => ⟨⟨x, h i w x q⟩, fun b hb => .inl (by rw [k i w x q] at hb; exact hb)⟩⟩
theorem red_lc {vs : List Nat} {σ : L2.St} {H : Hp} {Q : VK} (hv : ∀ i ∈ tg.slots, i ∈ vs) (h : tI X.K X.mg W L (ev cf (.lc fz vs tg k il ic ie)) σ H Q) :
    tLcE (tIt X.K X.mg W L (itM k (ev cf il))) (tgR X.K tg) (fun W' => tBo X.K X.mg W' L (evB cf ic)) (fun W' => tD X.K X.mg W' L (one1 (ev cf ie))) W vs σ H Q := by
  obtain ⟨fx, Fz, s, φ, rl, p⟩ := h
  refine ⟨fx, Fz, s, φ, rl, ?_⟩
  have p : Post X.K X.mg W L fx Fz H s φ σ (bindM (itM k (ev cf il)) (fun ys s => bindM (lcM vs tg (evB cf ic) (ev cf ie) ys) (fun zs => pureM [.ob (.lst zs)]) (frzAll fz s)) s) Q := p
  unfold bindM at p
  cases e1 : itM k (ev cf il) s with
  | exc c s1 => rw [e1] at p; exact p
  | stuck => rw [e1] at p; exact p.elim
  | ok ys s1 =>
    rw [e1] at p
    intro J H1 F1 φ1 g1 rl1 wk A hA
    have ylen : ys.length ≤ 1000000 := by
      unfold itM at e1
      obtain ⟨x, t1, h1, e1⟩ := bindM_ok e1
      obtain ⟨x, t1, h1, e1⟩ := bindM_ok e1
      exact itD_len (optM_ok e1).1
    obtain ⟨F2, g2, rl2⟩ := Rel.frz (L := L) fz rl1
    have p : Post X.K X.mg W L fx Fz H s φ σ (bindM (lcM vs tg (evB cf ic) (ev cf ie) ys) (fun zs => pureM [.ob (.lst zs)]) (frzAll fz s1)) Q := p
    generalize frzAll fz s1 = s2 at p g2 rl2
    have g12 := g1.trans g2
    have oA : strip H A = none := by
      cases q : strip H A with
      | none => rfl
      | some o =>
        obtain ⟨q1, q2⟩ := strip_some q
        obtain ⟨u, q3, _⟩ := g12.dm A o q1 q2
        rw [hA] at q3; cases q3
    refine ⟨fun i n H' => n = ys.length - i ∧ i ≤ ys.length ∧ ∃ F u φu acc ds, Turning X L fx Fz H s φ σ A F H' u φu acc ds ∧ Same F1 F ∧ acc.length ≤ i ∧
      Post X.K X.mg W L fx Fz H s φ σ (bindM (lcM vs tg (evB cf ic) (ev cf ie) (ys.drop i)) (fun zs => pureM [.ob (.lst (ds ++ zs))]) u) Q, ⟨ys.length, by simp, Nat.zero_le _, F2, s2, φ1, [], [], ?_, g2.fz, Nat.zero_le _, by simpa using p⟩, ?_⟩
    · obtain ⟨g3, rl3, rv⟩ := rl2.layOwn (L := L) (vs := []) (xs := []) hA .nil
      exact ⟨rl3, g12.trans g3, upd_same, (rv.2.1 A (by simp)).1, (rv.2.1 A (by simp)).2, oA, fun i w o q => rv.2.2 i w o q A (by simp), .nil⟩
    · rintro i n H' ⟨rfl, hi, F, u, φu, acc, ds, T, sF, hacc, p⟩
      obtain ⟨w1, w2⟩ := wk F H' sF T.rl.sub i
      by_cases hlt : i < ys.length
      · have hy : ys[i]? = some ys[i] := List.getElem?_eq_getElem hlt
        have hdrop : ys.drop i = ys[i] :: ys.drop (i + 1) := List.drop_eq_getElem_cons hlt
        generalize ys[i] = y at hy hdrop
        obtain ⟨go, yl⟩ := w1 y hy
        refine .inr ⟨go, fun x H3 hx => ?_⟩
        obtain ⟨F3, sF3, sH3, rel3, rp⟩ := yl x H3 hx
        obtain ⟨rl3, g3⟩ := rel3 fx σ u φu T.rl
        obtain ⟨_, T3, _⟩ := T.more (v := .non) (d := .none) rl3 (g3 L)
        have rlb := rl3.block vs
        rw [hdrop] at p
        have p : Post X.K X.mg W L fx Fz H s φ σ (bindM (bindM (lcT vs tg (evB cf ic) (ev cf ie) y) fun o => bindM (lcM vs tg (evB cf ic) (ev cf ie) (ys.drop (i + 1))) fun ys => match o with | some d => pureM (d :: ys) | none => pureM ys) (fun zs => pureM [.ob (.lst (ds ++ zs))]) u) Q := p
        -- an exception in the turn
        have exc : ∀ (σ' : L2.St) (t' : S) (c : Str), σ'.length = σ.length → lcT vs tg (evB cf ic) (ev cf ie) y u = .exc c (unhide vs u t') → ∀ C H4 F4 φ4, X.mg c = some C → Go L F3 H3 (hide u vs) φu F4 H4 t' φ4 → Rel X.K (fxB σ H3 F3 φu (hide u vs)) F4 σ' H4 t' φ4 → W C none σ H4 := fun σ' t' c hl e C H4 F4 φ4 hm g4 r4 => by
          obtain ⟨φ5, r5, g5⟩ := rl3.unblock r4 g4 hl
          unfold bindM at p
          rw [e] at p
          exact p C H4 F4 φ5 hm (T3.g.trans g5) r5
        cases e2 : setTg tg y (hide u vs) with
        | exc c t1 => exact (setTg_exc e2).elim
        | stuck =>
          exfalso
          have e3 : lcT vs tg (evB cf ic) (ev cf ie) y u = .stuck := by rw [lcT_run]; unfold bindM; rw [e2]; rfl
          unfold bindM at p
          rw [e3] at p
          exact p
        | ok un t1 =>
          refine setTg_ok rlb rp e2 fun σ1 ⟨φt, rt, kt⟩ hl1 ho1 hb1 => ⟨?_, ?_⟩
          · rw [← wipe_wipe (σ := σ) (vs := vs)]
            exact wipe_eq hl1 fun j hj => (ho1 j fun z => hj (hv j z)).1
          have gt : Go L F3 H3 (hide u vs) φu F3 H3 t1 φt := setTg_go hb1 kt
          have hls : σ1.length = σ.length := by rw [hl1, wipe_length]
          refine ⟨_, F3, t1, φt, rt, ?_⟩
          cases e3 : evB cf ic t1 with
          | exc c t2 =>
            intro C H4 F4 φ4 hm g4 r4
            exact exc σ1 t2 c hls (by rw [lcT_run]; unfold bindM; rw [e2]; show lcBack vs u ((evB cf ic t1).bind _) = _; rw [e3]; rfl) C H4 F4 φ4 hm (gt.trans g4) r4
          | stuck =>
            have e4 : lcT vs tg (evB cf ic) (ev cf ie) y u = .stuck := by rw [lcT_run]; unfold bindM; rw [e2]; show lcBack vs u ((evB cf ic t1).bind _) = _; rw [e3]; rfl
            unfold bindM at p
            rw [e4] at p
            exact p
          | ok b t2 =>
            intro H4 F4 φ4 g4 r4
            have g4' := gt.trans g4
            cases b with
            | false =>
              rw [if_neg Bool.false_ne_true]
              obtain ⟨φ5, r5, g5⟩ := rl3.unblock r4 g4' hls
              obtain ⟨_, T5, _⟩ := T3.more (v := .non) (d := .none) r5 g5
              refine ⟨ys.length - (i + 1), by omega, rfl, hlt, F4, unhide vs u t2, φ5, acc, ds, T5, (sF.trans sF3).trans g5.fz, by omega, ?_⟩
              have e4 : lcT vs tg (evB cf ic) (ev cf ie) y u = .ok none (unhide vs u t2) := by rw [lcT_run]; unfold bindM; rw [e2]; show lcBack vs u ((evB cf ic t1).bind _) = _; rw [e3]; rfl
              unfold bindM at p ⊢
              rw [e4] at p
              dsimp only [R.bind] at p
              cases e5 : lcM vs tg (evB cf ic) (ev cf ie) (ys.drop (i + 1)) (unhide vs u t2) with
              | ok zs t => rw [e5] at p; exact p
              | exc c t => rw [e5] at p; exact p
              | stuck => rw [e5] at p; exact p
            | true =>
              rw [if_pos rfl]
              refine ⟨_, F4, t2, φ4, r4, ?_⟩
              cases e6 : one1 (ev cf ie) t2 with
              | exc c t3 =>
                intro C H5 F5 φ5 hm g5 r5
                refine exc σ1 t3 c hls ?_ C H5 F5 φ5 hm (g4'.trans g5) r5
                rw [lcT_run]; unfold bindM; rw [e2]; show lcBack vs u ((evB cf ic t1).bind _) = _; rw [e3]; show lcBack vs u ((one1 (ev cf ie) t2).bind _) = _; rw [e6]; rfl
              | stuck =>
                have e4 : lcT vs tg (evB cf ic) (ev cf ie) y u = .stuck := by
                  rw [lcT_run]; unfold bindM; rw [e2]; show lcBack vs u ((evB cf ic t1).bind _) = _; rw [e3]; show lcBack vs u ((one1 (ev cf ie) t2).bind _) = _; rw [e6]; rfl
                unfold bindM at p
                rw [e4] at p
                exact p
              | ok d t3 =>
                intro v H5 F5 φ5 g5 r5 rv
                obtain ⟨φ6, r6, g6⟩ := rl3.unblock r5 (g4'.trans g5) hls
                obtain ⟨h6, _, T6⟩ := T3.more (v := v) (d := d) r6 g6
                refine ⟨acc, h6, Nat.lt_of_le_of_lt hacc (Nat.lt_of_lt_of_le hlt (len_le (by unfold okLen; exact decide_eq_true ylen))), ys.length - (i + 1), by omega, rfl, hlt, F5, unhide vs u t3, φ6, acc ++ [v], ds ++ [d], T6 rv, (sF.trans sF3).trans g6.fz, by rw [List.length_append, List.length_singleton]; omega, ?_⟩
                have e4 : lcT vs tg (evB cf ic) (ev cf ie) y u = .ok (some d) (unhide vs u t3) := by
                  rw [lcT_run]; unfold bindM; rw [e2]; show lcBack vs u ((evB cf ic t1).bind _) = _; rw [e3]; show lcBack vs u ((one1 (ev cf ie) t2).bind _) = _; rw [e6]; rfl
                unfold bindM at p ⊢
                rw [e4] at p
                dsimp only [R.bind] at p
                cases e5 : lcM vs tg (evB cf ic) (ev cf ie) (ys.drop (i + 1)) (unhide vs u t3) with
                | ok zs t =>
                  rw [e5] at p
                  have p : Post X.K X.mg W L fx Fz H s φ σ (.ok [.ob (.lst (ds ++ (d :: zs)))] t) Q := p
                  show Post X.K X.mg W L fx Fz H s φ σ (.ok [.ob (.lst ((ds ++ [d]) ++ zs))] t) Q
                  rw [List.append_assoc]; exact p
                | exc c t => rw [e5] at p; exact p
                | stuck => rw [e5] at p; exact p
      · have ei : i = ys.length := by omega
        subst ei
        refine .inl ⟨w2 (Nat.le_refl _), ?_⟩
        rw [List.drop_length] at p
        have p : Post X.K X.mg W L fx Fz H s φ σ (.ok [.ob (.lst (ds ++ []))] u) Q := p
        rw [List.append_nil] at p
        refine p (.ref A) [A] H' F φu T.g T.rl ⟨⟨A, rfl, rfl, acc, T.hD, T.rp⟩, fun b hb => ?_, fun j w o q b hb => ?_⟩ fun b hb => ?_
        · simp at hb; subst hb; exact ⟨T.fD, T.zD⟩
        · simp at hb; subst hb; exact T.nD j w o q
        · simp at hb; subst hb; exact T.oD
theorem px_lc (hc : X.calm = true) (hN : X.N.Nodup) (tk : Tk X W) (hi : PXI X W L tgE iter (itM k (ev cf il))) (ok : BlkOk X.N X.env.scope scope own) (hv : ∀ i ∈ tg.slots, i ∈ own.map (·.2))
    (hg : InBlk X scope fun Y _ => PG Y tgE (tgR X.K tg)) (ht : InBlk X scope fun Y W' => PTs Y ifs (tBo X.K X.mg W' L (evB cf ic))) (he : InBlk X scope fun Y W' => PE Y elt (tD X.K X.mg W' L (one1 (ev cf ie)))) (hset : ∀ x, foldedSetIterable iter X.env x = pure x) :
    PX X W L (.ListComp elt [⟨tgE, iter, ifs, 0⟩] scope pos) (ev cf (.lc fz (own.map (·.2)) tg k il ic ie)) := PE.imp (pe_lcE hc hN tk hi ok hg ht he hset) fun σ H Q h => red_lc hv h
end
end VL
set_option maxHeartbeats 1000000
namespace VL
open PySem PySem.Spec PyProof.Rows L2
variable [Tabl]
abbrev LT : Nat → Prop := fun _ => True
section
variable (K : PySem.W.Frag) (mg : Str → Option Value) (W : WX)
def PostS (fx : Fx) (Fz : Hp) (res : R Fl) (Dn : Ends) : Prop := match res with
  | .ok .next s' => ∀ σ' H' Fz' φ', Same Fz Fz' → Rel K fx Fz' σ' H' s' φ' → Dn.nx σ' H'
  | .ok .brk s' => ∀ σ' H' Fz' φ', Same Fz Fz' → Rel K fx Fz' σ' H' s' φ' → Dn.bk σ' H'
  | .ok .cont s' => ∀ σ' H' Fz' φ', Same Fz Fz' → Rel K fx Fz' σ' H' s' φ' → Dn.ct σ' H'
  | .ok (.ret d) s' => ∀ v σ' H' Fz' φ', Same Fz Fz' → Rel K fx Fz' σ' H' s' φ' → Rp K Fz' v d → Dn.rt v H'
  | .exc c s' => ∀ C σ' H' Fz' φ', mg c = some C → Same Fz Fz' → Rel K fx Fz' σ' H' s' φ' → W C none σ' H'
  | .stuck => False
def tS (m : M Fl) : TS := fun Dn σ H => ∃ fx Fz s φ, Rel K fx Fz σ H s φ ∧ PostS K mg W fx Fz (m s) Dn
end
section
variable {K : PySem.W.Frag} {mg : Str → Option Value} {W : WX} {fx : Fx} {Fz Fz1 H : Hp} {σ : L2.St} {s : S} {φ : Nat → List Addr}
theorem PostS.mono {res : R Fl} {Dn : Ends} (e : Same Fz Fz1) (h : PostS K mg W fx Fz res Dn) : PostS K mg W fx Fz1 res Dn := by
  cases res with
  | ok f s' =>
    cases f with
    | next => exact fun σ' H' Fz' φ' g => h σ' H' Fz' φ' (e.trans g)
    | brk => exact fun σ' H' Fz' φ' g => h σ' H' Fz' φ' (e.trans g)
    | cont => exact fun σ' H' Fz' φ' g => h σ' H' Fz' φ' (e.trans g)
    | ret d => exact fun v σ' H' Fz' φ' g => h v σ' H' Fz' φ' (e.trans g)
  | exc c s' => exact fun C σ' H' Fz' φ' q g => h C σ' H' Fz' φ' q (e.trans g)
  | stuck => exact h
theorem PostS.exc {c : Str} {s' : S} {Dn : Ends} (h : PostS K mg W fx Fz (.exc c s') Dn) : PostX K mg W LT fx Fz H s φ σ c s' := fun C H' Fz' φ' q g r => h C σ H' Fz' φ' q g.fz r
theorem PostS.bindR {m : M (List RV)} {f : List RV → M Fl} {Dn : Ends} (h : PostS K mg W fx Fz (bindM m f s) Dn) (one : ∀ l s', m s = .ok l s' → ∃ r, l = [r]) :
    Post K mg W LT fx Fz H s φ σ (m s) fun v H1 => ∃ Fz1 s1 φ1 r fp, Same Fz Fz1 ∧ Rel K fx Fz1 σ H1 s1 φ1 ∧ RvOk K fx Fz1 σ H1 s1 φ1 r v fp ∧ PostS K mg W fx Fz1 (f [r] s1) Dn := by
  unfold bindM R.bind at h
  cases e : m s with
  | ok l s' =>
    rw [e] at h
    obtain ⟨r, rfl⟩ := one l s' e
    exact fun v fp H' Fz' φ' g rl rv _ => ⟨Fz', s', φ', r, fp, g.fz, rl, rv, h.mono g.fz⟩
  | exc c s' => rw [e] at h; exact h.exc
  | stuck => rw [e] at h; exact h.elim
theorem PostS.bindD {m : M D} {f : D → M Fl} {Dn : Ends} (h : PostS K mg W fx Fz (bindM m f s) Dn) :
    PostD K mg W LT fx Fz H s φ σ (m s) fun v H1 => ∃ Fz1 s1 φ1 d, Same Fz Fz1 ∧ Rel K fx Fz1 σ H1 s1 φ1 ∧ Rp K Fz1 v d ∧ PostS K mg W fx Fz1 (f d s1) Dn := by
  unfold bindM R.bind at h
  cases e : m s with
  | ok d s' =>
    rw [e] at h
    exact fun v H' Fz' φ' g rl rv => ⟨Fz', s', φ', d, g.fz, rl, rv, h.mono g.fz⟩
  | exc c s' => rw [e] at h; exact h.exc
  | stuck => rw [e] at h; exact h.elim
theorem PostS.bindB {m : M Bool} {f : Bool → M Fl} {Dn : Ends} (h : PostS K mg W fx Fz (bindM m f s) Dn) :
    PostB K mg W LT fx Fz H s φ σ (m s) fun b H1 => ∃ Fz1 s1 φ1, Same Fz Fz1 ∧ Rel K fx Fz1 σ H1 s1 φ1 ∧ PostS K mg W fx Fz1 (f b s1) Dn := by
  unfold bindM R.bind at h
  cases e : m s with
  | ok d s' =>
    rw [e] at h
    exact fun H' Fz' φ' g rl => ⟨Fz', s', φ', g.fz, rl, h.mono g.fz⟩
  | exc c s' => rw [e] at h; exact h.exc
  | stuck => rw [e] at h; exact h.elim
theorem one_of {m : M (List RV)} {f : RV → M Fl} {Dn : Ends} (h : PostS K mg W fx Fz (bindM m (fun l => bindM (one l) f) s) Dn) : ∀ l s', m s = .ok l s' → ∃ r, l = [r] := fun l s' e => by
  unfold bindM R.bind at h
  rw [e] at h
  cases l with
  | nil => exact h.elim
  | cons r l => cases l with
    | nil => exact ⟨r, rfl⟩
    | cons _ _ => exact h.elim
end
theorem PS.imp {X : Cx} {st : Stmt} {t t' : TS} (h : PS X st t) (i : ∀ Dn σ H, t' Dn σ H → t Dn σ H) : PS X st t' := ⟨fun pins s σ H Dn I q => h.run pins s σ H Dn I (i Dn σ H q)⟩
theorem PSs.imp {X : Cx} {st : List Stmt} {t t' : TS} (h : PSs X st t) (i : ∀ Dn σ H, t' Dn σ H → t Dn σ H) : PSs X st t' := ⟨fun pins s σ H Dn I q => h.run pins s σ H Dn I (i Dn σ H q)⟩
section
variable {X : Cx} {W : WX} {cf : CF} {e a b c tgE : Expr} {st : Stmt} {sts : List Stmt} {pos p pos' : Pos} {ia ib ic : IE} {sa sb : IS} {i : Nat} {x : Str}
abbrev QS (X : Cx) (W : WX) (st : Stmt) (m : M Fl) : Prop := PS X st (tS X.K X.mg W m)
abbrev QSs (X : Cx) (W : WX) (st : List Stmt) (m : M Fl) : Prop := PSs X st (tS X.K X.mg W m)
theorem qss_nil : QSs X W [] (evS cf .skip) := PSs.imp pss_nil fun Dn σ H ⟨fx, Fz, s, φ, rl, p⟩ => p σ H Fz φ (Same.refl _) rl
theorem qss_cons (h1 : QS X W st (evS cf sa)) (h2 : QSs X W sts (evS cf sb)) : QSs X W (st :: sts) (evS cf (.seq sa sb)) :=
  PSs.imp (pss_cons h1 h2) fun Dn σ H ⟨fx, Fz, s, φ, rl, p⟩ => ⟨fx, Fz, s, φ, rl, by
    have p : PostS X.K X.mg W fx Fz (bindM (evS cf sa) (fun f => match f with | .next => evS cf sb | f => pureM f) s) Dn := p
    unfold bindM R.bind at p
    cases e : evS cf sa s with
    | ok f s1 =>
      rw [e] at p
      cases f with
      | next => exact fun σ' H' F' φ' g rl' => ⟨fx, F', s1, φ', rl', PostS.mono g p⟩
      | brk => exact p
      | cont => exact p
      | ret d => exact p
    | exc c s1 => rw [e] at p; exact p
    | stuck => rw [e] at p; exact p.elim⟩
theorem red_asg {te : TE} (hte : ∀ σ H Q, tI X.K X.mg W LT (ev cf ia) σ H Q → te σ H Q) : ∀ Dn σ H, tS X.K X.mg W (evS cf (.asg i ia)) Dn σ H → tAsg te (gName i) Dn σ H := fun Dn σ H ⟨fx, Fz, s, φ, rl, p⟩ => by
  refine hte σ H _ ⟨fx, Fz, s, φ, rl, ?_⟩
  have p : PostS X.K X.mg W fx Fz (bindM (ev cf ia) (fun l => bindM (one l) fun r => bindM (optM r.toSV) fun v s => stM (setSlot s i v)) s) Dn := p
  refine Post.imp (PostS.bindR (σ := σ) (H := H) (φ := φ) p (one_of p)) fun v H1 ⟨F1, s1, φ1, r, fp, g, rl1, rv, p1⟩ => ?_
  have p1 : PostS X.K X.mg W fx F1 (bindM (optM r.toSV) (fun v s => stM (setSlot s i v)) s1) Dn := p1
  cases hy : r.toSV with
  | none => rw [hy] at p1; exact p1.elim
  | some y =>
    rw [hy] at p1
    have p1 : PostS X.K X.mg W fx F1 (stM (setSlot s1 i y)) Dn := p1
    cases hs : setSlot s1 i y with
    | none => rw [hs] at p1; exact p1.elim
    | some s2 =>
      rw [hs] at p1
      exact p1 _ _ F1 _ (Same.refl _) (rl1.put rv hy hs)
theorem qs_asg (hN : X.N.Nodup) (hi : X.N[i]? = some x) (hx : Loc X.env.scope x) (he : PX X W LT e (ev cf ia)) (hs : swapsWith e (some (.Name x pos')) pos.line X.env = pure false) (hf : X.fn x = true ∨ X.env.scope.names.lookup x = some .local) :
    QS X W (.Assign [.Name x pos'] e pos) (evS cf (.asg i ia)) := PS.imp (ps_set hN hi hx he hs hf) (red_asg fun _ _ _ h => h)
theorem PostD.imp {L : Nat → Prop} {fx : Fx} {Fz H : Hp} {s : S} {φ : Nat → List Addr} {σ : L2.St} {res : R D} {Q Q' : VK} (h : PostD X.K X.mg W L fx Fz H s φ σ res Q) (i : ∀ v H', Q v H' → Q' v H') : PostD X.K X.mg W L fx Fz H s φ σ res Q' := by
  cases res with
  | ok l s' => exact fun v H' Fz' φ' g rl rv => i v H' (h v H' Fz' φ' g rl rv)
  | exc c s' => exact h
  | stuck => exact h
theorem qs_asgT {tg : Tg} (he : PX X W LT e (ev cf ia)) (hg : PG X tgE (tgR X.K tg)) (hs : swapsWithSole [tgE] e pos.line X.env = pure false) (hw : swappedStores [tgE] e X.env = pure none) (h1 : (assignEach [tgE] X.env).map (·.2) = [assign tgE X.env]) :
    QS X W (.Assign [tgE] e pos) (evS cf (.asgT tg ia)) := PS.imp (ps_asg (PX.d he) hg hs hw h1) fun Dn σ H ⟨fx, Fz, s, φ, rl, p⟩ => ⟨fx, Fz, s, φ, rl, by
    have p : PostS X.K X.mg W fx Fz (bindM (one1 (ev cf ia)) (fun d => bindM (setTg tg d) fun _ => pureM .next) s) Dn := p
    refine PostD.imp (PostS.bindD (σ := σ) p) fun v H1 ⟨F1, s1, φ1, d, g, rl1, rp, p1⟩ => ?_
    unfold bindM R.bind at p1
    cases e1 : setTg tg d s1 with
    | ok u s2 =>
      rw [e1] at p1
      exact setTg_ok rl1 rp e1 fun σ' ⟨φ', r', _⟩ _ _ _ => p1 σ' H1 F1 φ' (Same.refl _) r'
    | exc c s2 => exact (setTg_exc e1).elim
    | stuck => rw [e1] at p1; exact p1.elim⟩
theorem qs_ret (he : PX X W LT e (ev cf ia)) : QS X W (.Return (some e) pos) (evS cf (.ret ia)) := PS.imp (ps_ret (PX.d he)) fun Dn σ H ⟨fx, Fz, s, φ, rl, p⟩ => ⟨fx, Fz, s, φ, rl, by
    have p : PostS X.K X.mg W fx Fz (bindM (one1 (ev cf ia)) (fun d => pureM (.ret d)) s) Dn := p
    exact PostD.imp (PostS.bindD (σ := σ) p) fun v H1 ⟨F1, s1, φ1, d, g, rl1, rp, p1⟩ => p1 v σ H1 F1 φ1 (Same.refl _) rl1 rp⟩
theorem qs_expr (he : PX X W LT e (ev cf ia)) (hs : swapsWith e none pos.line X.env = pure false) : QS X W (.Expr e pos) (evS cf (.expr ia)) := PS.imp (ps_expr (PX.d he) hs) fun Dn σ H ⟨fx, Fz, s, φ, rl, p⟩ => ⟨fx, Fz, s, φ, rl, by
    have p : PostS X.K X.mg W fx Fz (bindM (one1 (ev cf ia)) (fun _ => pureM .next) s) Dn := p
    exact PostD.imp (PostS.bindD (σ := σ) p) fun v H1 ⟨F1, s1, φ1, d, g, rl1, rp, p1⟩ => p1 σ H1 F1 φ1 (Same.refl _) rl1⟩
theorem qs_pass : QS X W (.Pass pos) (evS cf .skip) := PS.imp ps_pass fun Dn σ H ⟨fx, Fz, s, φ, rl, p⟩ => p σ H Fz φ (Same.refl _) rl
theorem qs_doc {z : Str} {j : Nat} : QS X W (.Expr (.Constant (.str z) j pos') pos) (evS cf .skip) := PS.imp ps_doc fun Dn σ H ⟨fx, Fz, s, φ, rl, p⟩ => p σ H Fz φ (Same.refl _) rl
theorem qs_brk : QS X W (.Break pos) (evS cf .brk) := PS.imp ps_break fun Dn σ H ⟨fx, Fz, s, φ, rl, p⟩ => p σ H Fz φ (Same.refl _) rl
theorem qs_cont : QS X W (.Continue pos) (evS cf .cont) := PS.imp ps_continue fun Dn σ H ⟨fx, Fz, s, φ, rl, p⟩ => p σ H Fz φ (Same.refl _) rl
theorem qs_if {u v : List Stmt} (ht : PXT X W LT e (evB cf ia)) (ha : QSs X W u (evS cf sa)) (hb : QSs X W v (evS cf sb)) : QS X W (.If e u v pos) (evS cf (.ife ia sa sb)) :=
  PS.imp (ps_if ht ha hb) fun Dn σ H ⟨fx, Fz, s, φ, rl, p⟩ => ⟨fx, Fz, s, φ, rl, by
    have p : PostS X.K X.mg W fx Fz (bindM (evB cf ia) (fun c => match c with | true => evS cf sa | false => evS cf sb) s) Dn := p
    refine PostB.imp (PostS.bindB (σ := σ) p) fun c H1 ⟨F1, s1, φ1, g, rl1, p1⟩ => ?_
    cases c with
    | true => exact iteT ⟨fx, F1, s1, φ1, rl1, p1⟩
    | false => exact iteF ⟨fx, F1, s1, φ1, rl1, p1⟩⟩
theorem qs_raise {t : L2.St → Hp → XK → Prop} {C : Value} (hc : X.calm = true) (tk : L2N.Takes X W) (he : L2N.PMk X e (fun _ H Q => Q C none H)) (hm : X.mg x = some C) : QS X W (.Raise (some e) none pos) (evS cf (.raise x)) :=
  PS.imp (L2N.ps_raise hc tk he) fun Dn σ H ⟨fx, Fz, s, φ, rl, p⟩ => p C σ H Fz φ hm (Same.refl _) rl
end
section
variable {X : Cx} {W : WX} {cf : CF} {e a b c tgE iter : Expr} {st : Stmt} {sts : List Stmt} {pos p pos' : Pos} {ia ib ic il : IE} {sa sb : IS} {i : Nat} {x : Str} {tg : Tg} {k : Itk}
theorem PostI.of {fx : Fx} {Fz H : Hp} {σ : L2.St} {s : S} {φ : Nat → List Addr} {m : M (List D)} {f : List D → M Fl} {Dn : Ends} {Rr : It → Hp → Prop} (h : PostS X.K X.mg W fx Fz (bindM m f s) Dn)
    (hr : ∀ ys s1 J H1 F1 φ1, m s = .ok ys s1 → Same Fz F1 → Rel X.K fx F1 σ H1 s1 φ1 → Wk X.K F1 J ys → PostS X.K X.mg W fx F1 (f ys s1) Dn → Rr J H1) : PostI X.K X.mg W LT fx Fz H s φ σ (m s) Rr := by
  unfold bindM R.bind at h
  cases e : m s with
  | ok ys s1 =>
    rw [e] at h
    exact fun J H' F' φ' g rl wk => hr ys s1 J H' F' φ' e g.fz rl wk (PostS.mono g.fz h)
  | exc c s1 => rw [e] at h; exact h.exc
  | stuck => rw [e] at h; exact h.elim
theorem qs_for (hp : PassesOwn (model X.prog X.w) X.A X.env X.xe) (hc : X.calm = true) (hi : PXI X W LT tgE iter (itM k (ev cf il))) (hg : PG X tgE (tgR X.K tg)) (hb : QSs X W sts (evS cf sa)) (hs : ∀ x, foldedSetIterable iter X.env x = pure x) :
    QS X W (.For tgE iter sts [] pos) (evS cf (.forS tg k il sa)) :=
  PS.imp (ps_for hp hc hi hg hb hs) fun Dn σ H ⟨fx, Fz, s, φ, rl, p⟩ => ⟨fx, Fz, s, φ, rl, by
    have p : PostS X.K X.mg W fx Fz (bindM (itM k (ev cf il)) (fun ys => forM tg (evS cf sa) ys) s) Dn := p
    refine PostI.of (σ := σ) p fun ys s1 J H1 F1 φ1 e1 g1 rl1 wk p1 => ?_
    refine ⟨fun i m σ H => m = ys.length - i ∧ i ≤ ys.length ∧ ∃ Fi si φi, Same F1 Fi ∧ Rel X.K fx Fi σ H si φi ∧ PostS X.K X.mg W fx Fi (forM tg (evS cf sa) (ys.drop i) si) Dn, ⟨_, rfl, Nat.zero_le _, F1, s1, φ1, Same.refl _, rl1, p1⟩, ?_⟩
    rintro i m σi Hi ⟨rfl, hi, Fi, si, φi, gi, rli, pi⟩
    obtain ⟨wgo, wstop⟩ := wk Fi Hi gi rli.sub i
    by_cases hlt : i < ys.length
    · obtain ⟨go, yld⟩ := wgo _ (List.getElem?_eq_getElem hlt)
      rw [List.drop_eq_getElem_cons hlt] at pi
      have pi : PostS X.K X.mg W fx Fi (bindM (setTg tg ys[i]) (fun _ => bindM (evS cf sa) fun f => match f with | .next => forM tg (evS cf sa) (ys.drop (i + 1)) | .cont => forM tg (evS cf sa) (ys.drop (i + 1)) | .brk => pureM .next | .ret d => pureM (.ret d)) si) Dn := pi
      refine .inr ⟨go, fun σ' H' => ∃ Fj sj φj, Same Fi Fj ∧ Rel X.K fx Fj σ' H' sj φj ∧ PostS X.K X.mg W fx Fj (forM tg (evS cf sa) (ys.drop (i + 1)) sj) Dn, fun σ' H' ⟨Fj, sj, φj, k1, k2, k3⟩ => ⟨ys.length - (i + 1), by omega, rfl, hlt, Fj, sj, φj, gi.trans k1, k2, k3⟩, fun x H' hy => ?_⟩
      obtain ⟨F3, g3, _, tr, rpx⟩ := yld x H' hy
      have r3 := (tr _ _ _ _ rli).1
      unfold bindM R.bind at pi
      cases e2 : setTg tg ys[i] si with
      | exc c s2 => exact (setTg_exc e2).elim
      | stuck => rw [e2] at pi; exact pi.elim
      | ok u s2 =>
        rw [e2] at pi
        dsimp only at pi
        refine setTg_ok r3 rpx e2 fun σ' ⟨φ', r', _⟩ _ _ _ => ⟨fx, F3, s2, φ', r', ?_⟩
        cases e3 : evS cf sa s2 with
        | ok f s3 =>
          rw [e3] at pi
          cases f with
          | next => exact fun σ4 H4 F4 φ4 g4 r4 => ⟨F4, s3, φ4, g3.trans g4, r4, PostS.mono (g3.trans g4) pi⟩
          | cont => exact fun σ4 H4 F4 φ4 g4 r4 => ⟨F4, s3, φ4, g3.trans g4, r4, PostS.mono (g3.trans g4) pi⟩
          | brk => exact fun σ4 H4 F4 φ4 g4 r4 => pi σ4 H4 F4 φ4 (g3.trans g4) r4
          | ret d => exact fun v σ4 H4 F4 φ4 g4 r4 rp => pi v σ4 H4 F4 φ4 (g3.trans g4) r4 rp
        | exc c s3 => rw [e3] at pi; exact fun C σ4 H4 F4 φ4 hm g4 r4 => pi C σ4 H4 F4 φ4 hm (g3.trans g4) r4
        | stuck => rw [e3] at pi; exact pi.elim
    · have hi' : i = ys.length := by omega
      subst hi'
      rw [List.drop_length] at pi
      exact .inl ⟨wstop (Nat.le_refl _), pi σi Hi Fi φi (Same.refl _) rli⟩⟩
theorem qs_while (hp : PassesOwn (model X.prog X.w) X.A X.env X.xe) (ht : PXT X W LT e (evB cf ia)) (hb : QSs X W sts (evS cf sa)) : QS X W (.While e sts [] pos) (evS cf (.whl ia sa)) :=
  PS.imp (ps_while hp ht hb) fun Dn σ H ⟨fx, Fz, s, φ, rl, p⟩ => by
    have p : PostS X.K X.mg W fx Fz (whlM (evB cf ia) (evS cf sa) whlFuel s) Dn := p
    refine ⟨fun m σ H => ∃ Fi si φi, Same Fz Fi ∧ Rel X.K fx Fi σ H si φi ∧ PostS X.K X.mg W fx Fi (whlM (evB cf ia) (evS cf sa) m si) Dn, ⟨whlFuel, Fz, s, φ, Same.refl _, rl, p⟩, ?_⟩
    rintro m σi Hi ⟨Fi, si, φi, gi, rli, pi⟩
    cases m with
    | zero => exact pi.elim
    | succ m =>
      have pi : PostS X.K X.mg W fx Fi (bindM (evB cf ia) (fun b => match b with
        | false => pureM .next
        | true => bindM (evS cf sa) fun f => match f with | .next => whlM (evB cf ia) (evS cf sa) m | .cont => whlM (evB cf ia) (evS cf sa) m | .brk => pureM .next | .ret d => pureM (.ret d)) si) Dn := pi
      refine ⟨fx, Fi, si, φi, rli, PostB.imp (PostS.bindB (σ := σi) pi) fun c H1 ⟨F1, s1, φ1, g1, rl1, p1⟩ => ?_⟩
      cases c with
      | false => exact iteF (p1 σi H1 F1 φ1 (Same.refl _) rl1)
      | true =>
        refine iteT ⟨fun σ' H' => ∃ Fj sj φj, Same Fi Fj ∧ Rel X.K fx Fj σ' H' sj φj ∧ PostS X.K X.mg W fx Fj (whlM (evB cf ia) (evS cf sa) m sj) Dn, fun σ' H' ⟨Fj, sj, φj, k1, k2, k3⟩ => ⟨m, Nat.lt_succ_self m, Fj, sj, φj, gi.trans k1, k2, k3⟩, ?_⟩
        refine ⟨fx, F1, s1, φ1, rl1, ?_⟩
        dsimp only at p1
        unfold bindM R.bind at p1
        cases e3 : evS cf sa s1 with
        | ok f s3 =>
          rw [e3] at p1
          cases f with
          | next => exact fun σ4 H4 F4 φ4 g4 r4 => ⟨F4, s3, φ4, g1.trans g4, r4, PostS.mono g4 p1⟩
          | cont => exact fun σ4 H4 F4 φ4 g4 r4 => ⟨F4, s3, φ4, g1.trans g4, r4, PostS.mono g4 p1⟩
          | brk => exact fun σ4 H4 F4 φ4 g4 r4 => p1 σ4 H4 F4 φ4 g4 r4
          | ret d => exact fun v σ4 H4 F4 φ4 g4 r4 rp => p1 v σ4 H4 F4 φ4 g4 r4 rp
        | exc c s3 => rw [e3] at p1; exact fun C σ4 H4 F4 φ4 hm g4 r4 => p1 C σ4 H4 F4 φ4 hm g4 r4
        | stuck => rw [e3] at p1; exact p1.elim
end
end VL
set_option maxHeartbeats 1000000
namespace VL
open PySem PySem.Spec PyProof.Rows L2
variable [Tabl]
theorem putF_self {f : Str} {v : V} : ∀ {fvs : List (Str × V)}, fvs.lookup f = some v → L2.putF f v fvs = fvs
  | [], h => by cases h
  | (g, x) :: r, h => by
    unfold L2.putF
    by_cases e : g = f
    · subst e
      simp at h
      rw [if_pos rfl, h]
    · have hb : (f == g) = false := by simpa using fun z : f = g => e z.symm
      rw [List.lookup_cons, hb] at h
      rw [if_neg e, putF_self h]
section
variable {K : PySem.W.Frag} {fx : Fx} {L : Nat → Prop} {Fz H : Hp} {σ : L2.St} {s : S} {φ : Nat → List Addr}
theorem Rel.place (r : Rel K fx Fz σ H s φ) {p : Pl} {o : Ob} (q : VL.atPl s p = some (.o o)) : ∃ a fpf, AtV σ H p (.ref a) ∧ ObOk K Fz H o a fpf ∧ (∀ b ∈ fpf, b ∈ φ p.i) ∧
    ∀ F' H' o' fq s', putPl s p o' = some s' → Same Fz F' → Same F' H' → (∀ b, b ∉ fpf → ∀ u, H b = some u → NT u → H' b = some u) → (∀ b u, H b = some u → NT u → ∃ u', H' b = some u' ∧ NT u') → ObOk K F' H' o' a fq →
      (∀ b ∈ fq, b ∈ fpf ∨ strip H b = none) → (∀ b u, H b = some u → NT u → Fz b = none → F' b = none) → (∀ b ∈ fq, F' b = none) → (∀ b u, F' b = some u → NT u) → LamX.Tabs Tabl.T H' → L p.i → ∃ φ', Rel K fx F' σ H' s' φ' ∧ Go L Fz H s φ F' H' s' φ' := by
  obtain ⟨i, f⟩ := p
  cases f with
  | none =>
    obtain ⟨v, fp, h1, ⟨a, rfl, h2⟩, h3, _, h5⟩ := r.atPl q
    obtain ⟨w, k1, k2⟩ := h5 o rfl rfl
    refine ⟨a, fp, h1, h2, h3, fun F' H' o' fq s' hp hF hS hk hd ho hf hF0 hFf hN hT hL => ?_⟩
    have e : s' = s.set i (some (.ob w o')) := by
      unfold putPl at hp
      rw [k1] at hp
      cases hp; rfl
    subst e
    rw [k2] at hk hf
    exact ⟨_, r.mutate k1 h1 hF hS hk hd hL ho hf hF0 hFf hN hT⟩
  | some f =>
    obtain ⟨v, fp, h1, h2, h3, h4, _⟩ := r.atPl q
    obtain ⟨w, c, fs, k1, k2⟩ := h4 f rfl
    have k1 : s[i]? = some (some (.ob w (.ins c fs))) := k1
    obtain ⟨v', g1, rt, rfl, dx, fvs, fp', m1, m2, m3, m4⟩ := r.sl i _ k1
    obtain ⟨fpf, n1, n2, n3⟩ := FsOk.split f m4
    rw [k2] at n2
    obtain ⟨v0, l1, a, rfl, l2⟩ := n2
    have hsub : ∀ b ∈ fpf, b ∈ φ i := fun b hb => by rw [m2]; exact List.mem_cons_of_mem _ (n1 b hb)
    refine ⟨a, fpf, ⟨rt, c, dx, fvs, g1, m1, l1⟩, l2, hsub, fun F' H' o' fq s' hp hF hS hk hd ho hf hF0 hFf hN hT hL => ?_⟩
    have e : s' = s.set i (some (.ob w (.ins c (fs.put f (.o o'))))) := by
      unfold putPl at hp
      dsimp only at hp
      rw [k1] at hp
      dsimp only at hp
      rw [k2] at hp
      cases hp; rfl
    subst e
    have same : ∀ b ∈ fp', b ∉ fpf → H' b = H b := fun b hb hn => by
      obtain ⟨u, e, m⟩ := m4.dom b hb
      rw [e]; exact hk b hn u e m.nt
    have fresh : ∀ b ∈ fq, b ∈ fpf ∨ b ∉ fp' := fun b hb => by
      rcases hf b hb with z | z
      · exact .inl z
      · refine .inr fun z' => ?_
        obtain ⟨u, e, m⟩ := m4.dom b z'
        exact strip_none z e m.nt
    obtain ⟨fp2, j1, j2⟩ := n3 F' H' (.o o') (.ref a) fq hF same ⟨a, rfl, ho⟩ fresh
    rw [putF_self l1] at j1
    have nrt : rt ∉ fpf := fun z => m3 (n1 rt z)
    have hrt : H' rt = some (.ins (Tabl.C c) dx fvs) := hk rt nrt _ m1 (fun _ z => nomatch z)
    have cases2 : ∀ b ∈ fp2, b ∈ fq ∨ (b ∈ fp' ∧ b ∉ fpf) := j2
    refine ⟨_, r.mutate k1 g1 hF hS (fun b hb u e n => hk b (fun z => hb (hsub b z)) u e n) hd hL ⟨dx, fvs, fp2, hrt, rfl, fun z => ?_, j1⟩ (fun b hb => ?_) hF0 (fun b hb => ?_) hN hT⟩
    · rcases cases2 rt z with z | z
      · rcases hf rt z with z | z
        · exact nrt z
        · exact strip_none z m1 (fun _ z => nomatch z)
      · exact m3 z.1
    · rcases List.mem_cons.mp hb with rfl | hb
      · exact .inl (by rw [m2]; exact List.mem_cons_self)
      · rcases cases2 b hb with z | z
        · rcases hf b z with z | z
          · exact .inl (hsub b z)
          · exact .inr z
        · exact .inl (by rw [m2]; exact List.mem_cons_of_mem _ z.1)
    · have old : ∀ b ∈ φ i, b ∉ fpf → F' b = none := fun b hb hn => by
        obtain ⟨u, e, m⟩ := r.foot k1 b hb
        exact hF0 b u e m.nt (r.fz i w _ k1 b hb).1
      rcases List.mem_cons.mp hb with rfl | hb
      · exact old _ (by rw [m2]; exact List.mem_cons_self) nrt
      · rcases cases2 b hb with z | z
        · exact hFf b z
        · exact old b (by rw [m2]; exact List.mem_cons_of_mem _ z.1) z.2
theorem Rel.setPl (r : Rel K fx Fz σ H s φ) {p : Pl} {xs ys : List D} (q : VL.atPl s p = some (.o (.lst xs))) : ∃ a vs, AtV σ H p (.ref a) ∧ H a = some (.lst vs) ∧ Rps K Fz vs xs ∧
    ∀ ws s', Rps K Fz ws ys → putPl s p (.lst ys) = some s' → ∃ φ', Rel K fx Fz σ (upd H a (.lst ws)) s' φ' := by
  obtain ⟨a, fpf, h1, ⟨rfl, vs, h2, h3⟩, h4, h5⟩ := r.place (L := LT) q
  refine ⟨a, vs, h1, h2, h3, fun ws s' hw hp => ?_⟩
  have hF : Fz a = none := by
    have ha := h4 a (by simp)
    cases hs : s[p.i]? with
    | none => unfold VL.atPl at q; rw [hs] at q; cases q
    | some x =>
      cases x with
      | none => unfold VL.atPl at q; rw [hs] at q; cases q
      | some x =>
        cases x with
        | d x => unfold VL.atPl at q; rw [hs] at q; cases hf : p.f <;> (rw [hf] at q; cases q)
        | clo n c => unfold VL.atPl at q; rw [hs] at q; cases hf : p.f <;> (rw [hf] at q; cases q)
        | ob w o => exact (r.fz p.i w o hs a ha).1
  obtain ⟨φ', r', _⟩ := h5 Fz (upd H a (.lst ws)) (.lst ys) [a] s' hp (Same.refl _) (fun b u e => by rw [upd_ne (ne_of_none e hF)]; exact r.sub b u e) (fun b hb u e n => by rw [upd_ne (by simpa using hb)]; exact e)
    (fun b u e n => by
      by_cases z : b = a
      · subst z; exact ⟨_, upd_same, nt_lst _⟩
      · exact ⟨u, by rw [upd_ne z]; exact e, n⟩) ⟨rfl, ws, upd_same, hw⟩ (fun b hb => .inl hb) (fun b u e n z => z) (fun b hb => by simp at hb; rw [hb]; exact hF) r.tt.hF
    (tabs_mut r.tt.tb fun b u e n => by rw [upd_ne (fun z => by rw [z, h2] at e; cases e; exact n True.intro)]; exact e) True.intro
  exact ⟨φ', r'⟩
theorem Rel.field (r : Rel K fx Fz σ H s φ) {i : Nat} {f : Str} {x : RV} {y : AV} {v : V} {fp : List Addr} {s' : S} (h : RvOk K fx Fz σ H s φ x v fp) (hy : x.toAV = some y) (hp : VL.putF s i f y = some s') :
    ∃ a c dx fvs, σ[i]? = some (some (.ref a)) ∧ H a = some (.ins (Tabl.C c) dx fvs) ∧ fvs.length < 1000 ∧ ∃ φ', Rel K fx Fz σ (upd H a (.ins (Tabl.C c) dx (L2.putF f v fvs))) s' φ' := by
  unfold VL.putF at hp
  split at hp
  · next w c fs k1 =>
    split at hp
    · next hl =>
      cases hp
      obtain ⟨v', g1, a, rfl, dx, fvs, fp', m1, m2, m3, m4⟩ := r.sl i _ k1
      refine ⟨a, c, dx, fvs, g1, m1, by rw [m4.len]; omega, ?_⟩
      have hi : i < s.length := (List.getElem?_eq_some_iff.mp k1).1
      have ha : a ∈ φ i := by rw [m2]; exact List.mem_cons_self
      have hFa := (r.fz i w _ k1 a ha).1
      -- what is stored
      have sto : AvOk K Fz H y v fp ∧ (∀ b ∈ fp, Fz b = none ∧ fx.H0 b = none ∧ ∀ (j : Nat) w o, s[j]? = some (some (.ob w o)) → b ∉ φ j) := by
        cases x with
        | d x => cases hy; exact ⟨h, fun b hb => by rw [h.1] at hb; simp at hb⟩
        | clo n c => cases hy; exact ⟨h, fun b hb => by rw [h.1] at hb; simp at hb⟩
        | bor p => cases hy
        | ob o => cases hy; exact ⟨h.1, fun b hb => ⟨(h.2.1 b hb).1, (h.2.1 b hb).2, fun j w o q => h.2.2 j w o q b hb⟩⟩
      obtain ⟨fpf, n1, n2, n3⟩ := FsOk.split f m4
      have na : ∀ b ∈ fp', b ≠ a := fun b hb z => m3 (z ▸ hb)
      have na2 : ∀ b ∈ fp, b ≠ a := fun b hb z => (sto.2 b hb).2.2 i w _ k1 (z ▸ ha)
      have hE : ∀ b, b ≠ a → upd H a (.ins (Tabl.C c) dx (L2.putF f v fvs)) b = H b := fun b hb => upd_ne hb
      obtain ⟨fp2, j1, j2⟩ := n3 Fz (upd H a (.ins (Tabl.C c) dx (L2.putF f v fvs))) y v fp (Same.refl _) (fun b hb _ => hE b (na b hb)) (sto.1.keep (Same.refl _) fun b hb => hE b (na2 b hb)) (fun b hb => .inr fun z => (sto.2 b hb).2.2 i w _ k1 (by rw [m2]; exact List.mem_cons_of_mem _ z))
      have slots : ∀ (j : Nat) z, (s.set i (some (.ob w (.ins c (fs.put f y)))))[j]? = some (some z) → (j = i ∧ z = .ob w (.ins c (fs.put f y))) ∨ (j ≠ i ∧ s[j]? = some (some z)) := fun j z q => by
        by_cases hj : j = i
        · subst hj; rw [List.getElem?_set_self hi] at q; cases q; exact .inl ⟨rfl, rfl⟩
        · rw [List.getElem?_set_ne (Ne.symm hj)] at q; exact .inr ⟨hj, q⟩
      have inn : ∀ b ∈ a :: fp2, b ∈ φ i ∨ b ∈ fp := fun b hb => by
        rcases List.mem_cons.mp hb with rfl | hb
        · exact .inl ha
        · rcases j2 b hb with z | z
          · exact .inr z
          · exact .inl (by rw [m2]; exact List.mem_cons_of_mem _ z.1)
      refine ⟨fun j => if j = i then a :: fp2 else φ j, ⟨fun b u e => by rw [hE b (ne_of_none e hFa)]; exact r.sub b u e, fun b u e => ?_, fun b u e n => ?_, r.f0, r.nf, fun j z q => ?_, fun j w1 o1 q b hb => ?_, fun j k w1 w2 o1 o2 hn q1 q2 b hb => ?_, fun j b q => ?_, by simpa using r.len, ⟨r.tt.h0, r.tt.hF, tabs_mut r.tt.tb fun b u e n => ?_⟩⟩⟩
      · by_cases z : b = a
        · subst z; exact ⟨_, upd_same, fun _ z => nomatch z⟩
        · rw [hE b z]; exact r.dom b u e
      · have e' := r.old b u e n
        rw [hE b]
        · exact e'
        · rintro rfl
          rcases (r.fz i w _ k1 b ha).2 with q | q
          · rw [e] at q; cases q
          · exact n i q.2
      · rcases slots j z q with ⟨rfl, rfl⟩ | ⟨hj, q⟩
        · refine ⟨_, g1, a, rfl, ?_⟩
          rw [if_pos rfl]
          refine ⟨dx, _, fp2, upd_same, rfl, fun z => ?_, j1⟩
          rcases j2 a z with z | z
          · exact na2 a z rfl
          · exact na a z.1 rfl
        · rw [if_neg hj]
          obtain ⟨u, l1, l2⟩ := r.sl j z q
          refine ⟨u, l1, l2.keep (Same.refl _) fun w1 o1 e b hb => hE b ?_⟩
          rintro rfl
          exact r.dj j i w1 w o1 _ hj (by rw [q, e]) k1 b hb ha
      · rcases slots j _ q with ⟨rfl, e⟩ | ⟨hj, q⟩
        · cases e
          rw [if_pos rfl] at hb
          rcases inn b hb with z | z
          · exact r.fz j _ _ k1 b z
          · exact ⟨(sto.2 b z).1, .inl (sto.2 b z).2.1⟩
        · rw [if_neg hj] at hb
          exact r.fz j w1 o1 q b hb
      · rcases slots j _ q1 with ⟨rfl, e⟩ | ⟨hj, p1⟩
        · rcases slots k _ q2 with ⟨rfl, _⟩ | ⟨hk, p2⟩
          · exact absurd rfl hn
          · rw [if_pos rfl] at hb
            rw [if_neg hk]
            rcases inn b hb with z | z
            · exact r.dj j k w w2 _ o2 hn k1 p2 b z
            · exact (sto.2 b z).2.2 k w2 o2 p2
        · rw [if_neg hj] at hb
          rcases slots k _ q2 with ⟨rfl, _⟩ | ⟨hk, p2⟩
          · rw [if_pos rfl]
            intro z
            rcases inn b z with z | z
            · exact r.dj j k w1 w o1 _ hn p1 k1 b hb z
            · exact (sto.2 b z).2.2 j w1 o1 p1 hb
          · rw [if_neg hk]
            exact r.dj j k w1 w2 o1 o2 hn p1 p2 b hb
      · obtain ⟨l1, o1, l2⟩ := r.rt j b q
        refine ⟨l1, ?_⟩
        by_cases hj : j = i
        · subst hj
          rw [k1] at l2; cases l2
          exact ⟨_, by rw [List.getElem?_set_self hi]⟩
        · exact ⟨o1, by rw [List.getElem?_set_ne (Ne.symm hj)]; exact l2⟩
      · rw [hE b (fun z => by rw [z, m1] at e; cases e; exact n True.intro)]; exact e
    · cases hp
  · cases hp
end
section
variable {X : Cx} {W : WX} {L' : Nat → Prop} {cf : CF} {e a b c o k : Expr} {pos p pos' : Pos} {ia ib ik ie : IE} {i : Nat} {x f : Str} {q : Pl}
theorem PostS.bindO {α : Type} {fx : Fx} {Fz : Hp} {s : S} {o : Option α} {g : α → M Fl} {Dn : Ends} (h : PostS X.K X.mg W fx Fz (bindM (optM o) g s) Dn) : ∃ a, o = some a ∧ PostS X.K X.mg W fx Fz (g a s) Dn := by
  unfold bindM R.bind optM at h
  cases o with
  | none => exact h.elim
  | some a => exact ⟨a, rfl, h⟩
theorem PostS.st {fx : Fx} {Fz : Hp} {o : Option S} {Dn : Ends} (h : PostS X.K X.mg W fx Fz (stM o) Dn) : ∃ s', o = some s' ∧ ∀ σ' H' Fz' φ', Same Fz Fz' → Rel X.K fx Fz' σ' H' s' φ' → Dn.nx σ' H' := by
  cases o with
  | none => exact h.elim
  | some s' => exact ⟨s', rfl, h⟩
theorem PostS.lst {fx : Fx} {Fz : Hp} {s : S} {g : M Fl} {Dn : Ends} (h : PostS X.K X.mg W fx Fz (bindM (isLst q) (fun _ => g) s) Dn) : (∃ xs, VL.atPl s q = some (.o (.lst xs))) ∧ PostS X.K X.mg W fx Fz (g s) Dn := by
  unfold bindM R.bind at h
  cases e1 : isLst q s with
  | ok u s' =>
    rw [e1] at h
    unfold isLst at e1
    split at e1
    · next xs hq => cases e1; exact ⟨⟨xs, hq⟩, h⟩
    · cases e1
  | exc c s' => unfold isLst at e1; split at e1 <;> cases e1
  | stuck => rw [e1] at h; exact h.elim
theorem atPl_ob {s : S} {y : Ob} (h : VL.atPl s q = some (.o y)) : ∃ w o, s[q.i]? = some (some (.ob w o)) := by
  unfold VL.atPl at h
  cases e : s[q.i]? with
  | none => rw [e] at h; cases h
  | some z =>
    cases z with
    | none => rw [e] at h; cases h
    | some z =>
      rw [e] at h
      cases z with
      | d _ => cases hf : q.f <;> (rw [hf] at h; cases h)
      | clo _ _ => cases hf : q.f <;> (rw [hf] at h; cases h)
      | ob w o => exact ⟨w, o, rfl⟩
theorem PostS.keepD {L' : Nat → Prop} {fx : Fx} {Fz H : Hp} {σ : L2.St} {s : S} {φ : Nat → List Addr} {m : M D} {g : D → M Fl} {Dn : Ends} {Q : VK} (h : PostS X.K X.mg W fx Fz (bindM m g s) Dn)
    (hq : ∀ v H1 F1 s1 φ1 d, Go L' Fz H s φ F1 H1 s1 φ1 → Rel X.K fx F1 σ H1 s1 φ1 → Rp X.K F1 v d → PostS X.K X.mg W fx F1 (g d s1) Dn → Q v H1) : PostD X.K X.mg W L' fx Fz H s φ σ (m s) Q := by
  unfold bindM R.bind at h
  cases e : m s with
  | ok d s' =>
    rw [e] at h
    exact fun v H' F' φ' g' rl rv => hq v H' F' s' φ' d g' rl rv (h.mono g'.fz)
  | exc c s' => rw [e] at h; exact fun C H' F' φ' hm g' r => h C σ H' F' φ' hm g'.fz r
  | stuck => rw [e] at h; exact h.elim
theorem qs_setI (hp : q.f ≠ none → ¬ L' q.i) (ho : PE X o (tPl q)) (hk : PX X W L' k (ev cf ik)) (he : PX X W LT e (ev cf ie)) (ha : ∀ v, assign (.Subscript o k p) X.env v = (do
      let ov ← holding [v] (eval o X.env)
      let iv ← holding [v, ov] (eval k X.env)
      standAt p
      holding [v, ov, iv] (setItem ov iv v)
      release [v, ov, iv] [])) (hs : swapsWithSole [.Subscript o k p] e pos.line X.env = pure false) (hw : swappedStores [.Subscript o k p] e X.env = pure none)
    (h1 : (assignEach [.Subscript o k p] X.env).map (·.2) = [assign (.Subscript o k p) X.env]) : QS X W (.Assign [.Subscript o k p] e pos) (evS cf (.setI q ik ie)) :=
  PS.imp (ps_asg (PX.d he) (pg_sub ho (PX.d hk) set_list ha) hs hw h1) fun Dn σ H ⟨fx, Fz, s, φ, rl, p⟩ => ⟨fx, Fz, s, φ, rl, by
    refine PostD.imp (PostS.bindD (σ := σ) p) fun v H1 ⟨F1, s1, φ1, d, g1, rl1, rp1, p1⟩ => ?_
    obtain ⟨⟨xs, hd⟩, p1⟩ := PostS.lst p1
    obtain ⟨a1, vs1, at1, _⟩ := rl1.setPl (ys := []) hd
    refine ⟨_, at1, fx, F1, s1, φ1, rl1, PostS.keepD p1 fun u H2 F2 s2 φ2 d2 g2 rl2 rp2 p2 => ?_⟩
    obtain ⟨s3, hs3, p3⟩ := PostS.st p2
    unfold setIx at hs3
    split at hs3
    · next xs2 j hq =>
      split at hs3
      · next n hn =>
        cases rp2
        obtain ⟨a2, vs2, at2, k1, k2, k3⟩ := rl2.setPl (ys := xs2.set n d) hq
        have ea := AtV.inj at2 (AtV.go rl1 g2 hp (fun _ => atPl_ob hd) at1)
        cases ea
        obtain ⟨φ3, r3⟩ := k3 (vs2.set n v) s3 (k2.set n (rp1.mono g2.fz)) hs3
        exact ⟨a1, vs2, _, n, rfl, rfl, k1, by rw [k2.length]; exact hn, p3 σ _ F2 φ3 (Same.refl _) r3⟩
      · cases hs3
    · cases hs3⟩
theorem qs_app {apos cpos : Pos} (hp : q.f ≠ none → ¬ L' q.i) (ho : PE X o (tPl q)) (he : PX X W L' e (ev cf ie)) (hsw : swapsWith (.Call (.Attribute o "append" apos) [e] [] cpos) none pos.line X.env = pure false)
    (hbase : attributeBase o "append" X.env (eval o X.env) = eval o X.env)
    (hfew : ((backTo cpos (starEach [e] X.env)).all (fun x => !x.1) && (backToKw cpos (keywordEach [] X.env)).all (fun x => x.1.isSome) && decide ([e].length + ([] : List Keyword).length + (if ([] : List Keyword).isEmpty then 0 else 1) < 30)) = true)
    (hline : (apos.endLine == cpos.line) = true) (hs : starEach [e] X.env = (false, eval e X.env) :: starEach [] X.env) : QS X W (.Expr (.Call (.Attribute o "append" apos) [e] [] cpos) pos) (evS cf (.app q ie)) :=
  PS.imp (ps_expr (pe_bm PySem.F.plainAttrs_list PySem.F.slot_list_append PySem.F.type_list_append mt_append ho (pa_cons (PX.d he) pa_nil hs) hbase hfew hline hs rfl) hsw) fun Dn σ H ⟨fx, Fz, s, φ, rl, p⟩ => by
    obtain ⟨⟨xs, hd⟩, p1⟩ := PostS.lst p
    obtain ⟨a1, vs1, at1, h2, _⟩ := rl.setPl (ys := []) hd
    refine ⟨_, at1, .inl ⟨rfl, _, SqL.of h2⟩, fx, Fz, s, φ, rl, PostS.keepD p1 fun u H2 F2 s2 φ2 d2 g2 rl2 rp2 p2 => ?_⟩
    obtain ⟨s3, hs3, p3⟩ := PostS.st p2
    unfold appAt at hs3
    split at hs3
    · next xs2 hq =>
      split at hs3
      · next hl =>
        obtain ⟨a2, vs2, at2, k1, k2, k3⟩ := rl2.setPl (ys := xs2 ++ [d2]) hq
        have ea := AtV.inj at2 (AtV.go rl g2 hp (fun _ => atPl_ob hd) at1)
        cases ea
        obtain ⟨φ3, r3⟩ := k3 (vs2 ++ [u]) s3 (k2.append (.cons rp2 .nil)) hs3
        refine ⟨a1, vs2, u, rfl, rfl, k1, ?_, p3 σ _ F2 φ3 (Same.refl _) r3⟩
        rw [k2.length]
        exact Nat.lt_of_le_of_lt (of_decide_eq_true hl) (by rw [sizeLine_eq]; decide)
      · cases hs3
    · cases hs3
theorem qs_setF (hc : ∀ c, Cls X.K (Tabl.C c) ∧ NoAttr X.K (Tabl.C c) f) (ho : PE X o (tVar i)) (he : PX X W LT e (ev cf ie)) (hs : swapsWith e (some (.Attribute o f pos')) pos.line X.env = pure false) : QS X W (.Assign [.Attribute o f pos'] e pos) (evS cf (.setF i f ie)) :=
  PS.imp (ps_fld ho he hs) fun Dn σ H ⟨fx, Fz, s, φ, rl, p⟩ => ⟨fx, Fz, s, φ, rl, by
    have p : PostS X.K X.mg W fx Fz (bindM (ev cf ie) (fun l => bindM (one l) fun r => bindM (optM r.toAV) fun a s => stM (VL.putF s i f a)) s) Dn := p
    refine Post.imp (PostS.bindR (σ := σ) (H := H) (φ := φ) p (one_of p)) fun v H1 ⟨F1, s1, φ1, r, fp, g, rl1, rv, p1⟩ => ?_
    have p1 : PostS X.K X.mg W fx F1 (bindM (optM r.toAV) (fun a s => stM (VL.putF s i f a)) s1) Dn := p1
    obtain ⟨y, hy, p1⟩ := PostS.bindO p1
    obtain ⟨s2, hs2, p2⟩ := PostS.st p1
    obtain ⟨a, c, dx, fvs, k1, k2, k3, φ2, r2⟩ := rl1.field rv hy hs2
    exact ⟨_, k1, a, _, dx, fvs, rfl, k2, (hc c).1, (hc c).2, k3, p2 σ _ F1 φ2 (Same.refl _) r2⟩⟩
theorem qs_augF {op : Operator} {bo : Bop} {rd : V → V → Hp → VK → Prop} {fI : Int → Int → Int} (hop : InOp X op rd) (hrd : ∀ x y H (Q : VK), Q (.int (fI x y)) H → rd (.int x) (.int y) H Q) (hev : ∀ (x y : D) (z : Int), augI bo x y = some z → ∃ i j, x = .int i ∧ y = .int j ∧ z = fI i j)
    (hc : ∀ c, Cls X.K (Tabl.C c) ∧ NoAttr X.K (Tabl.C c) f) (ho : PE X o (tVar i)) (hLi : ¬ L' i) (he : PX X W L' e (ev cf ie)) : QS X W (.AugAssign (.Attribute o f pos') op e pos) (evS cf (.augF bo i f ie)) :=
  PS.imp (ps_fldaug ho (PX.d he) hop) fun Dn σ H ⟨fx, Fz, s, φ, rl, p0⟩ => by
    have p1 : PostS X.K X.mg W fx Fz (bindM (fldM ⟨i, some f⟩) (fun r => bindM (one1 (ev cf ie)) fun y => bindM (optM r.toD) fun x => bindM (optM (augI bo x y)) fun z s => stM (VL.putF s i f (.d (.int z)))) s) Dn := p0
    clear p0
    rw [show bindM (fldM ⟨i, some f⟩) (fun r => bindM (one1 (ev cf ie)) fun y => bindM (optM r.toD) fun x => bindM (optM (augI bo x y)) fun z s => stM (VL.putF s i f (.d (.int z)))) s = (fldM ⟨i, some f⟩ s).bind (fun r => bindM (one1 (ev cf ie)) fun y => bindM (optM r.toD) fun x => bindM (optM (augI bo x y)) fun z s => stM (VL.putF s i f (.d (.int z)))) from rfl] at p1
    cases e1 : fldM ⟨i, some f⟩ s with
    | exc c s1 => unfold fldM at e1; dsimp only at e1; split at e1 <;> cases e1
    | stuck => rw [e1] at p1; exact p1.elim
    | ok r s1 =>
      rw [e1] at p1
      have hfl : ∃ x, VL.atPl s ⟨i, some f⟩ = some x ∧ (∀ d, r.toD = some d → x = .d d) ∧ s1 = s := by
        unfold fldM at e1
        dsimp only at e1
        split at e1
        · next x hx => cases e1; exact ⟨_, hx, (fun d hd => by cases hd; rfl), rfl⟩
        · next n c hx => cases e1; exact ⟨_, hx, (fun d hd => by cases hd), rfl⟩
        · cases e1
      obtain ⟨x, hx, hxd, rfl⟩ := hfl
      obtain ⟨v, fp, at1, av, _, h4, _⟩ := rl.atPl hx
      obtain ⟨w, c, fs, k1, k2⟩ := h4 f rfl
      obtain ⟨a, c', dx, fvs, l1, l2, l3⟩ := at1
      have p : PostS X.K X.mg W fx Fz (bindM (one1 (ev cf ie)) (fun y => bindM (optM r.toD) fun x => bindM (optM (augI bo x y)) fun z s => stM (VL.putF s i f (.d (.int z)))) s1) Dn := p1
      refine ⟨_, l1, a, _, dx, fvs, v, rfl, l2, (hc c').1, (hc c').2, l3, fx, Fz, s1, φ, rl, PostS.keepD p fun y H2 F2 s2 φ2 d2 g2 rl2 rp2 p2 => ?_⟩
      obtain ⟨d1, hd1, p2⟩ := PostS.bindO p2
      have ex := hxd d1 hd1
      subst ex
      obtain ⟨z, hz, p2⟩ := PostS.bindO p2
      obtain ⟨n, m, rfl, rfl, rfl⟩ := hev _ _ _ hz
      obtain ⟨s3, hs3, p3⟩ := PostS.st p2
      cases rp2
      have av : Rp X.K Fz v (.int n) := av.2
      cases av
      refine hrd n m _ _ ?_
      obtain ⟨a', c2, dx2, fvs2, q1, q2, q3, φ3, r3⟩ := rl2.field (x := .d (.int (fI n m))) (v := .int (fI n m)) (fp := []) ⟨rfl, .int _⟩ rfl hs3
      rw [l1] at q1; cases q1
      have hroot : H2 a = some (.ins (Tabl.C c') dx fvs) := by
        have := AtV.go rl g2 (p := ⟨i, some f⟩) (fun _ => hLi) (fun _ => ⟨w, _, k1⟩) ⟨a, c', dx, fvs, l1, l2, l3⟩
        refine g2.fr a _ l2 (fun _ z => nomatch z) fun j w' o' hj hq z => ?_
        have hji : j ≠ i := fun z => hLi (z ▸ hj)
        obtain ⟨v', m1, a', e', m2⟩ := rl.sl i _ k1
        rw [l1] at m1; cases m1; cases e'
        exact rl.dj j i w' w o' _ hji hq k1 _ z m2.root
      rw [hroot] at q2
      have e2 : dx2 = dx ∧ fvs2 = fvs ∧ Tabl.C c2 = Tabl.C c' := by injection Option.some.inj q2 with z1 z2 z3; exact ⟨z2.symm, z3.symm, z1.symm⟩
      obtain ⟨rfl, rfl, e3⟩ := e2
      rw [e3] at r3
      exact ⟨dx2, fvs2, hroot, q3, p3 σ _ F2 φ3 (Same.refl _) r3⟩
end
end VL
set_option maxHeartbeats 2000000
namespace VL
open PySem PySem.Spec PyProof.Rows L2
def blkK (sc : Scope) : ScopeKind := if sc.kind.isAnnotationScope then .function else sc.kind
def swN (sc : Scope) (line : Nat) : Expr → Option Str
  | .Name id q => if sc.names.lookup id == some .local && q.line == line then some id else none
  | _ => none
def swP (sc : Scope) (ts vs : List Expr) : Option (Option (List Str)) :=
  if !(ts.length == 2 || ts.length == 3) || vs.length != ts.length || blkK sc != .function then some none
  else if vs.any (fun | .Starred .. => true | _ => false) then some none
  else if (ts.filterMap (swN sc ((ts.head?.map (·.pos.line)).getD 0))).length != ts.length || (ts.filterMap (swN sc ((ts.head?.map (·.pos.line)).getD 0))).eraseDups.length != (ts.filterMap (swN sc ((ts.head?.map (·.pos.line)).getD 0))).length then some none
  else if vs.all (foldedForSure 8) then some none
  else if vs.all (constantsAlone 8) then none
  else some (some (ts.filterMap (swN sc ((ts.head?.map (·.pos.line)).getD 0))))
theorem sw_ok {env : Env} {sc : Scope} {ts vs : List Expr} {k k' : Nat} {p p' : Pos} {o : Option (List Str)} (hs : env.scope = sc) (h : swP sc ts vs = some o) : swappedStores [.Tuple ts k p] (.Tuple vs k' p') env = pure o := by
  subst hs
  unfold swP at h
  unfold swappedStores
  dsimp only
  split at h
  · next c => cases h; exact if_pos c
  · next c =>
    refine (if_neg c).trans ?_
    split at h
    · next c => cases h; exact if_pos c
    · next c =>
      refine (if_neg c).trans ?_
      split at h
      · next c => cases h; exact if_pos c
      · next c =>
        refine (if_neg c).trans ?_
        split at h
        · next c => cases h; exact if_pos c
        · next c =>
          refine (if_neg c).trans ?_
          split at h
          · cases h
          · next c => cases h; exact if_neg c
variable [Tabl]
section
variable {X : Cx} {W : WX} {cf : CF} {pos : Pos} {il : IE}
theorem par_arg {fx : Fx} {Fz H : Hp} {s : S} {φ : Nat → List Addr} {σ : L2.St} {is : List Nat} {Dn : Ends} {R2 : List V → Hp → Prop} (p : PostS X.K X.mg W fx Fz (evS cf (.par is il) s) Dn)
    (hr : ∀ F H s1 s2 φ xs ds, Same Fz F → Rel X.K fx F σ H s1 φ → Rps X.K F xs ds → setDs is ds s1 = some s2 → (∀ σ' φ', Rel X.K fx F σ' H s2 φ' → Dn.nx σ' H) → R2 xs H) (rl : Rel X.K fx Fz σ H s φ) : tA X.K X.mg W LT (ev cf il) σ H R2 := by
  refine ⟨fx, Fz, s, φ, rl, ?_⟩
  have p : PostS X.K X.mg W fx Fz (bindM (ev cf il) (fun rs => bindM (optM (toDs rs)) fun ds s => stM (setDs is ds s)) s) Dn := p
  unfold bindM VL.R.bind at p
  cases e : ev cf il s with
  | ok rs s1 =>
    rw [e] at p
    dsimp only at p
    unfold optM at p
    cases e1 : toDs rs with
    | none => rw [e1] at p; exact p.elim
    | some ds =>
      rw [e1] at p
      have p : PostS X.K X.mg W fx Fz (stM (setDs is ds s1)) Dn := p
      cases e2 : setDs is ds s1 with
      | none => rw [e2] at p; exact p.elim
      | some s2 =>
        rw [e2] at p
        intro vs fps H' F' φ' g rl' rp hf hb hl
        exact hr F' H' s1 s2 φ' vs ds g.fz rl' (rp.data hl e1) e2 fun σ' φ'' r => p σ' H' F' φ'' g.fz r
  | exc c s1 => rw [e] at p; exact p.exc
  | stuck => rw [e] at p; exact p.elim
theorem qs_par2 {i j : Nat} {x y : Str} {a b : Expr} {px py pt pt2 : Pos} {kt k2 : Nat} (hc : X.calm = true) (hN : X.N.Nodup) (hi : X.N[i]? = some x) (hj : X.N[j]? = some y) (hij : i ≠ j) (hx : X.env.scope.names.lookup x = some .local) (hy : X.env.scope.names.lookup y = some .local) (ha : PXA X W LT [a, b] (ev cf il))
    (hw : swappedStores [.Tuple [.Name x px, .Name y py] kt pt] (.Tuple [a, b] k2 pt2) X.env = pure (some [x, y])) : QS X W (.Assign [.Tuple [.Name x px, .Name y py] kt pt] (.Tuple [a, b] k2 pt2) pos) (evS cf (.par [i, j] il)) :=
  PS.imp (ps_par hc hN hi hj hij hx hy ha hw) fun Dn σ H ⟨fx, Fz, s, φ, rl, p⟩ => par_arg p (fun F H s1 s2 φ xs ds hF rl rp e k => by
    cases rp with
    | nil => cases e
    | cons h1 t => cases t with
      | nil =>
        unfold setDs at e
        rw [Option.bind_eq_some_iff] at e
        obtain ⟨_, _, e⟩ := e
        cases e
      | cons h2 t => cases t with
        | cons _ _ =>
          unfold setDs at e
          rw [Option.bind_eq_some_iff] at e
          obtain ⟨_, _, e⟩ := e
          unfold setDs at e
          rw [Option.bind_eq_some_iff] at e
          obtain ⟨_, _, e⟩ := e
          cases e
        | nil =>
          unfold setDs at e
          rw [Option.bind_eq_some_iff] at e
          obtain ⟨t1, e1, e⟩ := e
          unfold setDs at e
          rw [Option.bind_eq_some_iff] at e
          obtain ⟨t2, e2, e⟩ := e
          cases e
          have r1 := rl.put (x := .d _) (fp := []) ⟨rfl, h1⟩ rfl e1
          have r2 := r1.put (x := .d _) (fp := []) ⟨rfl, h2⟩ rfl e2
          exact ⟨_, _, rfl, k _ _ r2⟩) rl
theorem qs_par3 {i j l : Nat} {x y z : Str} {a b c : Expr} {px py pz pt pt2 : Pos} {kt k2 : Nat} (hc : X.calm = true) (hN : X.N.Nodup) (hi : X.N[i]? = some x) (hj : X.N[j]? = some y) (hl : X.N[l]? = some z) (hij : i ≠ j) (hil : i ≠ l) (hjl : j ≠ l) (hx : X.env.scope.names.lookup x = some .local) (hy : X.env.scope.names.lookup y = some .local) (hz : X.env.scope.names.lookup z = some .local) (ha : PXA X W LT [a, b, c] (ev cf il))
    (hw : swappedStores [.Tuple [.Name x px, .Name y py, .Name z pz] kt pt] (.Tuple [a, b, c] k2 pt2) X.env = pure (some [x, y, z])) : QS X W (.Assign [.Tuple [.Name x px, .Name y py, .Name z pz] kt pt] (.Tuple [a, b, c] k2 pt2) pos) (evS cf (.par [i, j, l] il)) :=
  PS.imp (ps_par3 hc hN hi hj hl hij hil hjl hx hy hz ha hw) fun Dn σ H ⟨fx, Fz, s, φ, rl, p⟩ => par_arg p (fun F H s1 s2 φ xs ds hF rl rp e k => by
    have key : ∃ u v w du dv dw, xs = [u, v, w] ∧ ds = [du, dv, dw] ∧ Rp X.K F u du ∧ Rp X.K F v dv ∧ Rp X.K F w dw := by
      match xs, ds, rp, e with
      | _, _, .cons h1 (.cons h2 (.cons h3 .nil)), _ => exact ⟨_, _, _, _, _, _, rfl, rfl, h1, h2, h3⟩
      | _, _, .nil, e => cases e
      | _, _, .cons h1 .nil, e => unfold setDs at e; rw [Option.bind_eq_some_iff] at e; obtain ⟨_, _, e⟩ := e; cases e
      | _, _, .cons h1 (.cons h2 .nil), e =>
        unfold setDs at e; rw [Option.bind_eq_some_iff] at e; obtain ⟨_, _, e⟩ := e
        unfold setDs at e; rw [Option.bind_eq_some_iff] at e; obtain ⟨_, _, e⟩ := e; cases e
      | _, _, .cons h1 (.cons h2 (.cons h3 (.cons h4 t))), e =>
        unfold setDs at e; rw [Option.bind_eq_some_iff] at e; obtain ⟨_, _, e⟩ := e
        unfold setDs at e; rw [Option.bind_eq_some_iff] at e; obtain ⟨_, _, e⟩ := e
        unfold setDs at e; rw [Option.bind_eq_some_iff] at e; obtain ⟨_, _, e⟩ := e; cases e
    obtain ⟨u, v, w, du, dv, dw, rfl, rfl, h1, h2, h3⟩ := key
    unfold setDs at e; rw [Option.bind_eq_some_iff] at e; obtain ⟨t1, e1, e⟩ := e
    unfold setDs at e; rw [Option.bind_eq_some_iff] at e; obtain ⟨t2, e2, e⟩ := e
    unfold setDs at e; rw [Option.bind_eq_some_iff] at e; obtain ⟨t3, e3, e⟩ := e
    cases e
    have r1 := rl.put (x := .d _) (fp := []) ⟨rfl, h1⟩ rfl e1
    have r2 := r1.put (x := .d _) (fp := []) ⟨rfl, h2⟩ rfl e2
    have r3 := r2.put (x := .d _) (fp := []) ⟨rfl, h3⟩ rfl e3
    exact ⟨_, _, _, rfl, k _ _ r3⟩) rl
end
end VL
set_option maxHeartbeats 2000000
namespace HotL
open PySem PySem.Spec PyProof.Rows HotX
section
variable {prog : Program} {w : World} {A : Around} {E : Value → Shared → Prop} {s : Shared}
theorem next_list_end {it l x1 : Addr} {i : Nat} {its : Array Value} {Q : Option Value → Shared → Prop} (hot : HotAt A x1 s.heap) (nx : x1 ≠ it) (hit : s.heap.IsListIter it l i) (hl : s.heap.IsList l its) (hx : its[i]? = none)
    (hQ : ∀ h', Heap.ExtBut it s.heap h' → Q none { s with heap := h' }) : wpAny (model prog w) A (pyNext (.ref it)) Q E s := by
  obtain ⟨o, ho, hc, hd⟩ := id hit
  obtain ⟨ol, hol, _, nl, hdl⟩ := hl
  obtain ⟨hh, o1, vs1, h1, d1, c1⟩ := hot
  unfold pyNext
  refine wpAny_bind (wpAny_attempt (wpAny_callSpecial?_slot (name := Str.ofString "__next__") hit.typeIs slot_listiter_next (wpAny_call_entry slot_listiter_next hit.typeIs entry_listiter_next ?_ (args_listiter_next _))))
  show wpAny _ _ (field (.ref it) 0 >>= _) _ _ s; refine wpAny_bind (wpAny_field ho hd (x := .ref l) rfl ?_)
  show wpAny _ _ (if (Value.ref l == Value.none) = true then _ else _) _ _ s; rw [if_neg (show ¬ ((Value.ref l == Value.none) = true) from Bool.false_ne_true)]
  show wpAny _ _ (field (.ref it) 1 >>= _) _ _ s; refine wpAny_bind (wpAny_field ho hd (x := .int i 0) rfl ?_)
  show wpAny _ _ (seqItems? (.ref l) >>= _) _ _ s; refine wpAny_bind (wpAny_seqItems hol hdl ?_)
  simp only [Int.toNat_natCast, hx]; refine wpAny_bind (wpAny_rule (wpAny_bind (wpAny_setField ho hd (by simp) ?_)))
  show wpAny _ _ (newExc (.type "StopIteration") [] >>= _) _ _ _; refine wpAny_bind ?_
  simp only [newExc, newTuple]; refine wpAny_bind (wpAny_newObj_type ?_ (by size_fits))
  refine wpAny_bind (m := firstArgMember _ _) (wpAny_of_eq (a := Value.none) (by first | rfl | (simp only [firstArgMember]; rfl)) ?_); refine wpAny_newObj_type ?_ (by size_fits)
  have h1' : (s.heap.update it (Obj.mapFields fun x => x.setIfInBounds 0 Value.none)).get? x1 = some o1 := by rw [Heap.get?_update_other _ _ nx.symm]; exact h1
  have lt' := Heap.lt_size (Heap.get?_push_of_some { cls := Value.type "tuple", data := Data.seq #[] } h1')
  refine raiseNew_hot (x1 := x1) ⟨hh, o1, vs1, Heap.get?_push_of_some _ (Heap.get?_push_of_some _ h1'), d1, c1⟩ (Nat.ne_of_lt lt') (Heap.get?_push_size _ rfl) rfl (by simp; omega) ?_
  refine wpAny_bind (wpAny_isInstance (T := "StopIteration") (b := true) ⟨_, Heap.get?_update_self _ (Heap.get?_push_size _ rfl) rfl, rfl⟩ isSubtype_stop (wpAny_pure (hQ _ fun b u nb e => ?_)))
  have e' : (s.heap.update it (Obj.mapFields fun x => x.setIfInBounds 0 Value.none)).get? b = some u := by rw [Heap.get?_update_other _ _ (Ne.symm nb)]; exact e
  rw [Heap.get?_update_other _ _ (Nat.ne_of_gt (Heap.lt_size (Heap.get?_push_of_some _ e')))]
  exact Heap.get?_push_of_some _ (Heap.get?_push_of_some _ e')
def Ctx0 (o : Obj) : Prop := ∃ vs : Array Value, o.data = .fields vs ∧ vs[2]? = some .none
theorem walks_list {x1 : Addr} {o1 : Obj} (hh : A.handled = some (.ref x1)) (c1 : Ctx0 o1) (I ax : Addr) (hne : ax ≠ I) (nx : x1 ≠ I) (its : Array Value) :
    Walks prog w A I [I, ax, x1] [I] its.size (fun i v => its[i]? = some v) (fun i h => (h.IsListIter I ax i ∧ h.IsList ax its) ∧ h.get? x1 = some o1) where
  sub := fun b hb => by simp at hb; simp [hb]
  frame := fun i h h' st k => ⟨⟨st.1.1.at fun o e => k I (by simp) o e, st.1.2.at fun o e => k ax (by simp) o e⟩, k x1 (by simp) _ st.2⟩
  item := fun i s Q E hi st hQ => wpAny_pyNext_list_item st.1.1 st.1.2 (x := its[i]) (by simp [hi]) fun h' hit' hs' => hQ _ h' s.toks (by simp [hi]) ⟨⟨hit', st.1.2.extBut hs'.extBut hne⟩, hs'.extBut x1 _ nx st.2⟩ fun b o hb e => hs'.extBut b o (fun z => hb (by simp [z])) e
  done := fun s Q E st hQ => by
    obtain ⟨vs, e1, e2⟩ := c1
    exact next_list_end ⟨hh, o1, vs, st.2, e1, e2⟩ nx st.1.1 st.1.2 (by simp) fun h' he => hQ h' s.toks fun b o hb e => he b o (fun z => hb (by simp [z])) e
  self := fun i s Q E st hQ => wpAny_pyIter_listiter st.1.1 hQ
theorem sum_ints {x1 l : Addr} {o1 : Obj} {its : List Value} {ns : List Int} {Q : Value → Shared → Prop} (hh : A.handled = some (.ref x1)) (c1 : Ctx0 o1) (h1 : s.heap.get? x1 = some o1) (hl : s.heap.IsList l its.toArray) (hi : IntsAre its ns)
    (h : ∀ h' tk t', (∀ b o, s.heap.get? b = some o → h'.get? b = some o) → Q (.int ns.sum t') { s with heap := h', toks := tk }) : wpAny (model prog w) A (call (.builtin "sum") [.ref l]) Q E s := by
  obtain ⟨xs, e⟩ := hi.allInts.items
  have hn : numsOf (intItems xs).toList = ns := by rw [← e]; exact hi.numsOf
  rw [nums_intItems] at hn
  rw [e] at hl
  have lx : x1 < s.heap.objs.size := Heap.lt_size h1
  refine call_sum_walkG (iter_intList hl fun s₂ es st hfp hlI => ?_)
  subst es
  refine ⟨_, _, _, _, _, _, numAt xs, rfl, walks_list (A := A.in1) (o1 := o1) hh c1 _ l hlI (Nat.ne_of_lt lx) (intItems xs), ⟨st, Heap.get?_push_of_some _ h1⟩, fun b hb => ?_, (fun _ _ => intItems_at), fun h' tk t' hk => ?_⟩
  · simp only [List.mem_cons, List.not_mem_nil, or_false] at hb
    rcases hb with z | z | z
    · exact hfp b (by simp [z])
    · exact hfp b (by simp [z])
    · rw [z]; exact Heap.lt_size (Heap.get?_push_of_some _ h1)
  · have g := h h' tk t' fun b o q => hk b o (fun z => absurd (Heap.lt_size q) (by rw [List.mem_singleton.mp z]; exact Nat.lt_irrefl _)) (Heap.get?_push_of_some _ q)
    have e2 : preSum (numAt xs) (intItems xs).size = ns.sum := by
      rw [preSum_eq, List.take_of_length_le (by simp [intItems]), hn]
    rw [e2]; exact g
end
end HotL
set_option maxHeartbeats 2000000
namespace HotL
open PySem PySem.Spec PyProof.Rows HotX L2 L2H
section
variable {X : Cx}
theorem turnH_item {pins : List (Addr × Obj)} {s : Shared} {σ : L2.St} {H : Hp} {tg : Expr} {a it : Addr} {i : Nat} {xs : List V} {x : V} {Q : Option Value → Shared → Prop} {E : Value → Shared → Prop} (I : Inv X pins σ H s) (hf : FpOk X pins H it) (st : s.heap.IsListIter it a i) (hq : SqL X.K H a xs) (hx : xs[i]? = some x)
    (h : ∀ u s2, RelV x u → Inv X pins σ H s2 → s2.heap.IsListIter it a (i + 1) → wpAny (model X.prog X.w) X.A (letOwnedTupleGo tg (.ref it) u) (fun _ s3 => s3 = s2) E s2 → Q (some u) s2) : wpAny (model X.prog X.w) X.A (pyNext (.ref it)) Q E s := by
  obtain ⟨its, rv, p, hz⟩ := I.list hq
  obtain ⟨u, hu, ru⟩ := rv.get hx
  obtain ⟨f0, f1, f2, f3, f4, f5⟩ := hf
  refine wpAny_pyNext_list_item st p.isList (x := u) (by simpa using hu) fun h' st' sb => h u _ ru (I.turned (t' := s.toks) (fun b o hb e => (sb.2 b hb).trans e) f0 f1 f3 f4 f5) st' ?_
  obtain ⟨o, e, c, d⟩ := id st'
  exact go_of (s := { s with heap := h' }) e c d (by decide) rfl
theorem turnH_end {pins : List (Addr × Obj)} {s : Shared} {σ : L2.St} {H : Hp} {a it : Addr} {i : Nat} {xs : List V} {Q : Option Value → Shared → Prop} {E : Value → Shared → Prop} {pp : Addr × Obj} (hot : Hot1 X.A pp) (pm : pp ∈ X.pn ++ pins) (I : Inv X pins σ H s) (hf : FpOk X pins H it) (st : s.heap.IsListIter it a i) (hq : SqL X.K H a xs) (hx : xs.length ≤ i)
    (h : ∀ s2, Inv X pins σ H s2 → Q none s2) : wpAny (model X.prog X.w) X.A (pyNext (.ref it)) Q E s := by
  obtain ⟨its, rv, p, hz⟩ := I.list hq
  obtain ⟨f0, f1, f2, f3, f4, f5⟩ := hf
  obtain ⟨hh, vs, e1, e2⟩ := hot
  have hl := rv.length
  exact next_list_end ⟨hh, pp.2, vs, (I.pin pp pm).1, e1, e2⟩ (f5 pp pm) st p.isList (by simp; omega) fun h' eb => h _ (I.turned (t' := s.toks) (fun b o hb e => eb b o hb e) f0 f1 f3 f4 f5)
theorem pe_lcH {elt tg iter : Expr} {scope : Scope} {own : List (Str × Nat)} {pos : Pos} {tl : TE} {g : TG} {te : TE} (hot : HotC X) (hN : X.N.Nodup) (hl : PE X iter tl) (ok : BlkOk X.N X.env.scope scope own)
    (hg : ∀ (s : Shared) (H : Hp) (C : Addr) (cl : List (Str × Addr)) (fp : List Addr), PG (X.blk s H scope (compEnvC scope cl C X.env) fp) tg g)
    (he : ∀ (s : Shared) (H : Hp) (C : Addr) (cl : List (Str × Addr)) (fp : List Addr), PE (X.blk s H scope (compEnvC scope cl C X.env) fp) elt te) (hs : ∀ x, foldedSetIterable iter X.env x = pure x := by intro _; rfl) :
    PE X (.ListComp elt [⟨tg, iter, [], 0⟩] scope pos) (tLc (iList X.K tl) g tYes te (own.map (·.2))) := by
  refine ⟨fun pins s σ H Q I h => ?_⟩
  obtain ⟨pp, hp1, hpm⟩ := hot
  rw [eval_ListComp]
  have hfr : ∀ y ∈ scope.names, y.2 = .free → ∃ c, X.env.cells.lookup y.1 = some c := fun y hy e => (ok.free y hy e).elim (fun k => I.ok.has _ (.inl k)) (fun k => I.ok.has _ (.inr k))
  refine wpAny_comprehension_free (use := none) rfl hs (closure_ok hfr) ok.kind (fun y hy e => by rw [ok.uniq y hy, e]) (thn (hl.run pins s σ H _ I h) fun xv s1 ⟨x, H1, I1, r1, q1⟩ => ?_)
  obtain ⟨a, rfl, ⟨xs, hq⟩, q⟩ := q1
  cases r1
  obtain ⟨its, rv, pl, hz⟩ := I1.list hq
  refine wpAny_pyIter_list pl.isList ?_
  generalize hit : s1.heap.objs.size = it
  generalize hs2 : ({ s1 with heap := s1.heap.push { cls := .type "list_iterator", data := .fields #[.ref a, .int 0 0] } } : Shared) = s2
  have I2 : Inv X pins σ H1 s2 := by subst hs2; exact I1.kept (t' := s1.toks) fun b o e => Heap.get?_push_of_some _ e
  have st2 : s2.heap.IsListIter it a 0 := by subst hs2 hit; exact ⟨_, Heap.get?_push_size _ rfl, rfl, rfl⟩
  have f2 : FpOk X pins H1 it := by subst hit; exact I1.fpOk (Nat.le_refl _) (I1.hok.fresh (Nat.le_refl _))
  refine wpAny_newObj_type (newEnv_comp ?_) (by show 0 ≤ sizeLine; decide)
  generalize hD : s2.heap.objs.size = D
  have hDn : H1 D = none := I2.hok.fresh (Nat.le_of_eq hD)
  obtain ⟨W, ⟨m0, w0⟩, turn⟩ := q D hDn
  generalize hs3 : ({ s2 with heap := s2.heap.push { cls := .type "list", data := .seq ([] : List Value).toArray } } : Shared) = s3
  have k3 : ∀ b o, s2.heap.get? b = some o → s3.heap.get? b = some o := fun b o e => by subst hs3; exact Heap.get?_push_of_some _ e
  have I3 : Inv X pins σ (upd H1 D (.lst [])) s3 := by
    subst hs3; refine I2.laid (t' := s2.toks) (fun b o e => Heap.get?_push_of_some _ e) (Nat.le_of_eq hD) ⟨Nat.zero_le _, [], 0, .nil, ?_⟩
    subst hD; exact Heap.get?_push_size _ rfl
  obtain ⟨oi, ei, ci, di⟩ := id st2
  have st3 : s3.heap.IsListIter it a 0 := st2.at fun o e => k3 _ o e
  have li : it < s2.heap.objs.size := Heap.lt_size ei
  have nD : it ≠ D := by subst hD; exact Nat.ne_of_lt li
  have f3 : ∀ b ∈ [it], FpOk X pins (upd H1 D (.lst [])) b ∧ b < s3.heap.objs.size := fun b hb => by
    obtain rfl := List.mem_singleton.mp hb
    exact ⟨⟨by rw [upd_ne nD]; exact f2.1, f2.2⟩, Heap.lt_size (k3 _ _ ei)⟩
  have I4 := block_start I3 ok hN f3
  have pg := hg s3 (upd H1 D (.lst [])) s3.heap.objs.size (cellsFrom (s3.heap.objs.size + 1) scope.names (cloFrom X.env.cells scope.names [])) [it]
  have pe := he s3 (upd H1 D (.lst [])) s3.heap.objs.size (cellsFrom (s3.heap.objs.size + 1) scope.names (cloFrom X.env.cells scope.names [])) [it]
  show codeAny _ _ (.compStart (.ListComp elt [⟨tg, iter, [], 0⟩] scope pos) 0 (.ref it) (.ref D) (compEnvC scope (cellsFrom (s3.heap.objs.size + 1) scope.names (cloFrom X.env.cells scope.names [])) s3.heap.objs.size X.env)) (compPost (model X.prog X.w) X.A X.xe none _ (.ref D) s3.heap.objs.size) { s3 with heap := pushCells (s3.heap.push { cls := .type "dict", data := .dict #[] }) scope.names }
  generalize hce : compEnvC scope (cellsFrom (s3.heap.objs.size + 1) scope.names (cloFrom X.env.cells scope.names [])) s3.heap.objs.size X.env = ce at I4 pg pe ⊢
  have cL : ce.locals = s3.heap.objs.size := by subst hce; rfl
  generalize hH3 : upd H1 D (.lst []) = H3 at I3 I4 pg pe w0 f3
  have p3 := I3.pin pp (List.mem_append_left _ hpm)
  generalize hs4 : ({ s3 with heap := pushCells (s3.heap.push { cls := .type "dict", data := .dict #[] }) scope.names } : Shared) = s4 at I4 ⊢
  have k4 : ∀ b o, s3.heap.get? b = some o → s4.heap.get? b = some o := fun b o e => by subst hs4; exact pushCells_keeps _ _ _ _ (Heap.get?_push_of_some _ e)
  have J4 : Inv (X.blk s3 H3 scope ce [it]) [pp] (wipe σ (own.map (·.2))) H3 s4 := I4.pins_of fun p hp => by
    obtain rfl : p = pp := by simpa using hp
    refine ⟨k4 _ _ p3.1, p3.2.1, ?_, ?_, p3.2.2.2.2⟩
    · show p.1 ≠ ce.locals
      rw [cL]; exact Nat.ne_of_lt (Heap.lt_size p3.1)
    · show p.1 ∉ frs X.stack
      rcases I3.ok.stk with z | ⟨z, zf⟩
      · rw [z]; exact p3.2.2.2.1
      · rw [z]; unfold frs; rw [List.filterMap_cons, zf]; dsimp only
        exact fun m => (List.mem_cons.mp m).elim p3.2.2.1 p3.2.2.2.1
  have st4 : s4.heap.IsListIter it a 0 := st3.at fun o e => k4 _ o e
  have fok : ∀ {σ' : L2.St} {H' : Hp} {s' : Shared}, Inv (X.blk s3 H3 scope ce [it]) [pp] σ' H' s' → H' it = none → FpOk (X.blk s3 H3 scope ce [it]) [pp] H' it := fun {σ' H' s'} I' hn =>
    have m : it ∈ [it] := List.mem_singleton.mpr rfl
    ⟨hn, (I'.ok.exf it m).1, I'.ok.exfs it m, .inl m, fun x c e => (I'.ok.exf it m).2 x c e, fun p hp => by
      obtain rfl : p = pp := by simpa using hp
      exact f2.2.2.2.2.2 p (List.mem_append_left _ hpm)⟩
  have loop : codeAny (model X.prog X.w) X.A (.compLoop (.ListComp elt [⟨tg, iter, [], 0⟩] scope pos) 0 (.ref it) (.ref D) ce) (compPost (model X.prog X.w) X.A X.xe none (fun v s' => ∃ x H', Inv X pins σ H' s' ∧ RelV x v ∧ Q x H') (.ref D) s3.heap.objs.size) s4 := by
    refine compLoop_any (fun n s' => ∃ i H', Inv (X.blk s3 H3 scope ce [it]) [pp] (wipe σ (own.map (·.2))) H' s' ∧ s'.heap.IsListIter it a i ∧ H' it = none ∧ W i n H') ?_ m0 ⟨0, H3, J4, st4, (f3 it (List.mem_singleton.mpr rfl)).1.1, w0⟩
    rintro n s5 ⟨i, H5, I5, st5, n5, w5⟩
    rcases turn i n H5 w5 with ⟨⟨ys, hy, hle⟩, qq⟩ | ⟨⟨ys, y, hy, hyi⟩, Nx, hNx, step⟩
    · refine turnH_end (X := X.blk s3 H3 scope ce [it]) (pp := pp) hp1 (List.mem_append_right _ (List.mem_singleton.mpr rfl)) I5 (fok I5 n5) st5 hy hle fun s6 I6 => ?_
      have I7 : Inv X pins σ H5 s6 := I3.call' (ch := [it]) I6.os I6.base I6.hok I6.bare fun b hb => ⟨(f3 b hb).1.2.2.2.1, (f3 b hb).1.2.1, (f3 b hb).1.2.2.2.2.1, (f3 b hb).1.2.2.2.2.2⟩
      have nC : H5 s3.heap.objs.size = none := by rw [← cL]; exact I6.free
      obtain ⟨m, hn, _⟩ := I6.loc
      have hn : s6.heap.Ns ce.locals m := hn
      rw [cL] at hn
      obtain ⟨f0, f1, f2, f3, f4, f5⟩ := I3.fpOk (Nat.le_refl _) nC
      exact ⟨m, hn, fun h'' sb => ⟨.ref D, H5, I7.turned (t' := s6.toks) (fun b o hb e => (sb.2 b hb).trans e) f0 f1 f3 f4 f5, rfl, qq⟩⟩
    · refine turnH_item (X := X.blk s3 H3 scope ce [it]) (tg := tg) I5 (fok I5 n5) st5 hy hyi fun u s6 r6 I6 st6 go6 => ?_
      refine thn go6 fun _ s7 e7 => ?_
      subst e7
      have ob : ∀ b ∈ [it], ∃ o, s7.heap.get? b = some o ∧ ∀ v, o.data ≠ .cell v := fun b hb => by
        obtain rfl := List.mem_singleton.mp hb
        obtain ⟨o, e, c, d⟩ := st6
        exact ⟨o, e, fun v z => by rw [d] at z; cases z⟩
      have I7' := I6.pinned (fp := [it]) (fun b hb => by obtain rfl := List.mem_singleton.mp hb; exact fok I6 n5) ob
      have hY : (Itl X.K a).yld i H5 y H5 := ⟨rfl, fun zs hz => by rw [I6.list_inj hz hy]; exact hyi⟩
      refine thnF (pg.run _ s7 _ H5 y u _ I7' r6 (step y H5 hY)) fun _ s8 ⟨σ8, H8, I8, hw8, q8⟩ => ?_
      refine wpAny_pure ?_
      rw [if_pos rfl]
      have q9 := (show (if true = true then te σ8 H8 fun y H4 => ∃ acc, H4 D = some (.lst acc) ∧ acc.length < sizeLine ∧ Nx (upd H4 D (.lst (acc ++ [y]))) else Nx H8) from q8)
      rw [if_pos rfl] at q9
      refine thnF (pe.run _ s8 σ8 H8 _ I8 q9) fun z s10 ⟨yv, H10, I10, r10, acc, hD10, hz10, nx⟩ => ?_
      refine app_ok (X := X.blk s3 H3 scope ce [it]) I10 hD10 hz10 r10 fun s11 I11 => ?_
      obtain ⟨m', hm, w'⟩ := hNx _ nx
      have hl' : (wipe σ (own.map (·.2))).length = σ8.length := by rw [← hw8, wipe_length]
      obtain ⟨oi7, ei7, _⟩ := id st6
      have pin' := I11.pin (it, oi7) (List.mem_append_right _ (List.mem_append_right _ (mem_pinsAt (List.mem_singleton.mpr rfl) ei7)))
      exact ⟨m', hm, i + 1, _, (I11.unpinned (pins := [pp])).weak hl' (fun j v e => by rw [← hw8] at e; exact (wipe_some e).1), st6.at fun o e => by rw [ei7] at e; cases e; exact pin'.1, pin'.2.1, w'⟩
  exact codeAny_compStart_list loop (wpAny_pyIter_listiter st4 loop)
end
end HotL
set_option maxHeartbeats 4000000
namespace HotL
open PySem PySem.Spec PyProof.Rows HotX L2 L2H
theorem runH_of {CX : CXT} {P : Program} {w : World} {K : PySem.W.Frag} {mg : Str → Option Value} {base : Heap} {k : Nat} {f : Addr} {name qual : Str} {params : Arguments} {body : List Stmt} {scope : Scope} {dV kV doc pm cdv ct oc : Value} {an od : Option Addr} {osl : Array (Option Value)} {N ps : List Str}
    (lk : K.lookup f = some ⟨oc, od, .func (PySem.W.fnOf name qual params body scope dV kV doc pm an cdv ct), osl⟩) (hcd : PySem.W.codeIn K cdv qual = true) (S : FnScope N ps scope)
    {A : Around} {outer : List Env} {s : Shared} {H : Hp} {args : Args} {us : List Value} {vs : List V} {Q : VK} {E : XK} {p : Addr × Obj} (hr : RoomH (k + 1) A) (hpin : PinOk outer H s p) (e0 : Env0 P w K mg base A outer s H)
    (hb : BindsTo s (PySem.W.fnOf name qual params body scope dV kV doc pm an cdv ct) args (ps.zip us)) (r : Vals vs us) (hl : vs.length = ps.length)
    (hbody : RoomH k (A.deeper (envOfC qual scope s.heap.objs.size f cdv)) → ∃ t, PSs (cxH CX P w K mg base N qual scope f cdv A outer s H E p) body t ∧ t { nx := fun _ H' => Q .non H', rt := Q } (L2.start N vs) H) :
    codeAny (model P w) A (.call (.ref f) args) (CR CX outer P w H s Q E) s := by
  have KX : K.In s.heap := e0.mod.kin.keeps fun b o e => (e0.bs b o e).1
  have hkd : ∀ y ∈ ps.zip us, scope.names.lookup y.1 = some .local ∨ (scope.names.lookup y.1 = some .cell ∧ ((cellsFrom (s.heap.objs.size + 1) scope.names []).lookup y.1).isSome = true) := fun ⟨n, v⟩ hy =>
    (S.par n (List.of_mem_zip hy).1).elim .inl fun q => .inr ⟨q, PySem.W.cellsFrom_some _ _ _ (.inl q)⟩
  refine codeAny_call_function hr.depth (KX _ _ lk) rfl S.co S.gen rfl (PySem.W.codeRec_of KX hcd) (hb _ _ _ _ (wpAny_newFunctionEnv_cells S.kind hkd fun env he s1 x => ?_))
  subst he
  refine ⟨(e0.mod.nolimit.keeps fun b o e => (e0.bs b o e).1).keeps x.toInCall.keep, codeAny_func ?_⟩
  obtain ⟨t, ht, hq⟩ := hbody (hr.deeper _)
  have I := inv_startH (CX := CX) (E := E) (qual := qual) (f := f) (cd := cdv) S hpin e0 hl r x
  refine wpAny_mono (ht.run [] s1 (L2.start N vs) H _ I hq) (fun fl s' hs => ?_) fun e s' hs => hs
  cases fl with
  | ret u => obtain ⟨v, σ', H', J, rv, q⟩ := hs; exact ⟨v, H', J.os, J.bare, J.base, J.hok, rv, q⟩
  | next => obtain ⟨σ', H', J, q⟩ := hs; exact ⟨V.non, H', J.os, J.bare, J.base, J.hok, rfl, q⟩
  | brk => exact False.elim hs.choose_spec.choose_spec.2
  | cont => exact False.elim hs.choose_spec.choose_spec.2
theorem call_isP {X : Cx} {p : Addr × Obj} {D : Addr} (pm : p ∈ X.pn) (C : ExcC X.K D) (hz : Zc (.ref D) none p.2) (hf : ∃ vs, p.2.data = .fields vs) : CallR X (.builtin "isinstance") (rIsE X.K D p.1) := by
  intro pins s σ H xs us Q I r h
  obtain ⟨c, cv, b, rfl, hcv, e, q⟩ := h
  obtain ⟨a, oe⟩ := p
  cases r with
  | cons rx rr =>
    cases rr with
    | cons rt rr =>
      cases rr; cases rx
      have ec := hcv _ rt
      subst ec
      have hget := (I.pin (a, oe) (List.mem_append_left _ pm)).1
      obtain ⟨vs, hv⟩ := hf
      have J : PySem.W.InstAt s.heap a oe D none := by
        obtain ⟨oc, od, oda, osl⟩ := oe
        obtain ⟨h1, h2⟩ := hz
        dsimp only at h1 h2 hv
        subst h1 h2 hv
        exact ⟨hget, rfl, rfl, trivial⟩
      exact PySem.W.kia_one (PySem.W.handS_kitx_exc C.hg C.hk C.hs C.hd C.ha C.hn C.ht C.hm) I.kIn J e (fun z => nomatch z) fun tk => ⟨.bl b, H, I.kept (t' := tk) fun _ _ z => z, rfl, q⟩
end HotL
namespace HotL
open PySem PySem.Spec PyProof.Rows HotX L2 L2H
theorem cr_sumH {X : Cx} (hc : HotC X) : CallR X (.builtin "sum") (rSum X.K) := by
  intro pins s σ H vs us Q I r h
  obtain ⟨a, ns, rfl, hs, q⟩ := h
  obtain ⟨its, rv, hl, _⟩ := I.list hs
  obtain ⟨pp, ⟨hh, vs1, e1, e2⟩, pm⟩ := hc
  rw [Vals.ref1 r]
  exact sum_ints hh ⟨vs1, e1, e2⟩ (I.pin pp (List.mem_append_left _ pm)).1 hl.isList rv.ints fun h' tk t' hk => ⟨.int _, H, I.kept hk, ⟨_, rfl⟩, q⟩
theorem seq_asg {te : TE} {i : Nat} {ts : TS} {D : Ends} {σ : L2.St} {H : Hp} (h : te σ H fun v H1 => ts D (σ.set i (some v)) H1) : tSeq (tAsg te (gName i)) ts D σ H := h
theorem sameU {H : Hp} {p : Addr} {o : HO} (h : H p = none) : Same H (upd H p o) := fun b x e => by
  rw [upd_ne (ne_of_none e h)]
  exact e
abbrev termKinds : List Str := VL.toldKinds
end HotL
set_option maxHeartbeats 4000000
namespace HotL
open PySem PySem.Spec PyProof.Rows HotX L2 L2H
def flagsOf (j : Nat) : List Bool := (List.range 15).map fun i => decide (i = j)
def b01 (b : Bool) : Int := if b = true then 1 else 0
theorem flags_sum : ∀ j, j < 15 → ((flagsOf j).map b01).sum = 1 := by decide
theorem flags_at : ∀ j, j < 15 → (flagsOf j)[j]? = some true := by decide
theorem flags_none : ∀ j, j < 15 → ∀ m, m < j → (flagsOf j)[m]? = some false := by decide
theorem flags_len (j : Nat) : (flagsOf j).length = 15 := by simp [flagsOf]
theorem if_t {p q : Prop} (h : p) : if true = true then p else q := by rw [if_pos rfl]; exact h
theorem if_f {c : Bool} {p q : Prop} (hc : c = false) (h : q) : if c = true then p else q := by subst hc; rw [if_neg (by decide)]; exact h
theorem wipe_set1 {σ : L2.St} {i : Nat} {x : Option V} : wipe ((wipe σ [i]).set i x) [i] = wipe σ [i] := by
  show ((σ.set i none).set i x).set i none = σ.set i none
  rw [List.set_set, List.set_set]
theorem term_read {K : PySem.W.Frag} {D p0 o5 o7 : Addr} {j : Nat} {Q : VK} {nx : L2.St → Hp → Prop} {σ : L2.St} {H7 H : Hp} {t1 : TS} (hj : j < 15) (hl : σ.length = 4) (h0 : σ[0]? = some (some (.ref p0))) (h1 : σ[1]? = some (some (.ref o5))) (h2 : σ[2]? = some (some (.ref o7)))
    (hF : H7 o5 = some (.lst ((flagsOf j).map V.bl))) (hK : H7 o7 = some (.lst (termKinds.map V.str))) (hv : PySem.W.kitOne K (.ref D) (.type "ValueError") = some true) (hS : Same H H7)
    (hQ : ∀ (a : Addr) (H' : Hp), H a = none → Same H H' → H' a = some (.tup [.str "error", .str (termKinds.getD j "")]) → Q (.ref a) H') :
    tSeq (tIfS (tOr (tTest (tOp rNe (tCB (rSum K) (tCons (tLc (iList K (tVar 1)) (gName 3) tYes (tCB (fun xs H Q => (∃ i, xs = [V.int i] ∧ Q (V.int i) H) ∨ ∃ k, xs = [V.bl k] ∧ Q (V.int (if k = true then 1 else 0)) H) (tCons (tVar 3) tNil)) [3]) tNil)) (tC (.int 1))))
      (tNot (tB (tCB (rIsE K D p0) (tCons (tVar 0) (tCons (tC (.ty "ValueError")) tNil)))))) t1 tNext)
      (tRet (tTup (tCons (tC (.str "error")) (tCons (tOp (rIxL K) (tVar 2) (tBM K "list" (rIndex K) (tVar 1) (tCons (tC (.bl true)) tNil))) tNil)))) { nx := nx, rt := Q } σ H7 := by
  refine ⟨.ref o5, h1, o5, rfl, ⟨_, SqL.of hF⟩, fun Dn nD => ?_⟩
  refine lc_list (xs := (flagsOf j).map V.bl) (fun i H' => Same H7 H' ∧ H' Dn = some (.lst (((flagsOf j).take i).map fun b => V.int (b01 b)))) ⟨sameU nD, by rw [upd_same]; rfl⟩ (fun i H' _ h => SqL.of (h.1 _ _ hF)) (fun i x H' hx h => ?_) (fun H' h => ?_)
  · rw [List.getElem?_map, Option.map_eq_some_iff] at hx
    obtain ⟨b, hb, rfl⟩ := hx
    have hi : i < (flagsOf j).length := (List.getElem?_eq_some_iff.mp hb).1
    refine ⟨wipe_set1, ?_⟩
    unfold tYes
    dsimp only
    rw [if_pos rfl]
    refine ⟨.bl b, List.getElem?_set_self (by rw [wipe_length, hl]; decide), .inr ⟨b, rfl, _, h.2, ?_, ?_, ?_⟩⟩
    · rw [List.length_map, List.length_take, flags_len, sizeLine_eq]; omega
    · intro c o e
      have ne : c ≠ Dn := ne_of_none e nD
      rw [upd_ne ne]; exact h.1 c o e
    · rw [upd_same, List.take_add_one, hb]
      simp only [Option.toList_some, List.map_append, List.map_cons, List.map_nil, b01]
  · rw [List.length_map, List.take_of_length_le (Nat.le_refl _)] at h
    refine ⟨Dn, (flagsOf j).map b01, rfl, SqL.of (by rw [List.map_map]; exact h.2), rfl, _, rfl, ?_⟩
    rw [flags_sum j hj]
    refine if_f (by simp) ?_
    refine ⟨.ref p0, h0, .ty "ValueError", .type "ValueError", true, rfl, fun u r => r, hv, true, rfl, ?_⟩
    refine if_f rfl ?_
    refine ⟨.ref o7, h2, .ref o5, h1, .inl ⟨rfl, _, SqL.of (h.1 _ _ hF)⟩, o5, _, .bl true, j, .bl true, rfl, rfl, SqL.of (h.1 _ _ hF), rfl, ?_, ?_, rfl, fun m z hm hz => ?_, o7, termKinds.map V.str, (j : Int), .str (termKinds.getD j ""), rfl, rfl, SqL.of (h.1 _ _ hK), ?_, by show 2 ≤ sizeLine; decide, fun a na => ?_⟩
    · rw [List.all_eq_true]
      intro v hv
      obtain ⟨b, _, rfl⟩ := List.mem_map.mp hv
      rfl
    · rw [List.getElem?_map, flags_at j hj]; rfl
    · rw [List.getElem?_map, flags_none j hj m hm] at hz
      cases hz; rfl
    · refine atI_nat ?_
      rw [List.getElem?_map]
      have : j < termKinds.length := hj
      rw [List.getElem?_eq_getElem this, List.getD_eq_getElem?_getD, List.getElem?_eq_getElem this]; rfl
    · exact hQ a _ ((hS.trans h.1).free na) ((hS.trans h.1).trans (sameU na)) upd_same
end HotL
set_option maxHeartbeats 4000000
namespace HotL
open PySem PySem.Spec PyProof.Rows HotX L2 L2H
structure KindIs (K : PySem.W.Frag) (cs : Nat → Addr) (CS D : Addr) (j : Nat) : Prop where
  lt : j < 15
  exc : ExcC K D
  own : ∀ i, i < 15 → PySem.W.kitOne K (.ref D) (.ref (cs i)) = some (decide (i = j))
  val : PySem.W.kitOne K (.ref D) (.type "ValueError") = some true
  got : PySem.W.exmOne K (.ref D) (.ref CS) = some true
def Names1 (H : Hp) (j : Nat) (Q : VK) : Prop := ∀ (a : Addr) (H' : Hp), H a = none → Same H H' → H' a = some (.tup [.str "error", .str (termKinds.getD j "")]) → Q (.ref a) H'
def TermRun (P : Program) (w : World) (K : PySem.W.Frag) (mg : Str → Option Value) (base : Heap) (cs : Nat → Addr) (CS f : Addr) : Prop :=
  ∀ (A : Around) (outer : List Env) (s : Shared) (H : Hp) (p : Addr × Obj) (Q : VK) (D : Addr) (j : Nat), RoomH 1 A → Hot1 A p → PinOk outer H s p → Env0 P w K mg base A outer s H → KindIs K cs CS D j → Zc (.ref D) none p.2 → Names1 H j Q →
    codeAny (model P w) A (.call (.ref f) ⟨[.ref p.1], []⟩) (CR C8.CX0 outer P w H s Q C8.E0) s
section
variable {X : Cx} {cs : Nat → Addr} {CS f : Addr}
theorem pe_term {a : Addr} {oe : Obj} {cls : Value} {d : Option Addr} {pn : List (Addr × Obj)} {p1 p2 p3 : Pos} (T : TermRun X.prog X.w X.K X.mg X.base cs CS f) (hr : RoomH 1 X.A) (hg : Gl X "_law_term") (hm : X.mg "_law_term" = some (.ref f)) (hk : PySem.W.keepIn X.K (.ref f) = true) (hN : X.N[1]? = some ("e" : Str)) (hv : Vis X.env.scope "e")
    (hz : L2N.Zn cls d oe) (hd : ∃ vs, oe.data = .fields vs) :
    PE (X.suite a ((a, oe) :: pn)) (.Call (.Name "_law_term" p1) [.Name "e" p2] [] p3) (fun σ H Q => σ[1]? = some (some (.ref a)) ∧ ∃ D j, cls = .ref D ∧ d = none ∧ KindIs X.K cs CS D j ∧ Names1 H j Q) := by
  refine ⟨fun pins s σ H Q I h => ?_⟩
  obtain ⟨h1, D, j, rfl, rfl, kd, hQ⟩ := h
  refine wpAny_Call_Name_kw (ld_glob I hg hm ?_ (by decide))
  have ha : PA (X.suite a ((a, oe) :: pn)) [.Name "e" p2] (tCons (tVar 1) tNil) := pa_cons (pe_var (X := X.suite a ((a, oe) :: pn)) hN hv) pa_nil
  refine PySem.W.callWith_K (h₀ := X.base) I.ok.mod.kin hk (thn (ha.run p3 pins s σ H (fun vs H1 => vs = [.ref a] ∧ H1 = H) I ⟨.ref a, h1, rfl, rfl⟩) fun us s1 ⟨vs, H1, I1, r, e1, e2⟩ => ⟨I1.kIn, ?_⟩) (by rfl) (by rfl)
  subst e1 e2
  rw [Vals.ref1 r]
  obtain ⟨q1, q2, q3, q4, q5⟩ := I1.pin (a, oe) (List.mem_append_left _ List.mem_cons_self)
  obtain ⟨vs, hd⟩ := hd
  have pin : PinOk X.stack H1 s1 (a, oe) := ⟨q1, q2, fun z => (List.mem_cons.mp (I1.stkSub a z)).elim q3 q4, q5⟩
  have hot : Hot1 (X.A.mark (some (.ref a))) (a, oe) := ⟨rfl, vs, hd, hz.2.2 vs hd⟩
  refine wpAny_call (codeAny_mono (T (X.A.mark (some (.ref a))) X.stack s1 H1 (a, oe) Q D j ⟨hr.dp, hr.un⟩ hot pin I1.env0 kd hz.zc hQ) fun r s' hq => ?_)
  cases r with
  | error e => exact (show False from hq).elim
  | ok fl =>
    cases fl with
    | ret u => exact I1.after hq
    | next => exact False.elim hq
    | brk => exact False.elim hq
    | cont => exact False.elim hq
def lamN (X : Cx) (A : Around) (outer : List Env) (s : Shared) (H : Hp) (E : XK) (scope : Scope) (f c' : Addr) : Cx :=
  (LamX.lamCx X A outer s H E scope f c').tr [] fun e s' => wpAny (model X.prog X.w) (A.deeper (LamX.lamEnv X scope s.heap.objs.size f c')) (leaving (LamX.lamEnv X scope s.heap.objs.size f c') e) (fun _ s'' => L2N.CX X.prog X.w outer H s E e s'') (fun e' s'' => L2N.CX X.prog X.w outer H s E e' s'') s'
theorem lamN_takes {A : Around} {outer : List Env} {s : Shared} {H : Hp} {E : XK} {scope : Scope} {f c' : Addr} : L2N.Takes (lamN X A outer s H E scope f c') (fun cls d _ H => E cls d H) := L2N.takes_of rfl rfl rfl rfl
theorem pe_deed {pins : List (Addr × Obj)} {σ : L2.St} {H : Hp} {s : Shared} {Z : Cx} {c' : Addr} {pm ctv : Value} {params : Arguments} {body : Expr} {scope : Scope} {k i : Nat} {a : Str} {W : WX} {E : XK} {tb : TE} {p1 p2 : Pos}
    (hP : Z.prog = X.prog) (hw : Z.w = X.w) (hK : Z.K = X.K) (hmg : Z.mg = X.mg) (hbs : Z.base = X.base) (h0 : Z.s_0 = s) (h1 : Z.H_0 = H) (hfs : Z.fs = frs X.stack) (hex : Z.ex = [])
    (I : Inv X pins σ H s) (L : LamX.LamS X.env.scope scope) (hf : s.heap.get? f = some (PySem.W.kla_obj "<lambda>" (X.env.qual ++ "<lambda>") params body scope (cloFrom X.env.cells scope.names []) pm c' ctv)) (hfn : H f = none) (hfr : f ∉ frs X.stack)
    (hbind : bindArgs (PySem.W.kla_fn "<lambda>" (X.env.qual ++ "<lambda>") params body scope (cloFrom X.env.cells scope.names []) pm (.ref c') ctv) ⟨[], []⟩ = pure [])
    (tk : L2N.Takes Z W) (hr : Room (k + 1) Z.A)
    (hbody : ∀ (A : Around) (outer : List Env) (s : Shared) (H : Hp), Room k (A.deeper (LamX.lamEnv X scope s.heap.objs.size f c')) → PE (lamN X A outer s H E scope f c') body tb)
    (hN : Z.N[i]? = some a) (hv : Vis Z.env.scope a) (hd : (a == ("__debug__" : Str)) = false := by decide) (hcd : (a == ("__classdict__" : Str)) = false := by decide) :
    PE Z (.Call (.Name a p1) [] [] p2) (fun σZ HZ Q => σZ[i]? = some (some (.ref f)) ∧ HZ c' = some (LamX.CodeO c' (X.env.qual ++ "<lambda>")) ∧ (∀ cls d H', E cls d H' → W cls d σZ H') ∧ tb σ HZ Q) := by
  refine ⟨fun pinsZ sZ σZ HZ Q IZ ⟨hs, hc, hW, ht⟩ => ?_⟩
  refine wpAny_Call_Name_kw (thn ((pe_var (pos := p1) hN hv hd hcd).run pinsZ sZ σZ HZ (fun v H1 => v = .ref f ∧ H1 = HZ) IZ ⟨.ref f, hs, rfl, rfl⟩) fun u s1 ⟨v, H1, I1, r1, ev, eH⟩ => ?_)
  subst ev eH
  obtain rfl : u = Value.ref f := r1
  have un : Un (frs X.stack) [] H H1 s.heap s1.heap := by
    have z := I1.base
    rw [h0, h1, hfs, hex] at z
    exact z
  have there : s1.heap.get? f = some (PySem.W.kla_obj "<lambda>" (X.env.qual ++ "<lambda>") params body scope (cloFrom X.env.cells scope.names []) pm c' ctv) := un.keep f _ hf hfn hfr (fun z => nomatch z)
  refine PySem.W.callWith_F0 ⟨_, _, _, _, there⟩ ?_
  obtain ⟨⟨oc, vs, t, hoc, hdc, hvc⟩, _, _⟩ := I1.hok c' _ hc
  have e0 : Env0 X.prog X.w X.K X.mg X.base Z.A Z.stack s1 H1 := by
    have z := I1.env0
    rw [hP, hw, hK, hmg, hbs] at z
    exact z
  have rc : codeAny (model X.prog X.w) Z.A (.call (.ref f) ⟨[], []⟩) (CR (L2N.CX X.prog X.w) Z.stack X.prog X.w H1 s1 Q E) s1 := by
    refine PySem.W.kla_callFunE hr.depth there rfl L.co L.gen rfl ⟨c', oc, vs, t, rfl, hoc, hdc, hvc⟩ ?_
    rw [hbind]
    refine wpAny_pure (wpAny_newFunctionEnv (fun y hy => (L.own y hy).2) (fun y hy => absurd hy (by simp)) (fun h2 hns hsb => ⟨I1.nolimit.fresh _ hsb, ?_⟩) L.kind)
    have kp : ∀ b o, s1.heap.get? b = some o → h2.get? b = some o := fun b o e => hsb.extBut b o (Nat.ne_of_lt (Heap.lt_size e)) (Heap.get?_push_of_some _ e)
    have J := Inv.toTry (LamX.lam_start2 (A := Z.A) (outer := Z.stack) (E := E) (f := f) (c' := c') (tk := s1.toks + ([] : List (Str × Value)).length) I L e0 hr.hd un hns kp) fun e s' => wpAny (model X.prog X.w) (Z.A.deeper (LamX.lamEnv X scope s1.heap.objs.size f c')) (leaving (LamX.lamEnv X scope s1.heap.objs.size f c') e) (fun _ s'' => L2N.CX X.prog X.w Z.stack H1 s1 E e s'') (fun e' s'' => L2N.CX X.prog X.w Z.stack H1 s1 E e' s'') s'
    refine PySem.W.kla_codeExpr (wpAny_mono ((hbody Z.A Z.stack s1 H1 (hr.deeper _)).run [] _ _ H1 Q J ht) (fun v s' ⟨w', H', J', rv, q⟩ => ?_) fun e s' hq => hq)
    exact ⟨w', H', J'.os, J'.bare, J'.base, J'.hok, rv, q⟩
  have hx : ∀ e s', L2N.CX X.prog X.w Z.stack H1 s1 E e s' → Z.xe e s' := fun e s' c => tk e s' (L2N.XE.of_call I1 hW (by rw [hP, hw]; exact c))
  rw [hP, hw]
  refine wpAny_call (codeAny_mono rc fun r s' hq => ?_)
  cases r with
  | error e => exact hx e s' hq
  | ok fl =>
    cases fl with
    | ret u => exact I1.after (by rw [hP, hw]; exact hq)
    | next => exact False.elim hq
    | brk => exact False.elim hq
    | cont => exact False.elim hq
structure ToldOk (P : Program) (w : World) (K : PySem.W.Frag) (mg : Str → Option Value) (base : Heap) (cs : Nat → Addr) (CS : Addr) : Prop where
  ex : ∃ (g ft : Addr) (fd : FuncData) (st : Stmt) (p1 p2 p3 p4 p5 p6 p7 p8 p9 p10 : Pos), mg "_law_told" = some (.ref g) ∧ PySem.W.keepIn K (.ref g) = true ∧ L2.Binds K fd ["deed"] [] ∧ Fun K "_law_told" "_law_told" st g fd ∧ FnScope ["deed", "e"] ["deed"] (defScope st) ∧
    defBody st = [.Try [.Return (some (.Call (.Name "deed" p1) [] [] p2)) p3] [.ExceptHandler (some (.Name "PictureError" p4)) (some "e") [.Return (some (.Call (.Name "_law_term" p5) [.Name "e" p6] [] p7)) p8] p9] [] [] p10] ∧
    (defScope st).names.lookup ("PictureError" : Str) = some .globalImplicit ∧ (defScope st).names.lookup ("_law_term" : Str) = some .globalImplicit ∧ (defScope st).names.lookup ("e" : Str) = some .local ∧ (defScope st).names.lookup ("deed" : Str) = some .local ∧
    mg "PictureError" = some (.ref CS) ∧ mg "_law_term" = some (.ref ft) ∧ PySem.W.keepIn K (.ref ft) = true ∧ TermRun P w K mg base cs CS ft
def ETold (K : PySem.W.Frag) (cs : Nat → Addr) (CS : Addr) (Q : VK) : XK := fun cls d H => ∃ D j, cls = .ref D ∧ d = none ∧ KindIs K cs CS D j ∧ Names1 H j Q
def tTold (T : List (Addr × Str)) (K : PySem.W.Frag) (cs : Nat → Addr) (CS : Addr) (t : XK → TE) : TE := fun σ H Q => LamX.Tabs T H ∧ ∀ H1, LamX.ExtN H H1 → LamX.Tabs T H1 → t (ETold K cs CS Q) σ H1 Q
theorem takesN0 {X : Cx} : L2N.Takes X (fun _ _ _ _ => False) := fun _ _ ⟨_, _, _, _, _, _, _, _, _, _, _, _, _, _, _, _, z⟩ => z.elim
theorem pe_told {T : List (Addr × Str)} {c P : Addr} {k : Nat} {params : Arguments} {body : Expr} {scope : Scope} {t : XK → TE} {p lpos pos : Pos} (TO : ToldOk X.prog X.w X.K X.mg X.base cs CS) (hg : Gl X "_law_told")
    (TB : LamX.TabB X.base X.mg c P) (hcode : X.env.code = .ref c) (hmT : (P, X.env.qual ++ "<lambda>") ∈ T) (hu : ∀ p ∈ T, p.1 = P → p.2 = X.env.qual ++ "<lambda>") (hr : Room (k + 2) X.A) (L : LamX.LamS X.env.scope scope) (hdef : defaultsOf params X.env = ([], []))
    (hbind : ∀ (q : Str) (cl : List (Str × Addr)) (pm cv ctv : Value), bindArgs (PySem.W.kla_fn "<lambda>" q params body scope cl pm cv ctv) ⟨[], []⟩ = pure [])
    (hbody : ∀ (A : Around) (outer : List Env) (s : Shared) (H : Hp) (E : XK) (f c' : Addr), Room k (A.deeper (LamX.lamEnv X scope s.heap.objs.size f c')) → PE (lamN X A outer s H E scope f c') body (t E)) :
    PE X (.Call (.Name "_law_told" p) [.Lambda params body scope lpos] [] pos) (tTold T X.K cs CS t) := by
  obtain ⟨g, ft, fd, st, p1, p2, p3, p4, p5, p6, p7, p8, p9, p10, gm, gk, gb, F, Sg, hbd, l1, l2, l3, l4, cm, tm, tkp, TR⟩ := TO.ex
  obtain ⟨oc, od, kV, doc, pm, an, cdv, ct, osl, rfl, lk, hcd⟩ := F.ex
  refine ⟨fun pins s σ H Q I ⟨hT, h⟩ => ?_⟩
  refine wpAny_Call_Name_kw (ld_glob I hg gm ?_ (by decide))
  refine PySem.W.callWith_K (h₀ := X.base) I.ok.mod.kin gk ?_ (by rfl) (by rfl)
  show wpAny _ _ (spliced ((false, eval (.Lambda params body scope lpos) X.env) :: backTo pos (starEach [] X.env))) _ _ s
  refine Calls.spliced_cons (LamX.lam_make2 I TB hcode hmT hu hT hdef (L.has I.ok) fun f c' pm' ctv H1 s' I1 eN T1 hf hfn hfr hco => ?_)
  refine Calls.spliced_nil ⟨I1.kIn, ?_⟩
  have rc : codeAny (model X.prog X.w) X.A (.call (.ref g) ⟨[.ref f], []⟩) (CR C8.CX0 X.stack X.prog X.w H1 s' Q C8.E0) s' := by
    refine LamX.run_ofS (N := ["deed", "e"]) (ps := ["deed"]) (us := [.ref f]) (vs := [.ref f]) lk hcd Sg hr I1.env0 (gb s' [.ref f] I1.kIn rfl) (.cons rfl .nil) rfl fun hr' => ?_
    rw [hbd]
    generalize hZ : cxOf C8.CX0 X.prog X.w X.K X.mg X.base ["deed", "e"] "_law_told" (defScope st) g cdv X.A X.stack s' H1 C8.E0 = Z
    have z1 : Z.stack = Z.env :: Z.outer := by subst hZ; rfl
    have z2 : Z.env.frame = some Z.env.locals := by subst hZ; rfl
    have z3 : Z.N = (["deed", "e"] : List Str) := by subst hZ; rfl
    have z4 : Z.env.scope = defScope st := by subst hZ; rfl
    refine ⟨_, PSs.nox (pss_one (L2N.ps_try_as (X := Z.nox) (i := 1) (c := .ref CS) (Wout := fun _ _ _ _ => False)
      (tb := fun W D σZ HZ => ∃ E : XK, σZ[0]? = some (some (.ref f)) ∧ HZ c' = some (LamX.CodeO c' (X.env.qual ++ "<lambda>")) ∧ (∀ cls d H', E cls d H' → W cls d σZ H') ∧ t E σ HZ D.rt)
      (ts := fun a cls d D σZ HZ => σZ[1]? = some (some (.ref a)) ∧ ∃ D' j, cls = .ref D' ∧ d = none ∧ KindIs X.K cs CS D' j ∧ Names1 HZ j D.rt)
      z1 z2 (by show Z.N.Nodup; rw [z3]; decide) (by show Z.N[1]? = _; rw [z3]; rfl) (by show Z.env.scope.names.lookup _ = _; rw [z4]; exact l3) ⟨by show Z.env.scope.names.lookup _ = _; rw [z4]; exact l1, by decide, .inl (by subst hZ; exact cm)⟩ takesN0
      (fun W pn xe tk _ => ?_) (fun a oe cls d pn hz hd => ?_))), ?_⟩
    · refine ⟨fun pinsZ sZ σZ HZ D IZ ⟨E, h1, h2, h3, h4⟩ => ?_⟩
      have q := pss_one (ps_ret (pos := p3) (pe_deed (X := X) (Z := Z.nox.tr pn xe) (f := f) (c' := c') (k := k) (i := 0) (a := "deed") (W := W) (E := E) (tb := t E) (p1 := p1) (p2 := p2) (by subst hZ; rfl) (by subst hZ; rfl) (by subst hZ; rfl) (by subst hZ; rfl) (by subst hZ; rfl) (s := s') (H := H1) (by subst hZ; rfl) (by subst hZ; rfl) (by subst hZ; rfl) (by subst hZ; rfl)
        I1 L hf hfn hfr (hbind _ _ _ _ _) tk (by subst hZ; exact hr') (fun A outer s H hr2 => hbody A outer s H E f c' hr2) (by show Z.N[0]? = _; rw [z3]; rfl) (by show Vis Z.env.scope _; rw [z4]; exact .inl l4)))
      exact q.run pinsZ sZ σZ HZ D IZ ⟨h1, h2, h3, h4⟩
    · subst hZ
      exact pss_one (ps_ret (pe_term (X := (cxOf C8.CX0 X.prog X.w X.K X.mg X.base ["deed", "e"] "_law_told" (defScope st) g cdv X.A X.stack s' H1 C8.E0).nox) TR ((roomH_of hr').mono (by omega)) l2 tm tkp rfl (.inl l3) hz hd))
    · refine ⟨ETold X.K cs CS Q, rfl, hco, fun cls d H' ⟨D', j, e1, e2, kd, hn⟩ => ⟨true, ?_, fun _ a na => ⟨rfl, D', j, e1, e2, kd, hn⟩, fun z => by cases z⟩, h H1 eN T1⟩
      rw [e1]
      subst hZ
      exact kd.got
  refine wpAny_call (codeAny_mono rc fun r s2 hq => ?_)
  cases r with
  | error e => exact (show False from hq).elim
  | ok fl =>
    cases fl with
    | ret u => exact I1.after hq
    | next => exact False.elim hq
    | brk => exact False.elim hq
    | cont => exact False.elim hq
end
end HotL
set_option maxHeartbeats 2000000
namespace VL
open PySem PySem.Spec PyProof.Rows L2
variable [Tabl]
section
variable {K : PySem.W.Frag} {fx : Fx} {L : Nat → Prop} {Fz H H1 : Hp} {σ : L2.St} {s : S} {φ : Nat → List Addr}
theorem Rel.extN (r : Rel K fx Fz σ H s φ) (e : LamX.ExtN H H1) (t : LamX.Tabs Tabl.T H1) : Go L Fz H s φ Fz H1 s φ ∧ Rel K fx Fz σ H1 s φ := by
  refine ⟨⟨Same.refl _, fun b o q n _ => e b o q n, fun b o q n => ⟨o, e b o q n, n⟩, fun b o q n z _ => z, fun i w x q => ⟨⟨x, q⟩, fun b hb => .inl hb⟩⟩,
    ⟨fun b o q => e b o (r.sub b o q) (r.tt.hF b o q), fun b o q => ?_, fun b o q n => e b o (r.old b o q n) (r.tt.h0 b o q), r.f0, r.nf, fun i x q => ?_, r.fz, r.dj, r.rt, r.len, ⟨r.tt.h0, r.tt.hF, t⟩⟩⟩
  · obtain ⟨u, h1, h2⟩ := r.dom b o q
    exact ⟨u, e b u h1 h2, h2⟩
  · obtain ⟨v, g1, g2⟩ := r.sl i x q
    refine ⟨v, g1, g2.keep (Same.refl _) fun w o ex b hb => ?_⟩
    subst ex
    obtain ⟨u, f1, f2⟩ := r.foot q b hb
    rw [f1]; exact e b u f1 f2.nt
theorem Rel.lay2 (r : Rel K fx Fz σ H s φ) {p : Addr} {o : HO} (h : H p = none) (e2 : Same H H1) (hp : H1 p = some o) (no : NT o) : Go L Fz H s φ (upd Fz p o) H1 s φ ∧ Rel K fx (upd Fz p o) σ H1 s φ := by
  have hF := r.free h
  have h0 := r.free0 h
  have e1 : Same Fz (upd Fz p o) := same_upd hF
  refine ⟨⟨e1, fun b u q _ _ => e2 _ _ q, fun b u q n => ⟨u, e2 _ _ q, n⟩, fun b u q _ n _ => by rw [upd_ne (ne_of_none q h)]; exact n, fun i w x q => ⟨⟨x, q⟩, fun b hb => .inl hb⟩⟩, ⟨fun b u q => ?_, fun b u q => ?_, fun b u q n => e2 _ _ (r.old b u q n), fun b u q => e1 _ _ (r.f0 b u q), fun b u q n => ?_, fun i x q => ?_, fun i w x q b hb => ?_, r.dj, r.rt, r.len, (r.tt.same e2).frz no⟩⟩
  · by_cases hb : b = p
    · subst hb; rw [upd_same] at q; cases q; exact hp
    · rw [upd_ne hb] at q; exact e2 _ _ (r.sub b u q)
  · obtain ⟨u', q', n'⟩ := r.dom b u q
    exact ⟨u', e2 _ _ q', n'⟩
  · rw [upd_ne (ne_of_none q h0)]
    exact r.nf b u q n
  · obtain ⟨v, g1, g2⟩ := r.sl i x q
    exact ⟨v, g1, g2.same e1 e2⟩
  · obtain ⟨f1, f2⟩ := r.fz i w x q b hb
    obtain ⟨u, f3, _⟩ := r.foot q b hb
    refine ⟨?_, f2⟩
    rw [upd_ne (ne_of_none f3 h)]; exact f1
end
def KindsOk (K : PySem.W.Frag) (mg : Str → Option Value) (ks : List Str) (cs : Nat → Addr) (CS : Addr) : Prop := ∀ c ∈ ks, ∀ C, mg c = some C → ∃ D j, C = .ref D ∧ HotL.KindIs K cs CS D j ∧ toldKinds.getD j "" = c
def LamOk (base : Heap) (mg : Str → Option Value) (cd : Value) (q : Str) : Prop := ∃ c P, cd = .ref c ∧ LamX.TabB base mg c P ∧ (P, q) ∈ Tabl.T ∧ ∀ p ∈ Tabl.T, p.1 = P → p.2 = q
structure ToldCx (X : Cx) (ks : List Str) (k : Nat) : Prop where
  ex : ∃ cs CS, HotL.ToldOk X.prog X.w X.K X.mg X.base cs CS ∧ KindsOk X.K X.mg ks cs CS
  lam : LamOk X.base X.mg X.env.code (X.env.qual ++ "<lambda>")
  room : Room (k + 3) X.A
theorem px_told {X : Cx} {W : WX} {L : Nat → Prop} {cf : CF} {k : Nat} {body : Expr} {scope : Scope} {ia : IE} {p lpos pos : Pos} {ks : List Str} (c : ToldCx X ks k) (hg : Gl X "_law_told") (hS : LamX.LamS X.env.scope scope)
    (hb : ∀ (A : Around) (outer : List Env) (s : Shared) (H : Hp) (E : XK) (f c' : Addr), Room (k + 1) (A.deeper (LamX.lamEnv X scope s.heap.objs.size f c')) → PX (HotL.lamN X A outer s H E scope f c') (fun cls d _ H => E cls d H) L body (ev cf ia)) :
    PX X W L (.Call (.Name "_law_told" p) [.Lambda ⟨[], [], none, [], [], none, []⟩ body scope lpos] [] pos) (ev cf (.told ks ia)) := by
  obtain ⟨cs, CS, TO, KO⟩ := c.ex
  obtain ⟨c0, P, hc, TB, hT, hu⟩ := c.lam
  refine PE.imp (HotL.pe_told (t := fun E => tI X.K X.mg (fun cls d _ H => E cls d H) L (ev cf ia)) TO hg TB hc hT hu c.room hS rfl (fun _ _ _ _ _ => rfl) hb) fun σ H Q ⟨fx, Fz, s, φ, rl, q⟩ => ⟨rl.tt.tb, fun H1 eN T1 => ?_⟩
  obtain ⟨g1, r1⟩ := rl.extN (L := L) eN T1
  refine ⟨fx, Fz, s, φ, r1, Post.toD ?_⟩
  have q : Post X.K X.mg W L fx Fz H s φ σ (toldEnd ks (one1 (ev cf ia) s)) Q := q
  cases e : one1 (ev cf ia) s with
  | ok d t =>
    rw [e] at q
    exact fun v H' F' φ' g rl' rp => q v [] H' F' φ' (g1.trans g) rl' ⟨rfl, rp⟩ (fun b hb => by cases hb)
  | stuck => rw [e] at q; exact q.elim
  | exc x t =>
    rw [e] at q
    unfold toldEnd at q
    by_cases hx : x ∈ ks
    · dsimp only at q
      rw [if_pos hx] at q
      intro C H' F' φ' hm g rl'
      obtain ⟨D, j, e1, kd, e2⟩ := KO x hx C hm
      refine ⟨D, j, e1, rfl, kd, fun a H2 na sm ha => ?_⟩
      rw [e2] at ha
      obtain ⟨g2, r2⟩ := rl'.lay2 (L := L) na sm ha (fun _ z => nomatch z)
      exact q (.ref a) [] H2 _ φ' (g1.trans (g.trans g2)) r2 ⟨rfl, .tup (.inl (.inl upd_same)) (.cons (.str _) (.cons (.str _) .nil))⟩ (fun b hb => by cases hb)
    · dsimp only at q
      rw [if_neg hx] at q
      exact q.elim
end VL
set_option maxHeartbeats 1000000
namespace VL
open PySem PySem.Spec PyProof.Rows L2
variable [Tabl]
structure Cc where
  N : List Str
  defs : List (Str × List Bool)
  glbs : List (Str × D)
  blts : List Str
  excs : List Str
  clss : List (Str × (Nat × Nat × List Bool))
  mths : List (Str × List (Nat × Nat))
  flds : List Str
  told : Bool
def Cc.inL (cc : Cc) : Cc := { cc with told := false }
def findIx (x : Str) : List Str → Option Nat
  | [] => none
  | y :: ys => if x = y then some 0 else (findIx x ys).map (· + 1)
def slotOf (cc : Cc) (sc : Scope) (x : Str) : Option Nat := match sc.names.lookup x with
  | some .local => findIx x cc.N
  | some .cell => findIx x cc.N
  | some .free => findIx x cc.N
  | _ => none
def isGl (sc : Scope) (x : Str) : Bool := match sc.names.lookup x with
  | some .globalImplicit => true
  | _ => false
def badName (x : Str) : Bool := x == ("__debug__" : Str) || x == ("__classdict__" : Str) || decide (x = ("__name__" : Str))
def nameSlot (cc : Cc) (sc : Scope) : Expr → Option Nat
  | .Name x _ => if badName x then none else slotOf cc sc x
  | _ => none
def noStar : Expr → Bool
  | .Starred _ _ => false
  | _ => true
def noSet : Expr → Bool
  | .Set _ _ _ => false
  | _ => true
def noSlice : Expr → Bool
  | .Slice _ _ _ _ => false
  | _ => true
def noComp : Expr → Bool
  | .ListComp _ _ _ _ => false
  | .SetComp _ _ _ _ => false
  | .DictComp _ _ _ _ _ => false
  | _ => true
def plainT : Expr → Bool
  | .UnaryOp _ _ _ => false
  | .BoolOp _ _ _ => false
  | .IfExp _ _ _ _ => false
  | .Compare _ _ _ _ => false
  | _ => true
def bopC : Operator → Option Bop
  | .Add => some .add | .Sub => some .sub | .Mult => some .mul | .FloorDiv => some .fdiv | .Mod => some .mod | .Pow => some .pow
  | _ => none
def copC : CmpOp → Expr → Option Cop
  | .Eq, _ => some .eq | .NotEq, _ => some .ne | .Lt, _ => some .lt | .LtE, _ => some .le | .Gt, _ => some .gt | .GtE, _ => some .ge
  | .In, _ => some .inn | .NotIn, _ => some .notIn
  | .Is, .Constant .none _ _ => some .isN
  | .IsNot, .Constant .none _ _ => some .notN
  | .Is, .Constant (.bool _) _ _ => some .isB
  | .IsNot, .Constant (.bool _) _ _ => some .notB
  | _, _ => none
def bltC (x : Str) (n : Nat) : Option Blt :=
  if n = 1 then
    if x = "int" then some .int1 else if x = "len" then some .len else if x = "all" then some .all else if x = "any" then some .any else if x = "sum" then some .sum else if x = "abs" then some .abs
    else if x = "tuple" then some .tuple else if x = "list" then some .list else none
  else if n = 2 then
    if x = "max" then some .max2 else if x = "min" then some .min2 else none
  else none
def tyC (x : Str) : Option Ty :=
  if x = "int" then some .int else if x = "bool" then some .bool else if x = "str" then some .str else if x = "tuple" then some .tuple else if x = "list" then some .list else none
def defIx (x : Str) : List (Str × List Bool) → Option (Nat × List Bool)
  | [] => none
  | (y, b) :: r => if x = y then some (0, b) else (defIx x r).map fun p => (p.1 + 1, p.2)
abbrev CE := Scope → Expr → Option IE
def cA (r : CE) (sc : Scope) : List Expr → Option IE
  | [] => some .nil
  | e :: es => if noStar e then (r sc e).bind fun a => (cA r sc es).map fun b => .cons a b else none
def cAnd (r : CE) (sc : Scope) : List Expr → Option IE
  | [] => none
  | [a] => r sc a
  | a :: rest => (r sc a).bind fun ia => (cAnd r sc rest).map fun ib => .and ia ib
def cOr (r : CE) (sc : Scope) : List Expr → Option IE
  | [] => none
  | [a] => r sc a
  | a :: rest => (r sc a).bind fun ia => (cOr r sc rest).map fun ib => .or ia ib
def cPart (r : CE) (sc : Scope) : Option Expr → Option (Bool × IE)
  | none => some (false, .nil)
  | some e => (r sc e).map fun a => (true, a)
def placeOf (cc : Cc) (sc : Scope) : Expr → Option Pl
  | .Attribute o f _ => if f ∈ cc.flds then (nameSlot cc sc o).map fun i => ⟨i, some f⟩ else none
  | e => (nameSlot cc sc e).map fun i => ⟨i, none⟩
def okP (p : Pl) (e : IE) : Bool := match p.f with
  | none => true
  | some _ => !(lent e).contains p.i
def guardB (b : Bool) (x : Option IE) : Option IE := match b with
  | true => x
  | false => none
def cCmp (cc : Cc) (r : CE) (sc : Scope) (a : Expr) (ops : List CmpOp) (bs : List Expr) : Option IE := match ops, bs with
  | [op], [b] => (copC op b).bind fun o => if noSet b then (match placeOf cc sc a with
    | some p => (r sc b).bind fun ib => guardB (okP p ib) (some (.cmpL o p ib))
    | none => match o, placeOf cc sc b with
      | .inn, some p => (r sc a).map fun ia => .cmpR o ia p
      | .notIn, some p => (r sc a).map fun ia => .cmpR o ia p
      | _, _ => (r sc a).bind fun ia => (r sc b).map fun ib => .cmp o ia ib) else none
  | [op, op'], [b, c] => (copC op b).bind fun o => (copC op' c).bind fun o' => if noSet c then (r sc a).bind fun ia => (r sc b).bind fun ib => (r sc c).map fun ic => .chain o o' ia ib ic else none
  | _, _ => none
mutual
def cTg (cl : Bool) (cc : Cc) (sc : Scope) : Expr → Option Tg
  | .Name x _ => match sc.names.lookup x, cl with
    | some .local, _ => (findIx x cc.N).map .nm
    | some .cell, true => (findIx x cc.N).map .nm
    | _, _ => none
  | .Tuple es _ _ => (cTgs cl cc sc es).map .tp
  | _ => none
def cTgs (cl : Bool) (cc : Cc) (sc : Scope) : List Expr → Option Tgs
  | [] => some .nil
  | e :: es => (cTg cl cc sc e).bind fun t => (cTgs cl cc sc es).map fun ts => .cons t ts
end
def rangeArgs (cc : Cc) (sc : Scope) : Expr → Option (List Expr)
  | .Call (.Name f _) args [] _ => if f = "range" ∧ isGl sc f ∧ f ∈ cc.blts then some args else none
  | _ => none
def isTup : Expr → Bool
  | .Tuple _ _ _ => true
  | _ => false
def enumArg (cc : Cc) (sc : Scope) : Expr → Option Expr
  | .Call (.Name f _) [a] [] _ => if f = "enumerate" ∧ isGl sc f ∧ f ∈ cc.blts then some a else none
  | _ => none
def cIt (cc : Cc) (r : CE) (sc : Scope) (tg e : Expr) : Option (Itk × IE) := match rangeArgs cc sc e with
  | some [a] => (cA r sc [a]).map fun l => (.range1, l)
  | some [a, b] => (cA r sc [a, b]).map fun l => (.range2, l)
  | some _ => none
  | none => match enumArg cc sc e with
    | some a => if isTup tg then (cA r sc [a]).map fun l => (.enum, l) else none
    | none => if noSet e then (r sc e).map fun a => (.seq, .cons a .nil) else none
def ownOf (cc : Cc) (scope : Scope) : List (Str × Nat) := scope.names.filterMap fun (n, k) => match k with
  | .local => (findIx n cc.N).map fun i => (n, i)
  | .cell => (findIx n cc.N).map fun i => (n, i)
  | _ => none
def reads : IE → List Nat
  | .nil => [] | .cons a b => reads a ++ reads b
  | .var i => [i] | .fld _ => [] | .bor _ => []
  | .cst _ => [] | .glb _ _ => []
  | .tup l => reads l | .lst l => reads l
  | .op _ a b => reads a ++ reads b | .neg a => reads a
  | .opB _ _ b => reads b
  | .cmp _ a b => reads a ++ reads b | .cmpL _ _ b => reads b | .cmpR _ a _ => reads a
  | .chain _ _ a b c => reads a ++ reads b ++ reads c
  | .not a => reads a | .and a b => reads a ++ reads b | .or a b => reads a ++ reads b
  | .ife t a b => reads t ++ reads a ++ reads b
  | .call _ l => reads l | .new _ _ l => reads l
  | .meth _ _ _ l => reads l | .methT _ _ a l => reads a ++ reads l | .methF _ _ _ _ => []
  | .callC _ l => reads l
  | .blt _ l => reads l | .bltB _ _ => []
  | .isi a _ => reads a
  | .ix a b => reads a ++ reads b | .ixB _ b => reads b
  | .slc _ _ a lo hi => reads a ++ reads lo ++ reads hi | .slcB _ _ _ lo hi => reads lo ++ reads hi
  | .lc _ _ _ _ l c e => reads l ++ reads c ++ reads e
  | .told _ a => reads a
def cTests (r : CE) (sc : Scope) : List Expr → Option IE
  | [] => some (.cst (.bool true))
  | [c] => r sc c
  | _ => none
def cLc (cc : Cc) (rE rT : CE) (sc : Scope) (elt tgE iter : Expr) (ifs : List Expr) (scope : Scope) : Option IE :=
  let own := ownOf cc scope
  let sc' := relS scope sc
  if blkC cc.N sc scope own then
    (cIt cc rE sc tgE iter).bind fun (k, il) => (cTg false cc sc' tgE).bind fun tg => if tg.slots.all (fun i => (own.map (·.2)).contains i) && noSet iter then
      (cTests rT sc' ifs).bind fun ic => (rE sc' elt).map fun ie => .lc (reads ic ++ reads ie) (own.map (·.2)) tg k il ic ie
    else none
  else none
def cLend (cc : Cc) (r : CE) (sc : Scope) (e : Expr) : Option IE := match nameSlot cc sc e with
  | some i => some (IE.bor i)
  | none => r sc e
def cK (cc : Cc) (r : CE) (sc : Scope) : List Bool → List Expr → Option IE
  | [], [] => some .nil
  | true :: ks, e :: es => if noStar e then (cLend cc r sc e).bind fun a => (cK cc r sc ks es).map fun b => .cons a b else none
  | false :: ks, e :: es => if noStar e then (r sc e).bind fun a => (cK cc r sc ks es).map fun b => .cons a b else none
  | _, _ => none
def cCall (cc : Cc) (r : CE) (sc : Scope) (f : Str) (args : List Expr) : Option IE :=
  if isGl sc f && !badName f then
    match defIx f cc.defs with
    | some (n, ks) => (cK cc r sc ks args).map fun l => .call n l
    | none => match cc.clss.lookup f with
      | some (c, n, ks) => (cK cc r sc ks args).map fun l => .new c n l
      | none => if f ∈ cc.blts then
        if f = "isinstance" then
          match args with
          | [a, .Name y _] => if isGl sc y && decide (y ∈ cc.blts) && !badName y && noStar a then (tyC y).bind fun t => (r sc a).map fun ia => .isi ia t else none
          | _ => none
        else match args with
          | [] => none
          | e :: es => (bltC f (e :: es).length).bind fun k => match es, placeOf cc sc e with
            | [], some p => some (.bltB k p)
            | _, _ => (cA r sc (e :: es)).map fun l => .blt k l
      else none
  else none
def isCall : Expr → Bool
  | .Call (.Name _ _) _ _ _ => true
  | _ => false
def notSuper : Expr → Bool
  | .Call (.Name x _) _ _ _ => x != ("super" : Str)
  | _ => true
def cMeth (cc : Cc) (r : CE) (sc : Scope) (o : Expr) (m : Str) (ap cp : Pos) (args : List Expr) : Option IE := if (ap.endLine == cp.line) && decide (args.length < 29) && notSuper o then match cc.mths.lookup m with
  | some ms => match nameSlot cc sc o with
    | some i => (cA r sc args).map fun l => .meth m ms i l
    | none => if isCall o then (r sc o).bind fun io => (cA r sc args).map fun l => .methT m ms io l else none
  | none => none
  else none
def lamOf : List Expr → Option (Expr × Scope)
  | [.Lambda ⟨[], [], none, [], [], none, []⟩ body scope _] => some (body, scope)
  | _ => none
def cTold (cc : Cc) (rB : CE) (sc : Scope) (f : Str) (body : Expr) (scope : Scope) : Option IE :=
  if f = "_law_told" ∧ cc.told = true ∧ isGl sc f = true ∧ LamX.lamSB sc scope = true then (rB scope body).map (.told cc.excs) else none
def cEstep (cc : Cc) (rE rT rB : CE) (sc : Scope) : Expr → Option IE
  | .Name x p => match nameSlot cc sc (.Name x p) with
    | some i => some (.var i)
    | none => if isGl sc x && !badName x then (cc.glbs.lookup x).map fun d => .glb x d else none
  | .Constant (.int i) _ _ => some (.cst (.int i))
  | .Constant (.bool i) _ _ => some (.cst (.bool i))
  | .Constant (.str i) _ _ => some (.cst (.str i))
  | .Constant .none _ _ => some (.cst .none)
  | .Tuple es _ _ => (cA rE sc es).map .tup
  | .List es _ => (cA rE sc es).map .lst
  | .BinOp a op b _ => (bopC op).bind fun o => match placeOf cc sc a with
    | some p => (rE sc b).bind fun ib => guardB (okP p ib) (some (.opB o p ib))
    | none => (rE sc a).bind fun ia => (rE sc b).map fun ib => .op o ia ib
  | .UnaryOp .USub a _ => (rE sc a).map .neg
  | .UnaryOp .Not a _ => (rE sc a).map .not
  | .BoolOp .And vs _ => cAnd rE sc vs
  | .BoolOp .Or vs _ => cOr rE sc vs
  | .Compare a ops bs _ => cCmp cc rE sc a ops bs
  | .IfExp t a b _ => (rT sc t).bind fun it => (rE sc a).bind fun ia => (rE sc b).map fun ib => .ife it ia ib
  | .Call (.Name f _) args [] _ => match lamOf args with
    | some (body, scope) => cTold cc rB sc f body scope
    | none => cCall cc rE sc f args
  | .Call (.Attribute o m ap) args [] cp => cMeth cc rE sc o m ap cp args
  | .Attribute o f p => (placeOf cc sc (.Attribute o f p)).map .fld
  | .Subscript a (.Slice lo hi none _) _ => (cPart rE sc lo).bind fun (bl, il) => (cPart rE sc hi).bind fun (bh, ih) => match placeOf cc sc a with
    | some p => guardB (okP p il && okP p ih) (some (.slcB bl bh p il ih))
    | none => (rE sc a).map fun ia => .slc bl bh ia il ih
  | .Subscript a b _ => if noSlice b then (rE sc b).bind fun ib => match placeOf cc sc a with
      | some p => guardB (okP p ib) (some (.ixB p ib))
      | none => (rE sc a).map fun ia => .ix ia ib
    else none
  | .ListComp elt [⟨tgE, iter, ifs, 0⟩] scope _ => cLc cc rE rT sc elt tgE iter ifs scope
  | _ => none
def cTstep (cc : Cc) (rE rT : CE) (sc : Scope) : Expr → Option IE
  | .UnaryOp .Not a _ => (rT sc a).map .not
  | .BoolOp .And vs _ => cAnd rT sc vs
  | .BoolOp .Or vs _ => cOr rT sc vs
  | .Compare a ops bs _ => cCmp cc rE sc a ops bs
  | e => if plainT e then rE sc e else none
def comp : Nat → Cc → CE × CE
  | 0, _ => (fun _ _ => none, fun _ _ => none)
  | n + 1, cc => (cEstep cc (fun sc e => (comp n cc).1 sc e) (fun sc e => (comp n cc).2 sc e) (fun sc e => (comp n cc.inL).1 sc e), cTstep cc (fun sc e => (comp n cc).1 sc e) (fun sc e => (comp n cc).2 sc e))
end VL
set_option maxHeartbeats 2000000
namespace VL
open PySem PySem.Spec PyProof.Rows L2
variable [Tabl]
def DefOk (X : Cx) (cf : CF) (k n : Nat) (x : Str) : Prop := ∃ f fd ps, X.mg x = some (.ref f) ∧ PySem.W.keepIn X.K (.ref f) = true ∧ L2.Binds X.K fd ps [] ∧ FnOk X.prog X.w X.K X.mg X.base (L2N.CX X.prog X.w) k f fd ps (spD X.K X.mg (cf n))
def ClsOk (X : Cx) (cf : CF) (k c n : Nat) (x : Str) : Prop := X.mg x = some (.ref (Tabl.C c)) ∧ ∃ f fd ps, Mk X.K (Tabl.C c) f ∧ L2.Binds X.K fd ps [] ∧ FnOk X.prog X.w X.K X.mg X.base (L2N.CX X.prog X.w) k f fd ps (spD X.K X.mg (cf n))
structure CtxOk (cc : Cc) (cf : CF) (X : Cx) (W : WX) (k : Nat) : Prop where
  N : X.N = cc.N
  nd : cc.N.Nodup
  calm : X.calm = true
  tk : Tk X W
  room : Room (k + 1) X.A
  defs : ∀ (n : Nat) x ks, cc.defs[n]? = some (x, ks) → DefOk X cf k n x
  glbs : ∀ x d, cc.glbs.lookup x = some d → ∃ v u, X.mg x = some u ∧ RelV v u ∧ ∀ F, Rp X.K F v d
  blts : ∀ x, x ∈ cc.blts → X.mg x = none
  clss : ∀ x c n ks, cc.clss.lookup x = some (c, n, ks) → ClsOk X cf k c n x
  mths : ∀ m ms, cc.mths.lookup m = some ms → MethsOk X cf k m ms
  flds : ∀ f, f ∈ cc.flds → ∀ c, NoAttr X.K (Tabl.C c) f
  cls : cc.flds ≠ [] ∨ cc.mths ≠ [] → ∀ c, Cls X.K (Tabl.C c)
  told : cc.told = true → ToldCx X cc.excs k
theorem CtxOk.rm {cc : Cc} {cf : CF} {X : Cx} {W : WX} {k : Nat} (c : CtxOk cc cf X W k) : Room k X.A := c.room.mono (Nat.le_succ k)
def OkE (cc : Cc) (cf : CF) (k : Nat) (r : CE) : Prop := ∀ sc e ir X W L, r sc e = some ir → CtxOk cc cf X W k → X.env.scope = sc → (∀ i ∈ lent ir, L i) → PX X W L e (ev cf ir)
def OkT (cc : Cc) (cf : CF) (k : Nat) (r : CE) : Prop := ∀ sc e ir X W L, r sc e = some ir → CtxOk cc cf X W k → X.env.scope = sc → (∀ i ∈ lent ir, L i) → PXT X W L e (evB cf ir)
theorem findIx_ok {x : Str} : ∀ {N : List Str} {i : Nat}, findIx x N = some i → N[i]? = some x
  | [], i, h => by cases h
  | y :: ys, i, h => by
    unfold findIx at h
    split at h
    · next e => cases h; subst e; rfl
    · rw [Option.map_eq_some_iff] at h
      obtain ⟨j, h1, rfl⟩ := h
      rw [List.getElem?_cons_succ]
      exact findIx_ok h1
theorem defIx_ok {x : Str} : ∀ {l : List (Str × List Bool)} {n : Nat} {b : List Bool}, defIx x l = some (n, b) → l[n]? = some (x, b)
  | [], n, b, h => by cases h
  | (y, c) :: r, n, b, h => by
    unfold defIx at h
    split at h
    · next e => cases h; subst e; rfl
    · rw [Option.map_eq_some_iff] at h
      obtain ⟨⟨m, d⟩, h1, h2⟩ := h
      cases h2
      rw [List.getElem?_cons_succ]
      exact defIx_ok h1
theorem badName_no {x : Str} (h : ¬ badName x = true) : (x == ("__debug__" : Str)) = false ∧ (x == ("__classdict__" : Str)) = false ∧ x ≠ "__name__" := by
  unfold badName at h
  simp only [Bool.or_eq_true, not_or, decide_eq_true_eq] at h
  exact ⟨by simpa using h.1.1, by simpa using h.1.2, h.2⟩
theorem slotOf_ok {cc : Cc} {sc : Scope} {x : Str} {i : Nat} (h : slotOf cc sc x = some i) : cc.N[i]? = some x ∧ Vis sc x := by
  unfold slotOf at h
  split at h
  · next e => exact ⟨findIx_ok h, .inl e⟩
  · next e => exact ⟨findIx_ok h, .inr (.inl e)⟩
  · next e => exact ⟨findIx_ok h, .inr (.inr e)⟩
  · cases h
section
variable {cc : Cc} {cf : CF} {k : Nat} {X : Cx} {W : WX} {L : Nat → Prop} {sc : Scope} {e a b : Expr} {i : Nat} {ir : IE} {rE rT r : CE} {pos : Pos}
theorem nameSlot_ok (c : CtxOk cc cf X W k) (hs : X.env.scope = sc) (h : nameSlot cc sc e = some i) : PE X e (tVar i) := by
  unfold nameSlot at h
  split at h
  · split at h
    · cases h
    · next hb =>
      obtain ⟨h1, h2⟩ := slotOf_ok h
      obtain ⟨b1, b2, b3⟩ := badName_no hb
      exact pe_var (by rw [c.N]; exact h1) (by rw [hs]; exact h2) b1 b2
  · cases h
theorem nameSlot_star (h : nameSlot cc sc e = some i) : noStar e = true := by
  unfold nameSlot at h
  split at h
  · rfl
  · cases h
theorem isGl_ok {x : Str} (hs : X.env.scope = sc) (h : isGl sc x = true) : Gl X x := by
  unfold isGl at h
  split at h
  · next e => show X.env.scope.names.lookup x = _; rw [hs]; exact e
  · cases h
theorem star_cons {env : Env} {es : List Expr} (h : noStar e = true) : starEach (e :: es) env = (false, eval e env) :: starEach es env := by
  cases e <;> first | rfl | (simp [noStar] at h)
theorem cA_star {env : Env} : ∀ {es : List Expr} {ir : IE}, cA r sc es = some ir → (backTo pos (starEach es env)).any (·.1) = false
  | [], _, _ => rfl
  | e :: es, ir, h => by
    unfold cA at h
    split at h
    · next hn =>
      rw [Option.bind_eq_some_iff] at h
      obtain ⟨x, _, h⟩ := h
      rw [Option.map_eq_some_iff] at h
      obtain ⟨y, h2, _⟩ := h
      rw [star_cons hn]
      show ((false || (backTo pos (starEach es env)).any (·.1)) = false)
      rw [cA_star h2]; rfl
    · cases h
theorem cA_head {es : List Expr} {ir : IE} (h : cA r sc (e :: es) = some ir) : noStar e = true := by
  unfold cA at h
  split at h
  · assumption
  · cases h
theorem lent_app {a b : List Nat} (h : ∀ i ∈ a ++ b, L i) : (∀ i ∈ a, L i) ∧ ∀ i ∈ b, L i := ⟨fun i hi => h i (List.mem_append_left _ hi), fun i hi => h i (List.mem_append_right _ hi)⟩
theorem cA_ok (hr : OkE cc cf k r) (c : CtxOk cc cf X W k) (hs : X.env.scope = sc) : ∀ {es : List Expr} {ir : IE}, cA r sc es = some ir → (∀ i ∈ lent ir, L i) → PXA X W L es (ev cf ir)
  | [], ir, h, _ => by cases h; exact pxa_nil
  | e :: es, ir, h, hL => by
    have hn := cA_head h
    unfold cA at h
    rw [if_pos hn, Option.bind_eq_some_iff] at h
    obtain ⟨x, h1, h⟩ := h
    rw [Option.map_eq_some_iff] at h
    obtain ⟨y, h2, rfl⟩ := h
    obtain ⟨l1, l2⟩ := lent_app (L := L) hL
    exact pxa_cons (hr _ _ _ _ _ _ h1 c hs l1) (fun s p s' e => (ev_bor x e p (by simp)).1) (cA_ok hr c hs h2 l2) (star_cons hn)
theorem cAnd_ok (hr : OkE cc cf k r) (c : CtxOk cc cf X W k) (hs : X.env.scope = sc) : ∀ {es : List Expr} {ir : IE}, cAnd r sc es = some ir → (∀ i ∈ lent ir, L i) → PX X W L (.BoolOp .And es pos) (ev cf ir)
  | [], ir, h, _ => by cases h
  | [a], ir, h, hL => px_one (hr _ _ _ _ _ _ h c hs hL)
  | a :: b :: rest, ir, h, hL => by
    rw [cAnd, Option.bind_eq_some_iff] at h
    · obtain ⟨x, h1, h⟩ := h
      rw [Option.map_eq_some_iff] at h
      obtain ⟨y, h2, rfl⟩ := h
      obtain ⟨l1, l2⟩ := lent_app (L := L) hL
      exact px_and (hr _ _ _ _ _ _ h1 c hs l1) (cAnd_ok hr c hs h2 l2)
    · intro z; cases z
theorem cOr_ok (hr : OkE cc cf k r) (c : CtxOk cc cf X W k) (hs : X.env.scope = sc) : ∀ {es : List Expr} {ir : IE}, cOr r sc es = some ir → (∀ i ∈ lent ir, L i) → PX X W L (.BoolOp .Or es pos) (ev cf ir)
  | [], ir, h, _ => by cases h
  | [a], ir, h, hL => px_one (hr _ _ _ _ _ _ h c hs hL)
  | a :: b :: rest, ir, h, hL => by
    rw [cOr, Option.bind_eq_some_iff] at h
    · obtain ⟨x, h1, h⟩ := h
      rw [Option.map_eq_some_iff] at h
      obtain ⟨y, h2, rfl⟩ := h
      obtain ⟨l1, l2⟩ := lent_app (L := L) hL
      exact px_or (hr _ _ _ _ _ _ h1 c hs l1) (cOr_ok hr c hs h2 l2)
    · intro z; cases z
theorem cAndT_ok (hr : OkT cc cf k r) (c : CtxOk cc cf X W k) (hs : X.env.scope = sc) : ∀ {es : List Expr} {ir : IE}, cAnd r sc es = some ir → (∀ i ∈ lent ir, L i) → PXW X W L (.BoolOp .And es pos) (evB cf ir)
  | [], ir, h, _ => by cases h
  | [a], ir, h, hL => pxw_and1 (hr _ _ _ _ _ _ h c hs hL)
  | a :: b :: rest, ir, h, hL => by
    rw [cAnd, Option.bind_eq_some_iff] at h
    · obtain ⟨x, h1, h⟩ := h
      rw [Option.map_eq_some_iff] at h
      obtain ⟨y, h2, rfl⟩ := h
      obtain ⟨l1, l2⟩ := lent_app (L := L) hL
      exact pxw_and (hr _ _ _ _ _ _ h1 c hs l1) (cAndT_ok hr c hs h2 l2)
    · intro z; cases z
theorem cOrT_ok (hr : OkT cc cf k r) (c : CtxOk cc cf X W k) (hs : X.env.scope = sc) : ∀ {es : List Expr} {ir : IE}, cOr r sc es = some ir → (∀ i ∈ lent ir, L i) → PXW X W L (.BoolOp .Or es pos) (evB cf ir)
  | [], ir, h, _ => by cases h
  | [a], ir, h, hL => pxw_or1 (hr _ _ _ _ _ _ h c hs hL)
  | a :: b :: rest, ir, h, hL => by
    rw [cOr, Option.bind_eq_some_iff] at h
    · obtain ⟨x, h1, h⟩ := h
      rw [Option.map_eq_some_iff] at h
      obtain ⟨y, h2, rfl⟩ := h
      obtain ⟨l1, l2⟩ := lent_app (L := L) hL
      exact pxw_or (hr _ _ _ _ _ _ h1 c hs l1) (cOrT_ok hr c hs h2 l2)
    · intro z; cases z
theorem units65 (c : CtxOk cc cf X W k) : X.A.units + 65 < cLine := by have := c.room.un; omega
theorem copC_ok {op : CmpOp} {o : Cop} (h : copC op b = some o) : op = copOf o := by
  unfold copC at h
  split at h <;> first | (cases h; rfl) | cases h
theorem marks_ok {op : CmpOp} (h : noSet b = true) : behindInMarks op b = false := by
  cases b <;> first | rfl | (simp [noSet] at h)
theorem placeOf_ok {p : Pl} (c : CtxOk cc cf X W k) (hs : X.env.scope = sc) (h : placeOf cc sc e = some p) : PE X e (tPl p) := by
  unfold placeOf at h
  split at h
  · next o f q =>
    split at h
    · next hf =>
      rw [Option.map_eq_some_iff] at h
      obtain ⟨i, h1, rfl⟩ := h
      refine pp_fld (nameSlot_ok c hs h1) (fun cn => ⟨c.cls (.inl fun z => by rw [z] at hf; simp at hf) cn, c.flds f hf cn⟩) ?_
      unfold nameSlot at h1
      split at h1
      · rfl
      · cases h1
    · cases h
  · rw [Option.map_eq_some_iff] at h
    obtain ⟨i, h1, rfl⟩ := h
    exact pp_name (nameSlot_ok c hs h1)
theorem placeOf_star {p : Pl} (h : placeOf cc sc e = some p) : noStar e = true := by
  unfold placeOf at h
  split at h
  · rfl
  · rw [Option.map_eq_some_iff] at h
    obtain ⟨i, h1, rfl⟩ := h
    exact nameSlot_star h1
def Lp (L : Nat → Prop) (p : Pl) : Nat → Prop := fun i => L i ∧ (p.f ≠ none → i ≠ p.i)
theorem Lp_sub {p : Pl} : ∀ i, Lp L p i → L i := fun _ h => h.1
theorem Lp_not {p : Pl} : p.f ≠ none → ¬ Lp L p p.i := fun hf h => h.2 hf rfl
theorem okP_ok {p : Pl} {ib : IE} (h : okP p ib = true) (hL : ∀ i ∈ lent ib, L i) : ∀ i ∈ lent ib, Lp L p i := fun i hi => by
  refine ⟨hL i hi, fun hf z => ?_⟩
  unfold okP at h
  cases e : p.f with
  | none => exact hf e
  | some f =>
    rw [e] at h
    subst z
    have : ¬ (p.i ∈ lent ib) := by simpa using h
    exact this hi
theorem guardB_some {b : Bool} {x : Option IE} (h : guardB b x = some ir) : b = true ∧ x = some ir := by
  cases b with
  | true => exact ⟨rfl, h⟩
  | false => cases h
theorem cCmp_ok {ops : List CmpOp} {bs : List Expr} (hr : OkE cc cf k r) (c : CtxOk cc cf X W k) (hs : X.env.scope = sc) (h : cCmp cc r sc a ops bs = some ir) (hL : ∀ i ∈ lent ir, L i) : PX X W L (.Compare a ops bs pos) (ev cf ir) ∧ PXT X W L (.Compare a ops bs pos) (evB cf ir) := by
  have hu := units65 c
  unfold cCmp at h
  split at h
  · rw [Option.bind_eq_some_iff] at h
    obtain ⟨o, h1, h⟩ := h
    have ho := copC_ok h1
    subst ho
    split at h
    · next hn =>
      split at h
      · next q hq =>
        rw [Option.bind_eq_some_iff] at h
        obtain ⟨ib, h2, h⟩ := h
        obtain ⟨g1, g2⟩ := guardB_some h
        cases g2
        have hb := hr _ _ _ _ _ (Lp L q) h2 c hs (okP_ok g1 hL)
        exact ⟨px_cmpL Lp_sub Lp_not hu (placeOf_ok c hs hq) hb (marks_ok hn), pxt_cmpL Lp_sub Lp_not hu (placeOf_ok c hs hq) hb (marks_ok hn)⟩
      · split at h
        · next q hq =>
          rw [Option.map_eq_some_iff] at h
          obtain ⟨ib, h2, rfl⟩ := h
          have hb := hr _ _ _ _ _ L h2 c hs hL
          exact ⟨px_cmpR hu hb (placeOf_ok c hs hq) (marks_ok hn), pxt_cmpR hu hb (placeOf_ok c hs hq) (marks_ok hn)⟩
        · next q hq =>
          rw [Option.map_eq_some_iff] at h
          obtain ⟨ib, h2, rfl⟩ := h
          have hb := hr _ _ _ _ _ L h2 c hs hL
          exact ⟨px_cmpR hu hb (placeOf_ok c hs hq) (marks_ok hn), pxt_cmpR hu hb (placeOf_ok c hs hq) (marks_ok hn)⟩
        · rw [Option.bind_eq_some_iff] at h
          obtain ⟨ia, h2, h⟩ := h
          rw [Option.map_eq_some_iff] at h
          obtain ⟨ib, h3, rfl⟩ := h
          obtain ⟨l1, l2⟩ := lent_app (L := L) hL
          have ha := hr _ _ _ _ _ L h2 c hs l1
          have hb := hr _ _ _ _ _ L h3 c hs l2
          exact ⟨px_cmp hu ha hb (marks_ok hn), pxt_cmp hu ha hb (marks_ok hn)⟩
    · cases h
  · rw [Option.bind_eq_some_iff] at h
    obtain ⟨o, h1, h⟩ := h
    have ho := copC_ok h1
    subst ho
    rw [Option.bind_eq_some_iff] at h
    obtain ⟨o', h1', h⟩ := h
    have ho := copC_ok h1'
    subst ho
    split at h
    · next hn =>
      rw [Option.bind_eq_some_iff] at h
      obtain ⟨ia, h2, h⟩ := h
      rw [Option.bind_eq_some_iff] at h
      obtain ⟨ib, h3, h⟩ := h
      rw [Option.map_eq_some_iff] at h
      obtain ⟨ic, h4, rfl⟩ := h
      obtain ⟨l12, l3⟩ := lent_app (L := L) hL
      obtain ⟨l1, l2⟩ := lent_app (L := L) l12
      have ha := hr _ _ _ _ _ L h2 c hs l1
      have hb := hr _ _ _ _ _ L h3 c hs l2
      have hc := hr _ _ _ _ _ L h4 c hs l3
      exact ⟨px_chain hu ha hb hc (marks_ok hn), pxt_chain hu ha hb hc (marks_ok hn)⟩
    · cases h
  · cases h
theorem bopC_ok {op : Operator} {o : Bop} (h : bopC op = some o) : op = opOf o := by
  unfold bopC at h
  split at h <;> first | (cases h; rfl) | cases h
theorem bltC_ok {x : Str} {n : Nat} {b : Blt} (h : bltC x n = some b) : x = bltName b := by
  unfold bltC at h
  repeat' split at h
  all_goals first | (cases h; assumption) | cases h
theorem tyC_ok {x : Str} {t : Ty} (h : tyC x = some t) : bootBuiltins x = some (.type (tyN t)) := by
  unfold tyC at h
  repeat' split at h
  all_goals first | (cases h; subst_vars; decide +kernel) | cases h
theorem cLend_ok (hr : OkE cc cf k r) (c : CtxOk cc cf X W k) (hs : X.env.scope = sc) (h : cLend cc r sc e = some ir) (hL : ∀ i ∈ lent ir, L i) : PX X W L e (ev cf ir) := by
  unfold cLend at h
  split at h
  · next i hi =>
    cases h
    have hp := nameSlot_ok c hs hi
    unfold nameSlot at hi
    split at hi
    · exact px_bor hp
    · cases hi
  · exact hr _ _ _ _ _ L h c hs hL
theorem cK_star {env : Env} : ∀ {ks : List Bool} {es : List Expr} {ir : IE}, cK cc r sc ks es = some ir → (backTo pos (starEach es env)).any (·.1) = false
  | [], [], _, _ => rfl
  | true :: ks, e :: es, ir, h => by
    unfold cK at h
    split at h
    · next hn =>
      rw [Option.bind_eq_some_iff] at h
      obtain ⟨x, _, h⟩ := h
      rw [Option.map_eq_some_iff] at h
      obtain ⟨y, h2, _⟩ := h
      rw [star_cons hn]
      show ((false || (backTo pos (starEach es env)).any (·.1)) = false)
      rw [cK_star h2]; rfl
    · cases h
  | false :: ks, e :: es, ir, h => by
    unfold cK at h
    split at h
    · next hn =>
      rw [Option.bind_eq_some_iff] at h
      obtain ⟨x, _, h⟩ := h
      rw [Option.map_eq_some_iff] at h
      obtain ⟨y, h2, _⟩ := h
      rw [star_cons hn]
      show ((false || (backTo pos (starEach es env)).any (·.1)) = false)
      rw [cK_star h2]; rfl
    · cases h
  | [], _ :: _, _, h => by cases h
  | true :: _, [], _, h => by cases h
  | false :: _, [], _, h => by cases h
theorem cK_ok (hr : OkE cc cf k r) (c : CtxOk cc cf X W k) (hs : X.env.scope = sc) : ∀ {ks : List Bool} {es : List Expr} {ir : IE}, cK cc r sc ks es = some ir → (∀ i ∈ lent ir, L i) → PXA X W L es (ev cf ir) ∧ (∀ e es', es = e :: es' → starEach (e :: es') X.env = (false, eval e X.env) :: starEach es' X.env ∧ (backTo pos (starEach es' X.env)).any (·.1) = false) ∧ (es = [] → ir = .nil)
  | [], [], ir, h, _ => by cases h; exact ⟨pxa_nil, (fun _ _ z => nomatch z), fun _ => rfl⟩
  | true :: ks, e :: es, ir, h, hL => by
    unfold cK at h
    split at h
    · next hn =>
      rw [Option.bind_eq_some_iff] at h
      obtain ⟨x, h1, h⟩ := h
      rw [Option.map_eq_some_iff] at h
      obtain ⟨y, h2, rfl⟩ := h
      obtain ⟨l1, l2⟩ := lent_app (L := L) hL
      exact ⟨pxa_cons (cLend_ok hr c hs h1 l1) (fun s p s' e => (ev_bor x e p (by simp)).1) (cK_ok hr c hs h2 l2).1 (star_cons hn), (fun e' es' z => by cases z; exact ⟨star_cons hn, cK_star h2⟩), fun z => nomatch z⟩
    · cases h
  | false :: ks, e :: es, ir, h, hL => by
    unfold cK at h
    split at h
    · next hn =>
      rw [Option.bind_eq_some_iff] at h
      obtain ⟨x, h1, h⟩ := h
      rw [Option.map_eq_some_iff] at h
      obtain ⟨y, h2, rfl⟩ := h
      obtain ⟨l1, l2⟩ := lent_app (L := L) hL
      exact ⟨pxa_cons (hr _ _ _ _ _ L h1 c hs l1) (fun s p s' e => (ev_bor x e p (by simp)).1) (cK_ok hr c hs h2 l2).1 (star_cons hn), (fun e' es' z => by cases z; exact ⟨star_cons hn, cK_star h2⟩), fun z => nomatch z⟩
    · cases h
  | [], _ :: _, _, h, _ => by cases h
  | true :: _, [], _, h, _ => by cases h
  | false :: _, [], _, h, _ => by cases h
theorem cA_nil {es : List Expr} (h : cA r sc es = some ir) (he : es = []) : ir = .nil := by subst he; cases h; rfl
theorem cCall_ok {f : Str} {p : Pos} {args : List Expr} (hr : OkE cc cf k r) (c : CtxOk cc cf X W k) (hs : X.env.scope = sc) (h : cCall cc r sc f args = some ir) (hL : ∀ i ∈ lent ir, L i) : PX X W L (.Call (.Name f p) args [] pos) (ev cf ir) := by
  unfold cCall at h
  split at h
  · next hg =>
    rw [Bool.and_eq_true] at hg
    have gl := isGl_ok hs hg.1
    obtain ⟨b1, b2, b3⟩ := badName_no (x := f) (by simpa using hg.2)
    split at h
    · next n ks hd =>
      obtain ⟨fa, fd, ps, m1, m2, m3, m4⟩ := c.defs _ _ _ (defIx_ok hd)
      rw [Option.map_eq_some_iff] at h
      obtain ⟨l, h2, rfl⟩ := h
      obtain ⟨g1, g2, g3⟩ := cK_ok (pos := pos) hr c hs h2 hL
      cases args with
      | nil => rw [g3 rfl]; exact px_call0 m4 c.rm gl m1 m2 m3 c.tk.pass b1
      | cons e es => exact px_call m4 c.rm gl m1 m2 m3 c.tk.pass hL g1 b1 (g2 e es rfl).1 (g2 e es rfl).2
    · split at h
      · next cn n ks hd =>
        obtain ⟨q1, fa, fd, ps, m1, m2, m3⟩ := c.clss _ _ _ _ hd
        rw [Option.map_eq_some_iff] at h
        obtain ⟨l, h2, rfl⟩ := h
        obtain ⟨g1, g2, g3⟩ := cK_ok (pos := pos) hr c hs h2 hL
        cases args with
        | nil => rw [g3 rfl]; exact px_new0 m1 m3 c.room gl q1 m2 c.tk.pass b1
        | cons e es => exact px_new m1 m3 c.room gl q1 m2 c.tk.pass hL g1 b1 (g2 e es rfl).1 (g2 e es rfl).2
      · split at h
        · next hb =>
          split at h
          · next hi =>
            split at h
            · split at h
              · next hy =>
                rw [Bool.and_eq_true, Bool.and_eq_true, Bool.and_eq_true] at hy
                rw [Option.bind_eq_some_iff] at h
                obtain ⟨t, h1, h⟩ := h
                rw [Option.map_eq_some_iff] at h
                obtain ⟨ia, h2, rfl⟩ := h
                obtain ⟨c1, c2, c3⟩ := badName_no (x := _) (by simpa using hy.1.2)
                exact px_isi hi gl (c.blts _ hb) (isGl_ok hs hy.1.1.1) (c.blts _ (of_decide_eq_true hy.1.1.2)) (tyC_ok h1) c3 c1 (hr _ _ _ _ _ L h2 c hs hL) (star_cons hy.2)
              · cases h
            · cases h
          · split at h
            · cases h
            · rw [Option.bind_eq_some_iff] at h
              obtain ⟨k', h1, h⟩ := h
              have hx := bltC_ok h1
              split at h
              · next q hq =>
                cases h
                exact px_bltB c.calm hx gl (c.blts _ hb) (placeOf_ok c hs hq) (star_cons (placeOf_star hq))
              · rw [Option.map_eq_some_iff] at h
                obtain ⟨l, h2, rfl⟩ := h
                have h2' := h2
                unfold cA at h2'
                rw [if_pos (cA_head h2), Option.bind_eq_some_iff] at h2'
                obtain ⟨_, _, h3⟩ := h2'
                rw [Option.map_eq_some_iff] at h3
                obtain ⟨_, h4, _⟩ := h3
                exact px_blt c.calm hx gl (c.blts _ hb) (cA_ok hr c hs h2 hL) (star_cons (cA_head h2)) (cA_star h4)
        · cases h
  · cases h
theorem meth_tree {o : Expr} {m : Str} {apos : Pos} {args : List Expr} {env : Env} (hb : attributeBase o m env (eval o env) = eval o env) (hl : (apos.endLine == pos.line) = true) (hn : args.length < 29) (hs : (backTo pos (starEach args env)).any (·.1) = false) :
    eval (.Call (.Attribute o m apos) args [] pos) env = (do
      let ov ← eval o env
      standAt apos.atName
      let (f, first) ← holding [ov] (getMethod ov m (do return (← importBound o env).getD true))
      callWith pos f first (backTo pos (starEach args env)) (backToKw pos (keywordEach [] env))) := by
  have form : methodCallForm (args.length + ([] : List Keyword).length) (backTo pos (starEach args env)) (backToKw pos (keywordEach [] env)) = true := by
    unfold methodCallForm
    have h1 : (backTo pos (starEach args env)).all (fun x => !x.1) = true := by
      rw [List.all_eq_true]
      intro x hx
      rw [List.any_eq_false] at hs
      have := hs x hx
      simpa using this
    have h2 : (backToKw pos (keywordEach [] env)).all (fun x => x.1.isSome) = true := rfl
    have h3 : (backToKw pos (keywordEach [] env)).isEmpty = true := rfl
    rw [h1, h2, h3]
    simp
    omega
  refine mcall_of hb fun ov => ?_
  unfold methodCall calleeOf methodCallPos
  rw [form, hl]
  rfl
theorem base_call {o : Expr} {m : Str} {env : Env} (hc : isCall o = true) (hs : notSuper o = true) : attributeBase o m env (eval o env) = eval o env := by
  unfold isCall at hc
  split at hc
  · next x p args kws q =>
    have hs : (x != ("super" : Str)) = true := hs
    cases args with
    | nil =>
      cases kws with
      | nil => exact abase_call hs
      | cons _ _ => rfl
    | cons _ _ => rfl
  · cases hc
theorem cMeth_ok {o : Expr} {m : Str} {apos : Pos} {args : List Expr} (hr : OkE cc cf k r) (c : CtxOk cc cf X W k) (hs : X.env.scope = sc) (h : cMeth cc r sc o m apos pos args = some ir) (hL : ∀ i ∈ lent ir, L i) : PX X W L (.Call (.Attribute o m apos) args [] pos) (ev cf ir) := by
  unfold cMeth at h
  split at h
  · next hg =>
    rw [Bool.and_eq_true, Bool.and_eq_true] at hg
    have hln := of_decide_eq_true hg.1.2
    split at h
    · next ms hm =>
      have hM := c.mths m ms hm
      have hC := c.cls (.inr fun z => by rw [z] at hm; cases hm)
      split at h
      · next i hi =>
        rw [Option.map_eq_some_iff] at h
        obtain ⟨l, h2, rfl⟩ := h
        have hLi : L i := hL i List.mem_cons_self
        have hLl : ∀ j ∈ lent l, L j := fun j hj => hL j (List.mem_cons_of_mem _ hj)
        have hp := nameSlot_ok c hs hi
        unfold nameSlot at hi
        split at hi
        · next x p =>
          have ht := meth_tree (pos := pos) (apos := apos) (m := m) (env := X.env) (o := .Name x p) rfl hg.1.1 hln (cA_star h2)
          cases args with
          | nil => cases h2; exact px_meth0 hC hM c.rm c.tk.pass hp hLi ht
          | cons e es =>
            have h2' := h2
            unfold cA at h2'
            rw [if_pos (cA_head h2), Option.bind_eq_some_iff] at h2'
            obtain ⟨_, _, h3⟩ := h2'
            rw [Option.map_eq_some_iff] at h3
            obtain ⟨_, h4, _⟩ := h3
            exact px_meth hC hM c.rm c.tk.pass hp hLi hLl (cA_ok hr c hs h2 hLl) (star_cons (cA_head h2)) (cA_star h4) ht
        · cases hi
      · split at h
        · next hcall =>
          rw [Option.bind_eq_some_iff] at h
          obtain ⟨io, h1, h⟩ := h
          rw [Option.map_eq_some_iff] at h
          obtain ⟨l, h2, rfl⟩ := h
          obtain ⟨l1, l2⟩ := lent_app (L := L) hL
          have hp := hr _ _ _ _ _ L h1 c hs l1
          have ht := meth_tree (pos := pos) (apos := apos) (m := m) (env := X.env) (o := o) (base_call hcall hg.2) hg.1.1 hln (cA_star h2)
          cases args with
          | nil => cases h2; exact px_methT0 hC hM c.rm c.tk.pass hp ht
          | cons e es =>
            have h2' := h2
            unfold cA at h2'
            rw [if_pos (cA_head h2), Option.bind_eq_some_iff] at h2'
            obtain ⟨_, _, h3⟩ := h2'
            rw [Option.map_eq_some_iff] at h3
            obtain ⟨_, h4, _⟩ := h3
            exact px_methT hC hM c.rm c.tk.pass hp l2 (cA_ok hr c hs h2 l2) (star_cons (cA_head h2)) (cA_star h4) ht
        · cases h
    · cases h
  · cases h
end
end VL
set_option maxHeartbeats 2000000
namespace VL
open PySem PySem.Spec PyProof.Rows L2
variable [Tabl]
section
variable {cc : Cc} {cf : CF} {k : Nat} {X : Cx} {W : WX} {L : Nat → Prop} {sc : Scope} {e a b : Expr} {i : Nat} {ir : IE} {rE rT r : CE} {pos : Pos}
theorem CtxOk.blk {W' : WX} {xe : Value → Shared → Prop} (c : CtxOk cc cf X W k) (s : Shared) (H : Hp) (scope : Scope) (cenv : Env) (fp : List Addr) (tk : Tk ((X.blk s H scope cenv fp).wish xe) W') (he : cenv.code = X.env.code := by rfl) (hq : cenv.qual = X.env.qual := by rfl) : CtxOk cc cf ((X.blk s H scope cenv fp).wish xe) W' k :=
  ⟨c.N, c.nd, c.calm, tk, c.room, c.defs, c.glbs, c.blts, c.clss, c.mths, c.flds, c.cls, fun h => ⟨(c.told h).ex, by rw [he, hq]; exact (c.told h).lam, (c.told h).room⟩⟩
theorem blk_scope {scope : Scope} {cl : List (Str × Addr)} {C : Addr} (hs : X.env.scope = sc) : (compEnvC scope cl C X.env).scope = relS scope sc := by
  subst hs; rfl
theorem tg_each {cl : Bool} (h : ∃ tg, cTg cl cc sc e = some tg) (env : Env) (es : List Expr) : assignEach (e :: es) env = (false, assign e env) :: assignEach es env := by
  obtain ⟨tg, h⟩ := h
  cases e <;> first | rfl | (simp [cTg] at h)
mutual
theorem cTg_ok {cl : Bool} (c : CtxOk cc cf X W k) (hs : X.env.scope = sc) (hf : cl = true → ∀ x, X.fn x = true) : ∀ {e : Expr} {tg : Tg}, cTg cl cc sc e = some tg → PG X e (tgR X.K tg)
  | .Name x p, tg, h => by
    unfold cTg at h
    split at h
    · next hl =>
      rw [Option.map_eq_some_iff] at h
      obtain ⟨i, h2, rfl⟩ := h
      subst hs
      exact pg_name (by rw [c.N]; exact c.nd) (by rw [c.N]; exact findIx_ok h2) (.inl hl) (.inr hl)
    · next hl =>
      rw [Option.map_eq_some_iff] at h
      obtain ⟨i, h2, rfl⟩ := h
      subst hs
      exact pg_name (by rw [c.N]; exact c.nd) (by rw [c.N]; exact findIx_ok h2) (.inr hl) (.inl (hf rfl _))
    · cases h
  | .Tuple es kk p, tg, h => by
    unfold cTg at h
    rw [Option.map_eq_some_iff] at h
    obtain ⟨ts, h2, rfl⟩ := h
    obtain ⟨g1, g2, g3⟩ := cTgs_ok c hs hf h2
    exact pg_tup c.calm g1 g2 g3
  | .BoolOp .., _, h => by simp [cTg] at h
  | .NamedExpr .., _, h => by simp [cTg] at h
  | .BinOp .., _, h => by simp [cTg] at h
  | .UnaryOp .., _, h => by simp [cTg] at h
  | .Lambda .., _, h => by simp [cTg] at h
  | .IfExp .., _, h => by simp [cTg] at h
  | .Dict .., _, h => by simp [cTg] at h
  | .Set .., _, h => by simp [cTg] at h
  | .ListComp .., _, h => by simp [cTg] at h
  | .SetComp .., _, h => by simp [cTg] at h
  | .DictComp .., _, h => by simp [cTg] at h
  | .GeneratorExp .., _, h => by simp [cTg] at h
  | .Await .., _, h => by simp [cTg] at h
  | .Yield .., _, h => by simp [cTg] at h
  | .YieldFrom .., _, h => by simp [cTg] at h
  | .Compare .., _, h => by simp [cTg] at h
  | .Call .., _, h => by simp [cTg] at h
  | .FormattedValue .., _, h => by simp [cTg] at h
  | .JoinedStr .., _, h => by simp [cTg] at h
  | .Constant .., _, h => by simp [cTg] at h
  | .Attribute .., _, h => by simp [cTg] at h
  | .Subscript .., _, h => by simp [cTg] at h
  | .Starred .., _, h => by simp [cTg] at h
  | .List .., _, h => by simp [cTg] at h
  | .Slice .., _, h => by simp [cTg] at h
theorem cTgs_ok {cl : Bool} (c : CtxOk cc cf X W k) (hs : X.env.scope = sc) (hf : cl = true → ∀ x, X.fn x = true) : ∀ {es : List Expr} {ts : Tgs}, cTgs cl cc sc es = some ts → PGs X es (tgsR X.K ts) ∧ (assignEach es X.env).length = ts.len ∧ (assignEach es X.env).findIdx? (·.1) = none
  | [], ts, h => by unfold cTgs at h; cases h; exact ⟨pgs_nil, rfl, rfl⟩
  | e :: es, ts, h => by
    unfold cTgs at h
    rw [Option.bind_eq_some_iff] at h
    obtain ⟨t, h1, h⟩ := h
    rw [Option.map_eq_some_iff] at h
    obtain ⟨ts', h2, rfl⟩ := h
    obtain ⟨g1, g2, g3⟩ := cTgs_ok c hs hf h2
    have he := tg_each ⟨t, h1⟩ X.env es
    refine ⟨pgs_cons (cTg_ok c hs hf h1) g1 (by rw [he]; rfl), ?_, ?_⟩
    · rw [he, List.length_cons, g2]; rfl
    · rw [he, List.findIdx?_cons, g3]; rfl
end
theorem rangeArgs_ok {args : List Expr} (h : rangeArgs cc sc e = some args) : ∃ p q, e = .Call (.Name "range" p) args [] q ∧ isGl sc "range" = true ∧ ("range" : Str) ∈ cc.blts := by
  unfold rangeArgs at h
  split at h
  · split at h
    · next hc =>
      cases h
      obtain ⟨h1, h2, h3⟩ := hc
      subst h1
      exact ⟨_, _, rfl, h2, h3⟩
    · cases h
  · cases h
theorem enumArg_ok {e a : Expr} (h : enumArg cc sc e = some a) : ∃ p q, e = .Call (.Name "enumerate" p) [a] [] q ∧ isGl sc "enumerate" = true ∧ ("enumerate" : Str) ∈ cc.blts := by
  unfold enumArg at h
  split at h
  · split at h
    · next hc =>
      cases h
      obtain ⟨h1, h2, h3⟩ := hc
      subst h1
      exact ⟨_, _, rfl, h2, h3⟩
    · cases h
  · cases h
theorem cIt_ok {tg : Expr} {kd : Itk} {il : IE} (hr : OkE cc cf k r) (c : CtxOk cc cf X W k) (hs : X.env.scope = sc) (h : cIt cc r sc tg e = some (kd, il)) (hL : ∀ i ∈ lent il, L i) : PXI X W L tg e (itM kd (ev cf il)) ∧ (∀ x, foldedSetIterable e X.env x = pure x) := by
  unfold cIt at h
  split at h
  · next a h1 =>
    obtain ⟨p, q, rfl, h2, h3⟩ := rangeArgs_ok h1
    rw [Option.map_eq_some_iff] at h
    obtain ⟨l, h4, h5⟩ := h
    cases h5
    exact ⟨pxi_range1 rfl (isGl_ok hs h2) (c.blts _ h3) (cA_ok hr c hs h4 hL) (star_cons (cA_head h4)), fun _ => rfl⟩
  · next a b h1 =>
    obtain ⟨p, q, rfl, h2, h3⟩ := rangeArgs_ok h1
    rw [Option.map_eq_some_iff] at h
    obtain ⟨l, h4, h5⟩ := h
    cases h5
    have h4' := h4
    unfold cA at h4'
    rw [if_pos (cA_head h4), Option.bind_eq_some_iff] at h4'
    obtain ⟨_, _, h6⟩ := h4'
    rw [Option.map_eq_some_iff] at h6
    obtain ⟨_, h7, _⟩ := h6
    refine ⟨pxi_range2 rfl (isGl_ok hs h2) (c.blts _ h3) (cA_ok hr c hs h4 hL) ?_ (star_cons (cA_head h7)), fun _ => rfl⟩
    rw [star_cons (cA_head h4), star_cons (cA_head h7)]; rfl
  · cases h
  · split at h
    · next a h1 =>
      obtain ⟨p, q, rfl, h2, h3⟩ := enumArg_ok h1
      split at h
      · next ht =>
        rw [Option.map_eq_some_iff] at h
        obtain ⟨l, h4, h5⟩ := h
        cases h5
        unfold isTup at ht
        split at ht
        · exact ⟨pxi_enum rfl (isGl_ok hs h2) (c.blts _ h3) (cA_ok hr c hs h4 hL) (star_cons (cA_head h4)), fun _ => rfl⟩
        · cases ht
      · cases h
    split at h
    · next hn =>
      rw [Option.map_eq_some_iff] at h
      obtain ⟨l, h4, h5⟩ := h
      cases h5
      refine ⟨pxi_seq (hr _ _ _ _ _ L h4 c hs (lent_app (L := L) hL).1), fun x => ?_⟩
      cases e <;> first | rfl | (simp [noSet] at hn)
    · cases h
theorem cTests_ok {ifs : List Expr} (hr : OkT cc cf k r) (c : CtxOk cc cf X W k) (hs : X.env.scope = sc) (h : cTests r sc ifs = some ir) (hL : ∀ i ∈ lent ir, L i) : PTs X ifs (tBo X.K X.mg W L (evB cf ir)) := by
  unfold cTests at h
  split at h
  · cases h
    exact ⟨fun pins s σ H Q I hw => pts_nil.run pins s σ H Q I (by
      obtain ⟨fx, Fz, s, φ, rl, p⟩ := hw
      exact p H Fz φ Go.refl rl)⟩
  · exact pts_one (hr _ _ _ _ _ L h c hs hL)
  · cases h
structure LcOk (cc : Cc) (cf : CF) (k : Nat) (X : Cx) (W : WX) (L : Nat → Prop) (elt tgE iter : Expr) (ifs : List Expr) (scope : Scope) (ir : IE) : Prop where
  ex : ∃ (own : List (Str × Nat)) (fz : List Nat) (tg : Tg) (kd : Itk) (il ic ie : IE), ir = .lc fz (own.map (·.2)) tg kd il ic ie ∧ BlkOk X.N X.env.scope scope own ∧ (∀ i ∈ tg.slots, i ∈ own.map (·.2)) ∧ PXI X W L tgE iter (itM kd (ev cf il)) ∧ (∀ x, foldedSetIterable iter X.env x = pure x) ∧
    (InBlk X scope fun Y _ => PG Y tgE (tgR X.K tg)) ∧ (InBlk X scope fun Y W' => PTs Y ifs (tBo X.K X.mg W' L (evB cf ic))) ∧ (InBlk X scope fun Y W' => PE Y elt (tD X.K X.mg W' L (one1 (ev cf ie))))
theorem cLc_ok {elt tgE iter : Expr} {ifs : List Expr} {scope : Scope} (hE : OkE cc cf k rE) (hT : OkT cc cf k rT) (c : CtxOk cc cf X W k) (hs : X.env.scope = sc) (h : cLc cc rE rT sc elt tgE iter ifs scope = some ir) (hL : ∀ i ∈ lent ir, L i) : LcOk cc cf k X W L elt tgE iter ifs scope ir := by
  unfold cLc at h
  dsimp only at h
  split at h
  · next hb =>
    rw [Option.bind_eq_some_iff] at h
    obtain ⟨⟨kd, il⟩, h1, h⟩ := h
    rw [Option.bind_eq_some_iff] at h
    obtain ⟨tg, h2, h⟩ := h
    split at h
    · next hc =>
      rw [Bool.and_eq_true] at hc
      rw [Option.bind_eq_some_iff] at h
      obtain ⟨ic, h3, h⟩ := h
      rw [Option.map_eq_some_iff] at h
      obtain ⟨ie, h4, rfl⟩ := h
      obtain ⟨l12, l3⟩ := lent_app (L := L) hL
      obtain ⟨l1, l2⟩ := lent_app (L := L) l12
      obtain ⟨g1, g2⟩ := cIt_ok (tg := tgE) hE c hs h1 l1
      refine ⟨ownOf cc scope, _, tg, kd, il, ic, ie, rfl, ?_, fun i hi => ?_, g1, g2, fun s H C cl fp xe W' tk => ?_, fun s H C cl fp xe W' tk => ?_, fun s H C cl fp xe W' tk => ?_⟩
      · rw [c.N, hs]; exact blkOk_by hb
      · have := List.all_eq_true.mp hc.1 i hi
        simpa using this
      · exact cTg_ok (cl := false) (c.blk s H scope _ fp tk) (blk_scope hs) (fun z => Bool.noConfusion z) h2
      · exact cTests_ok hT (c.blk s H scope _ fp tk) (blk_scope hs) h3 l2
      · exact PX.d (hE _ _ _ _ _ L h4 (c.blk s H scope _ fp tk) (blk_scope hs) l3)
    · cases h
  · cases h
theorem LcOk.px {elt tgE iter : Expr} {ifs : List Expr} {scope : Scope} (c : CtxOk cc cf X W k) (h : LcOk cc cf k X W L elt tgE iter ifs scope ir) : PX X W L (.ListComp elt [⟨tgE, iter, ifs, 0⟩] scope pos) (ev cf ir) := by
  obtain ⟨own, fz, tg, kd, il, ic, ie, rfl, h1, h2, h3, h4, h5, h6, h7⟩ := h.ex
  exact px_lc c.calm (by rw [c.N]; exact c.nd) c.tk h3 h1 h2 h5 h6 h7 h4
theorem plainIx_ok (h : noSlice b = true) : PlainIx b := fun o i => by
  cases b <;> first | rfl | (simp [noSlice] at h)
theorem cPart_ok {o : Option Expr} {bl : Bool} {il : IE} (hr : OkE cc cf k r) (c : CtxOk cc cf X W k) (hs : X.env.scope = sc) (h : cPart r sc o = some (bl, il)) (hL : ∀ i ∈ lent il, L i) : PXO X W L o (partB bl (ev cf il)) := by
  unfold cPart at h
  split at h
  · cases h; exact pxo_none
  · rw [Option.map_eq_some_iff] at h
    obtain ⟨x, h1, h2⟩ := h
    cases h2
    exact pxo_some (hr _ _ _ _ _ L h1 c hs hL)
theorem CtxOk.lam (c : CtxOk cc cf X W k) (A : Around) (outer : List Env) (s : Shared) (H : Hp) (E : XK) (scope : Scope) (f c' : Addr) (hr : Room (k + 1) (A.deeper (LamX.lamEnv X scope s.heap.objs.size f c'))) : CtxOk cc.inL cf (HotL.lamN X A outer s H E scope f c') (fun cls d _ H => E cls d H) k :=
  ⟨c.N, c.nd, rfl, Tk.of HotL.lamN_takes rfl rfl, hr, c.defs, c.glbs, c.blts, c.clss, c.mths, c.flds, c.cls, fun z => nomatch z⟩
theorem lamOf_ok {args : List Expr} {body : Expr} {scope : Scope} (h : lamOf args = some (body, scope)) : ∃ lp, args = [.Lambda ⟨[], [], none, [], [], none, []⟩ body scope lp] := by
  unfold lamOf at h
  split at h
  · cases h; exact ⟨_, rfl⟩
  · cases h
theorem cTold_ok {rB : CE} {f : Str} {body : Expr} {scope : Scope} {p lp : Pos} (hB : OkE cc.inL cf k rB) (c : CtxOk cc cf X W k) (hs : X.env.scope = sc) (h : cTold cc rB sc f body scope = some ir) (hL : ∀ i ∈ lent ir, L i) :
    PX X W L (.Call (.Name f p) [.Lambda ⟨[], [], none, [], [], none, []⟩ body scope lp] [] pos) (ev cf ir) := by
  unfold cTold at h
  split at h
  · next hc =>
    obtain ⟨rfl, h1, h2, h3⟩ := hc
    rw [Option.map_eq_some_iff] at h
    obtain ⟨ia, h4, rfl⟩ := h
    exact px_told (c.told h1) (isGl_ok hs h2) (by rw [hs]; exact LamX.lamS_by h3) fun A outer s H E f c' hr => hB _ _ _ _ _ L h4 (c.lam A outer s H E scope f c' hr) rfl hL
  · cases h
theorem stepE_ok {rB : CE} (hE : OkE cc cf k rE) (hT : OkT cc cf k rT) (hB : OkE cc.inL cf k rB) : OkE cc cf k (cEstep cc rE rT rB) := by
  intro sc e ir X W L h c hs hL
  unfold cEstep at h
  split at h
  · -- a name
    split at h
    · next i hi => cases h; exact px_var (nameSlot_ok c hs hi)
    · split at h
      · next hg =>
        rw [Bool.and_eq_true] at hg
        rw [Option.map_eq_some_iff] at h
        obtain ⟨d, h1, rfl⟩ := h
        obtain ⟨v, u, m1, m2, m3⟩ := c.glbs _ _ h1
        obtain ⟨b1, b2, b3⟩ := badName_no (x := _) (by simpa using hg.2)
        exact px_glb (pe_glob (isGl_ok hs hg.1) m1 m2 b1) m3
      · cases h
  · cases h; exact px_cst_int
  · cases h; exact px_cst_bool
  · cases h; exact px_cst_str
  · cases h; exact px_cst_none
  · rw [Option.map_eq_some_iff] at h
    obtain ⟨l, h1, rfl⟩ := h
    exact px_tup (cA_ok hE c hs h1 hL)
  · rw [Option.map_eq_some_iff] at h
    obtain ⟨l, h1, rfl⟩ := h
    exact px_lst (cA_ok hE c hs h1 hL)
  · rw [Option.bind_eq_some_iff] at h
    obtain ⟨o, h1, h⟩ := h
    have ho := bopC_ok h1
    subst ho
    split at h
    · next q hq =>
      rw [Option.bind_eq_some_iff] at h
      obtain ⟨ib, h2, h⟩ := h
      obtain ⟨g1, g2⟩ := guardB_some h
      cases g2
      exact px_opB Lp_sub Lp_not (placeOf_ok c hs hq) (hE _ _ _ _ _ (Lp L q) h2 c hs (okP_ok g1 hL))
    · rw [Option.bind_eq_some_iff] at h
      obtain ⟨ia, h2, h⟩ := h
      rw [Option.map_eq_some_iff] at h
      obtain ⟨ib, h3, rfl⟩ := h
      exact px_op (hE _ _ _ _ _ L h2 c hs (lent_app (L := L) hL).1) (hE _ _ _ _ _ L h3 c hs (lent_app (L := L) hL).2)
  · rw [Option.map_eq_some_iff] at h
    obtain ⟨l, h1, rfl⟩ := h
    exact px_neg (hE _ _ _ _ _ L h1 c hs hL)
  · rw [Option.map_eq_some_iff] at h
    obtain ⟨l, h1, rfl⟩ := h
    exact px_not (hE _ _ _ _ _ L h1 c hs hL)
  · exact cAnd_ok hE c hs h hL
  · exact cOr_ok hE c hs h hL
  · exact (cCmp_ok hE c hs h hL).1
  · rw [Option.bind_eq_some_iff] at h
    obtain ⟨it, h1, h⟩ := h
    rw [Option.bind_eq_some_iff] at h
    obtain ⟨ia, h2, h⟩ := h
    rw [Option.map_eq_some_iff] at h
    obtain ⟨ib, h3, rfl⟩ := h
    obtain ⟨l12, l3⟩ := lent_app (L := L) hL
    obtain ⟨l1, l2⟩ := lent_app (L := L) l12
    exact px_ife (hT _ _ _ _ _ L h1 c hs l1) (hE _ _ _ _ _ L h2 c hs l2) (hE _ _ _ _ _ L h3 c hs l3)
  · split at h
    · next hl =>
      obtain ⟨lp, rfl⟩ := lamOf_ok hl
      exact cTold_ok hB c hs h hL
    · exact cCall_ok hE c hs h hL
  · exact cMeth_ok hE c hs h hL
  · rw [Option.map_eq_some_iff] at h
    obtain ⟨q, h1, rfl⟩ := h
    exact px_fld (placeOf_ok c hs h1)
  · rw [Option.bind_eq_some_iff] at h
    obtain ⟨⟨bl, il⟩, h1, h⟩ := h
    rw [Option.bind_eq_some_iff] at h
    obtain ⟨⟨bh, ih⟩, h2, h⟩ := h
    dsimp only at h
    split at h
    · next q hq =>
      obtain ⟨g1, g2⟩ := guardB_some h
      rw [Bool.and_eq_true] at g1
      cases g2
      obtain ⟨l1, l2⟩ := lent_app (L := L) hL
      exact px_slcB Lp_sub Lp_not (placeOf_ok c hs hq) (cPart_ok hE c hs h1 (okP_ok g1.1 l1)) (cPart_ok hE c hs h2 (okP_ok g1.2 l2))
    · rw [Option.map_eq_some_iff] at h
      obtain ⟨ia, h3, rfl⟩ := h
      obtain ⟨l12, l3⟩ := lent_app (L := L) hL
      obtain ⟨l1, l2⟩ := lent_app (L := L) l12
      exact px_slc (hE _ _ _ _ _ L h3 c hs l1) (cPart_ok hE c hs h1 l2) (cPart_ok hE c hs h2 l3)
  · split at h
    · next hn =>
      rw [Option.bind_eq_some_iff] at h
      obtain ⟨ib, h1, h⟩ := h
      split at h
      · next q hq =>
        obtain ⟨g1, g2⟩ := guardB_some h
        cases g2
        exact px_ixB Lp_sub Lp_not (placeOf_ok c hs hq) (hE _ _ _ _ _ (Lp L q) h1 c hs (okP_ok g1 hL)) (plainIx_ok hn)
      · rw [Option.map_eq_some_iff] at h
        obtain ⟨ia, h3, rfl⟩ := h
        exact px_ix (hE _ _ _ _ _ L h3 c hs (lent_app (L := L) hL).1) (hE _ _ _ _ _ L h1 c hs (lent_app (L := L) hL).2) (plainIx_ok hn)
    · cases h
  · exact (cLc_ok hE hT c hs h hL).px c
  · cases h
theorem plainT_ok {env : Env} (h : plainT e = true) : ∀ whole, isTrue e env whole = (do let v ← whole; standAt e.pos; holding [v] (truthy v)) := fun whole => by
  cases e <;> first | rfl | (simp [plainT] at h)
theorem stepT_ok (hE : OkE cc cf k rE) (hT : OkT cc cf k rT) : OkT cc cf k (cTstep cc rE rT) := by
  intro sc e ir X W L h c hs hL
  unfold cTstep at h
  split at h
  · rw [Option.map_eq_some_iff] at h
    obtain ⟨l, h1, rfl⟩ := h
    exact pxt_not (hT _ _ _ _ _ L h1 c hs hL)
  · exact (cAndT_ok hT c hs h hL).pt
  · exact (cOrT_ok hT c hs h hL).pt
  · exact (cCmp_ok hE c hs h hL).2
  · split at h
    · next hn => exact pxt_val (hE _ _ _ _ _ L h c hs hL) (plainT_ok hn)
    · cases h
theorem comp_ok : ∀ n (cc : Cc), OkE cc cf k (comp n cc).1 ∧ OkT cc cf k (comp n cc).2
  | 0, _ => ⟨fun _ _ _ _ _ _ h => (nomatch h), fun _ _ _ _ _ _ h => (nomatch h)⟩
  | n + 1, cc => ⟨stepE_ok (comp_ok n cc).1 (comp_ok n cc).2 (comp_ok n cc.inL).1, stepT_ok (comp_ok n cc).1 (comp_ok n cc).2⟩
end
end VL
set_option maxHeartbeats 2000000
namespace VL
open PySem PySem.Spec PyProof.Rows L2
variable [Tabl]
def noTup : Expr → Bool
  | .Tuple _ _ _ => false
  | _ => true
def locSlot (cc : Cc) (sc : Scope) (x : Str) : Option Nat := match sc.names.lookup x with
  | some .local => findIx x cc.N
  | some .cell => findIx x cc.N
  | _ => none
def isLoc (sc : Scope) (x : Str) : Bool := match sc.names.lookup x with
  | some .local => true
  | _ => false
def isFn : ScopeKind → Bool
  | .function => true
  | _ => false
def cSs (r : Stmt → Option IS) : List Stmt → Option IS
  | [] => some .skip
  | s :: ss => (r s).bind fun a => (cSs r ss).map fun b => .seq a b
def cPar (cc : Cc) (rE : CE) (sc : Scope) (es vs : List Expr) (k : Nat) (p : Pos) : Option IS := match swP sc es vs with
  | none => none
  | some none => (cTgs true cc sc es).bind fun ts => (rE sc (.Tuple vs k p)).map fun a => .asgT (.tp ts) a
  | some (some ns) => match es, vs with
    | [.Name x _, .Name y _], [a, b] => (findIx x cc.N).bind fun i => (findIx y cc.N).bind fun j => if ns = [x, y] ∧ isLoc sc x = true ∧ isLoc sc y = true ∧ i ≠ j then (cA rE sc [a, b]).map fun l => .par [i, j] l else none
    | [.Name x _, .Name y _, .Name z _], [a, b, c] => (findIx x cc.N).bind fun i => (findIx y cc.N).bind fun j => (findIx z cc.N).bind fun l => if ns = [x, y, z] ∧ isLoc sc x = true ∧ isLoc sc y = true ∧ isLoc sc z = true ∧ i ≠ j ∧ i ≠ l ∧ j ≠ l then (cA rE sc [a, b, c]).map fun q => .par [i, j, l] q else none
    | _, _ => none
def cSstep (cc : Cc) (rE rT : CE) (sc : Scope) (r : Stmt → Option IS) : Stmt → Option IS
  | .Return (some e) _ => (rE sc e).map .ret
  | .Return none _ => some (.ret (.cst .none))
  | .Assign [.Name x py] e _ => (locSlot cc sc x).bind fun i => if noComp e then (rE sc e).map fun a => .asg i a else (match e with
    | .ListComp elt [⟨tgE, iter, ifs, 0⟩] scope pos => if isFn sc.kind && isLoc sc x && (py.line == pos.line) && !(scope.names.any fun (n, k) => n == x && (k == .local || k == .cell)) then (cLc cc rE rT sc elt tgE iter ifs scope).map fun a => .asg i a else none
    | _ => none)
  | .Assign [.Tuple es _ _] (.Tuple vs k p) _ => cPar cc rE sc es vs k p
  | .Assign [.Tuple es k p] e _ => (cTgs true cc sc es).bind fun ts => if noTup e && noComp e then (rE sc e).map fun a => .asgT (.tp ts) a else none
  | .Assign [.Subscript o k _] e _ => if noSlice k && noComp e then (placeOf cc sc o).bind fun q => (rE sc k).bind fun ik => if okP q ik then (rE sc e).map fun ie => .setI q ik ie else none else none
  | .Assign [.Attribute o f _] e _ => if noComp e && decide (f ∈ cc.flds) then (nameSlot cc sc o).bind fun i => (rE sc e).map fun ie => .setF i f ie else none
  | .AugAssign (.Attribute o f _) .Add e _ => if f ∈ cc.flds then (nameSlot cc sc o).bind fun i => (rE sc e).bind fun ie => if (lent ie).contains i then none else some (.augF .add i f ie) else none
  | .AugAssign (.Name x _) .Add e _ => (locSlot cc sc x).bind fun i => (rE sc e).map fun a => .aug .add i a
  | .AugAssign (.Name x _) .Sub e _ => (locSlot cc sc x).bind fun i => (rE sc e).map fun a => .aug .sub i a
  | .Expr (.Call (.Attribute (.Name x px) m ap) [e] [] cp) _ => if m = "append" ∧ noStar e ∧ (ap.endLine == cp.line) = true then (nameSlot cc sc (.Name x px)).bind fun i => (rE sc e).map fun a => .app ⟨i, none⟩ a else (rE sc (.Call (.Attribute (.Name x px) m ap) [e] [] cp)).map .expr
  | .Expr e _ => if noComp e then (rE sc e).map .expr else none
  | .If t a b _ => (rT sc t).bind fun it => (cSs r a).bind fun sa => (cSs r b).map fun sb => .ife it sa sb
  | .For tg it body [] _ => (cIt cc rE sc tg it).bind fun (k, il) => (cTg true cc sc tg).bind fun t => (cSs r body).map fun b => .forS t k il b
  | .While t body [] _ => (rT sc t).bind fun it => (cSs r body).map fun b => .whl it b
  | .Raise (some (.Call (.Name c _) [.Constant (.str _) _ _] [] _)) none _ => if isGl sc c && !badName c && decide (c ∈ cc.excs) then some (.raise c) else none
  | .Pass _ => some .skip
  | .Break _ => some .brk
  | .Continue _ => some .cont
  | _ => none
def compS (cc : Cc) (n : Nat) (sc : Scope) : Nat → Stmt → Option IS
  | 0 => fun _ => none
  | m + 1 => cSstep cc (comp n cc).1 (comp n cc).2 sc (compS cc n sc m)
def compBody (cc : Cc) (sc : Scope) (b : List Stmt) : Option IS := cSs (compS cc 40 sc 40) b
structure StOk (cc : Cc) (cf : CF) (X : Cx) (W : WX) (k : Nat) : Prop where
  c : CtxOk cc cf X W k
  hp : PassesOwn (model X.prog X.w) X.A X.env X.xe
  fn : ∀ x, X.fn x = true
  tk : L2N.Takes X W
  excs : ∀ x, x ∈ cc.excs → ∃ C, X.mg x = some C ∧ ∀ (m : Str) (j : Nat) (p p2 pos : Pos), Gl X x → (x == ("__debug__" : Str)) = false → L2N.PMk X (.Call (.Name x p) [.Constant (.str m) j p2] [] pos) (fun _ H Q => Q C none H)
def OkS (cc : Cc) (cf : CF) (k : Nat) (sc : Scope) (r : Stmt → Option IS) : Prop := ∀ st is X W, r st = some is → StOk cc cf X W k → X.env.scope = sc → QS X W st (evS cf is)
section
variable {cc : Cc} {cf : CF} {k : Nat} {X : Cx} {W : WX} {sc : Scope} {e a b : Expr} {i : Nat} {ir : IE} {rE rT : CE} {r : Stmt → Option IS} {pos p py : Pos} {x : Str}
theorem cSs_ok (hr : OkS cc cf k sc r) (c : StOk cc cf X W k) (hs : X.env.scope = sc) : ∀ {ss : List Stmt} {is : IS}, cSs r ss = some is → QSs X W ss (evS cf is)
  | [], is, h => by cases h; exact qss_nil
  | st :: ss, is, h => by
    unfold cSs at h
    rw [Option.bind_eq_some_iff] at h
    obtain ⟨a, h1, h⟩ := h
    rw [Option.map_eq_some_iff] at h
    obtain ⟨b, h2, rfl⟩ := h
    exact qss_cons (hr _ _ _ _ h1 c hs) (cSs_ok hr c hs h2)
theorem locSlot_ok (h : locSlot cc sc x = some i) : cc.N[i]? = some x ∧ Loc sc x := by
  unfold locSlot at h
  split at h
  · next e => exact ⟨findIx_ok h, .inl e⟩
  · next e => exact ⟨findIx_ok h, .inr e⟩
  · cases h
theorem noComp_sw {t : Option Expr} {l : Nat} {env : Env} (h : noComp e = true) : swapsWith e t l env = pure false := by
  cases e <;> first | rfl | (simp [noComp] at h)
theorem sub_assign {o kk : Expr} {pp : Pos} {env : Env} (hk : noSlice kk = true) : ∀ v, assign (.Subscript o kk pp) env v = (do
          let ov ← holding [v] (eval o env)
          let iv ← holding [v, ov] (eval kk env)
          standAt pp
          holding [v, ov, iv] (setItem ov iv v)
          release [v, ov, iv] []) := fun v => by cases kk <;> first | rfl | (simp [noSlice] at hk)
theorem noComp_sole {t : Expr} {l : Nat} {env : Env} (h : noComp e = true) : swapsWithSole [t] e l env = pure false := noComp_sw (t := some t) h
theorem noTup_sw {es : List Expr} {k : Nat} {env : Env} (h : noTup e = true) : swappedStores [.Tuple es k p] e env = pure none := by
  cases e <;> first | rfl | (simp [noTup] at h)
theorem qs_aug {o : Bop} {op : Operator} {fI : Int → Int → Int} {ia : IE} (ho : PIp X op (ipI fI)) (hev : ∀ (x y : D) (z : Int), augI o x y = some z → ∃ i j, x = .int i ∧ y = .int j ∧ z = fI i j)
    (hN : X.N.Nodup) (hi : X.N[i]? = some x) (hx : Loc X.env.scope x) (he : PX X W LT e (ev cf ia)) (hf : X.fn x = true ∨ X.env.scope.names.lookup x = some .local) : QS X W (.AugAssign (.Name x py) op e pos) (evS cf (.aug o i ia)) :=
  PS.imp (ps_aug hN hi hx (PX.d he) ho hf) fun Dn σ H ⟨fx, Fz, s, φ, rl, p0⟩ => by
    have p : PostS X.K X.mg W fx Fz (bindM (peek ⟨i, none⟩) (fun x => bindM (one1 (ev cf ia)) fun y => bindM (optM (augI o x y)) fun z s => stM (setSlot s i (.d (.int z)))) s) Dn := p0
    clear p0
    rw [show bindM (peek ⟨i, none⟩) (fun x => bindM (one1 (ev cf ia)) fun y => bindM (optM (augI o x y)) fun z s => stM (setSlot s i (.d (.int z)))) s = (peek ⟨i, none⟩ s).bind (fun x => bindM (one1 (ev cf ia)) fun y => bindM (optM (augI o x y)) fun z s => stM (setSlot s i (.d (.int z)))) from rfl] at p
    cases e1 : peek ⟨i, none⟩ s with
    | exc c s1 => unfold peek at e1; split at e1 <;> cases e1
    | stuck => rw [e1] at p; exact p.elim
    | ok d s1 =>
      rw [e1] at p
      obtain ⟨e2, v, h1, h2⟩ := rl.peekQ e1
      subst e2
      have p2 : PostS X.K X.mg W fx Fz (bindM (one1 (ev cf ia)) (fun y => bindM (optM (augI o d y)) fun z s => stM (setSlot s i (.d (.int z)))) s1) Dn := p
      refine ⟨v, h1, fx, Fz, s1, φ, rl, PostD.imp (PostS.bindD (σ := σ) p2) fun y H1 ⟨F1, s2, φ1, d2, g, rl1, rp, p1⟩ => ?_⟩
      obtain ⟨z, hz, p1⟩ := PostS.bindO p1
      obtain ⟨n, m, rfl, rfl, rfl⟩ := hev _ _ _ hz
      obtain ⟨s3, hs3, p3⟩ := PostS.st p1
      cases rp
      cases h2.int
      exact ⟨n, m, rfl, rfl, p3 _ H1 F1 _ (Same.refl _) (rl1.put (x := .d (.int (fI n m))) (v := .int (fI n m)) (fp := []) ⟨rfl, .int _⟩ rfl hs3)⟩
theorem augI_add {x y : D} {z : Int} (h : augI .add x y = some z) : ∃ i j, x = .int i ∧ y = .int j ∧ z = i + j := by
  unfold augI at h
  split at h
  all_goals first | contradiction | (cases h; exact ⟨_, _, rfl, rfl, rfl⟩)
theorem augI_sub {x y : D} {z : Int} (h : augI .sub x y = some z) : ∃ i j, x = .int i ∧ y = .int j ∧ z = i - j := by
  unfold augI at h
  split at h
  all_goals first | contradiction | (cases h; exact ⟨_, _, rfl, rfl, rfl⟩)
theorem qs_retN : QS X W (.Return none pos) (evS cf (.ret (.cst .none))) := PS.imp ps_retN fun Dn σ H ⟨fx, Fz, s, φ, rl, p⟩ => p .non σ H Fz φ (Same.refl _) rl .non
theorem LcOk.asg {elt tgE iter : Expr} {ifs : List Expr} {scope : Scope} {pos spos : Pos} (c : CtxOk cc cf X W k) (h : LcOk cc cf k X W LT elt tgE iter ifs scope ir) (hi : cc.N[i]? = some x) (hk : X.env.scope.kind = .function) (hl : X.env.scope.names.lookup x = some .local)
    (hp : (py.line == pos.line) = true) (ha : (scope.names.any fun (n, k) => n == x && (k == .local || k == .cell)) = false) : QS X W (.Assign [.Name x py] (.ListComp elt [⟨tgE, iter, ifs, 0⟩] scope pos) spos) (evS cf (.asg i ir)) := by
  obtain ⟨own, fz, tg, kd, il, ic, ie, rfl, h1, h2, h3, h4, h5, h6, h7⟩ := h.ex
  exact PS.imp (ps_lcE c.calm (by rw [c.N]; exact c.nd) c.tk (by rw [c.N]; exact hi) hl (sw_true hk hl hp ha) h3 h1 h5 h6 h7 h4) (red_asg fun σ H Q h => red_lc h2 h)
theorem isLoc_ok (h : isLoc sc x = true) : sc.names.lookup x = some .local := by
  unfold isLoc at h
  split at h
  · assumption
  · cases h
theorem cPar_ok {es vs : List Expr} {k0 k1 : Nat} {p0 p1 : Pos} {is : IS} (hE : OkE cc cf k rE) (c : StOk cc cf X W k) (hs : X.env.scope = sc) (h : cPar cc rE sc es vs k1 p1 = some is) : QS X W (.Assign [.Tuple es k0 p0] (.Tuple vs k1 p1) pos) (evS cf is) := by
  unfold cPar at h
  split at h
  · cases h
  · next hw =>
    rw [Option.bind_eq_some_iff] at h
    obtain ⟨ts, h1, h⟩ := h
    rw [Option.map_eq_some_iff] at h
    obtain ⟨l, h2, rfl⟩ := h
    obtain ⟨g1, g2, g3⟩ := cTgs_ok c.c hs (fun _ => c.fn) h1
    exact qs_asgT (hE _ _ _ _ _ LT h2 c.c hs (fun _ _ => True.intro)) (pg_tup c.c.calm g1 g2 g3) (noComp_sole rfl) (sw_ok hs hw) rfl
  · next ns hw =>
    split at h
    · next x _ y _ a b =>
      rw [Option.bind_eq_some_iff] at h
      obtain ⟨i, h1, h⟩ := h
      rw [Option.bind_eq_some_iff] at h
      obtain ⟨j, h2, h⟩ := h
      split at h
      · next hc =>
        obtain ⟨rfl, hx, hy, hij⟩ := hc
        rw [Option.map_eq_some_iff] at h
        obtain ⟨l, h3, rfl⟩ := h
        exact qs_par2 c.c.calm (by rw [c.c.N]; exact c.c.nd) (by rw [c.c.N]; exact findIx_ok h1) (by rw [c.c.N]; exact findIx_ok h2) hij (by rw [hs]; exact isLoc_ok hx) (by rw [hs]; exact isLoc_ok hy) (cA_ok hE c.c hs h3 (fun _ _ => True.intro)) (sw_ok hs hw)
      · cases h
    · next x _ y _ z _ a b d =>
      rw [Option.bind_eq_some_iff] at h
      obtain ⟨i, h1, h⟩ := h
      rw [Option.bind_eq_some_iff] at h
      obtain ⟨j, h2, h⟩ := h
      rw [Option.bind_eq_some_iff] at h
      obtain ⟨l, h3, h⟩ := h
      split at h
      · next hc =>
        obtain ⟨rfl, hx, hy, hz, hij, hil, hjl⟩ := hc
        rw [Option.map_eq_some_iff] at h
        obtain ⟨q, h4, rfl⟩ := h
        exact qs_par3 c.c.calm (by rw [c.c.N]; exact c.c.nd) (by rw [c.c.N]; exact findIx_ok h1) (by rw [c.c.N]; exact findIx_ok h2) (by rw [c.c.N]; exact findIx_ok h3) hij hil hjl (by rw [hs]; exact isLoc_ok hx) (by rw [hs]; exact isLoc_ok hy) (by rw [hs]; exact isLoc_ok hz) (cA_ok hE c.c hs h4 (fun _ _ => True.intro)) (sw_ok hs hw)
      · cases h
    · cases h
theorem stepS_ok (hE : OkE cc cf k rE) (hT : OkT cc cf k rT) (hr : OkS cc cf k sc r) : OkS cc cf k sc (cSstep cc rE rT sc r) := by
  intro st is X W h c hs
  unfold cSstep at h
  split at h
  · rw [Option.map_eq_some_iff] at h
    obtain ⟨l, h1, rfl⟩ := h
    exact qs_ret (hE _ _ _ _ _ LT h1 c.c hs (fun _ _ => True.intro))
  · cases h; exact qs_retN
  · rw [Option.bind_eq_some_iff] at h
    obtain ⟨i, h1, h⟩ := h
    obtain ⟨l1, l2⟩ := locSlot_ok h1
    split at h
    · next hn =>
      rw [Option.map_eq_some_iff] at h
      obtain ⟨l, h2, rfl⟩ := h
      exact qs_asg (by rw [c.c.N]; exact c.c.nd) (by rw [c.c.N]; exact l1) (by rw [hs]; exact l2) (hE _ _ _ _ _ LT h2 c.c hs (fun _ _ => True.intro)) (noComp_sw hn) (.inl (c.fn _))
    · split at h
      · split at h
        · next hc =>
          rw [Bool.and_eq_true, Bool.and_eq_true, Bool.and_eq_true] at hc
          rw [Option.map_eq_some_iff] at h
          obtain ⟨l, h2, rfl⟩ := h
          refine (cLc_ok hE hT c.c hs h2 (fun _ _ => True.intro)).asg c.c l1 ?_ ?_ hc.1.2 (by simpa using hc.2)
          · rw [hs]
            have := hc.1.1.1
            unfold isFn at this
            split at this
            · assumption
            · cases this
          · rw [hs]
            have := hc.1.1.2
            unfold isLoc at this
            split at this
            · assumption
            · cases this
        · cases h
      · cases h
  · exact cPar_ok hE c hs h
  · rw [Option.bind_eq_some_iff] at h
    obtain ⟨js, h1, h⟩ := h
    split at h
    · next hc =>
      rw [Bool.and_eq_true] at hc
      rw [Option.map_eq_some_iff] at h
      obtain ⟨l, h2, rfl⟩ := h
      obtain ⟨g1, g2, g3⟩ := cTgs_ok c.c hs (fun _ => c.fn) h1
      exact qs_asgT (hE _ _ _ _ _ LT h2 c.c hs (fun _ _ => True.intro)) (pg_tup c.c.calm g1 g2 g3) (noComp_sole hc.2) (noTup_sw hc.1) rfl
    · cases h
  · split at h
    · next hc =>
      rw [Bool.and_eq_true] at hc
      rw [Option.bind_eq_some_iff] at h
      obtain ⟨q, h1, h⟩ := h
      rw [Option.bind_eq_some_iff] at h
      obtain ⟨ik, h2, h⟩ := h
      split at h
      · next hq =>
        rw [Option.map_eq_some_iff] at h
        obtain ⟨ie, h3, rfl⟩ := h
        exact qs_setI (L' := Lp LT q) Lp_not (placeOf_ok c.c hs h1) (hE _ _ _ _ _ (Lp LT q) h2 c.c hs (okP_ok hq fun _ _ => True.intro)) (hE _ _ _ _ _ LT h3 c.c hs (fun _ _ => True.intro)) (sub_assign hc.1) (noComp_sole hc.2) rfl rfl
      · cases h
    · cases h
  · split at h
    · next hc =>
      rw [Bool.and_eq_true] at hc
      rw [Option.bind_eq_some_iff] at h
      obtain ⟨i, h1, h⟩ := h
      rw [Option.map_eq_some_iff] at h
      obtain ⟨ie, h3, rfl⟩ := h
      have hf := of_decide_eq_true hc.2
      exact qs_setF (fun cn => ⟨c.c.cls (.inl fun z => by rw [z] at hf; simp at hf) cn, c.c.flds _ hf cn⟩) (nameSlot_ok c.c hs h1) (hE _ _ _ _ _ LT h3 c.c hs (fun _ _ => True.intro)) (noComp_sw hc.1)
    · cases h
  · split at h
    · next hf =>
      rw [Option.bind_eq_some_iff] at h
      obtain ⟨i, h1, h⟩ := h
      rw [Option.bind_eq_some_iff] at h
      obtain ⟨ie, h2, h⟩ := h
      split at h
      · cases h
      · next hn =>
        cases h
        have hn : i ∉ lent ie := by simpa using hn
        exact qs_augF (L' := fun j => j ≠ i) (fI := fun a b => a + b) in_add (fun x y H Q q => ⟨x, y, rfl, rfl, q⟩) (fun _ _ _ => augI_add) (fun cn => ⟨c.c.cls (.inl fun z => by rw [z] at hf; simp at hf) cn, c.c.flds _ hf cn⟩) (nameSlot_ok c.c hs h1) (fun z => z rfl) (hE _ _ _ _ _ (fun j => j ≠ i) h2 c.c hs (fun j hj z => hn (z ▸ hj)))
    · cases h
  · rw [Option.bind_eq_some_iff] at h
    obtain ⟨i, h1, h⟩ := h
    rw [Option.map_eq_some_iff] at h
    obtain ⟨l, h2, rfl⟩ := h
    obtain ⟨l1, l2⟩ := locSlot_ok h1
    exact qs_aug (fI := fun a b => a + b) ip_add (fun _ _ _ => augI_add) (by rw [c.c.N]; exact c.c.nd) (by rw [c.c.N]; exact l1) (by rw [hs]; exact l2) (hE _ _ _ _ _ LT h2 c.c hs (fun _ _ => True.intro)) (.inl (c.fn _))
  · rw [Option.bind_eq_some_iff] at h
    obtain ⟨i, h1, h⟩ := h
    rw [Option.map_eq_some_iff] at h
    obtain ⟨l, h2, rfl⟩ := h
    obtain ⟨l1, l2⟩ := locSlot_ok h1
    exact qs_aug (fI := fun a b => a - b) ip_sub (fun _ _ _ => augI_sub) (by rw [c.c.N]; exact c.c.nd) (by rw [c.c.N]; exact l1) (by rw [hs]; exact l2) (hE _ _ _ _ _ LT h2 c.c hs (fun _ _ => True.intro)) (.inl (c.fn _))
  · split at h
    · next hc =>
      obtain ⟨rfl, hn, hl⟩ := hc
      rw [Option.bind_eq_some_iff] at h
      obtain ⟨i, h1, h⟩ := h
      rw [Option.map_eq_some_iff] at h
      obtain ⟨l, h2, rfl⟩ := h
      refine qs_app (L' := LT) (fun z => absurd rfl z) (pp_name (nameSlot_ok c.c hs h1)) (hE _ _ _ _ _ LT h2 c.c hs (fun _ _ => True.intro)) rfl rfl ?_ hl (star_cons hn)
      rw [star_cons hn]; rfl
    · rw [Option.map_eq_some_iff] at h
      obtain ⟨l, h2, rfl⟩ := h
      exact qs_expr (hE _ _ _ _ _ LT h2 c.c hs (fun _ _ => True.intro)) (noComp_sw rfl)
  · split at h
    · next hn =>
      rw [Option.map_eq_some_iff] at h
      obtain ⟨l, h2, rfl⟩ := h
      exact qs_expr (hE _ _ _ _ _ LT h2 c.c hs (fun _ _ => True.intro)) (noComp_sw hn)
    · cases h
  · rw [Option.bind_eq_some_iff] at h
    obtain ⟨it, h1, h⟩ := h
    rw [Option.bind_eq_some_iff] at h
    obtain ⟨sa, h2, h⟩ := h
    rw [Option.map_eq_some_iff] at h
    obtain ⟨sb, h3, rfl⟩ := h
    exact qs_if (hT _ _ _ _ _ LT h1 c.c hs (fun _ _ => True.intro)) (cSs_ok hr c hs h2) (cSs_ok hr c hs h3)
  · rw [Option.bind_eq_some_iff] at h
    obtain ⟨⟨kd, il⟩, h1, h⟩ := h
    rw [Option.bind_eq_some_iff] at h
    obtain ⟨t, h2, h⟩ := h
    rw [Option.map_eq_some_iff] at h
    obtain ⟨sb, h3, rfl⟩ := h
    obtain ⟨g1, g2⟩ := cIt_ok (L := LT) hE c.c hs h1 (fun _ _ => True.intro)
    exact qs_for c.hp c.c.calm g1 (cTg_ok c.c hs (fun _ => c.fn) h2) (cSs_ok hr c hs h3) g2
  · rw [Option.bind_eq_some_iff] at h
    obtain ⟨it, h1, h⟩ := h
    rw [Option.map_eq_some_iff] at h
    obtain ⟨sb, h3, rfl⟩ := h
    exact qs_while c.hp (hT _ _ _ _ _ LT h1 c.c hs (fun _ _ => True.intro)) (cSs_ok hr c hs h3)
  · split at h
    · next hc =>
      rw [Bool.and_eq_true, Bool.and_eq_true] at hc
      cases h
      obtain ⟨C, m1, m2⟩ := c.excs _ (of_decide_eq_true hc.2)
      obtain ⟨b1, b2, b3⟩ := badName_no (x := _) (by simpa using hc.1.2)
      exact qs_raise (t := fun _ H Q => Q C none H) c.c.calm c.tk (m2 _ _ _ _ _ (isGl_ok hs hc.1.1) b1) m1
    · cases h
  · cases h; exact qs_pass
  · cases h; exact qs_brk
  · cases h; exact qs_cont
  · cases h
theorem compS_ok (n : Nat) : ∀ m, OkS cc cf k sc (compS cc n sc m)
  | 0 => fun _ _ _ _ h => (nomatch h)
  | m + 1 => stepS_ok (comp_ok n cc).1 (comp_ok n cc).2 (compS_ok n m)
end
end VL
set_option maxHeartbeats 2000000
namespace VL
open PySem PySem.Spec PyProof.Rows L2
variable [Tabl]
structure ExcOk (K : PySem.W.Frag) (mg : Str → Option Value) (x : Str) : Prop where
  ex : ∃ (C : Addr) (B newId initId : String) (bmB : List Value), ExcBaseFacts B newId initId bmB ∧ PySem.W.excIn K C bmB newId = true ∧ mg x = some (.ref C) ∧ PySem.W.keepIn K (.ref C) = true ∧ PySem.W.subIn K (.ref C) (.type "BaseException") = some true ∧ PySem.W.typeIn K (.ref C) = some (.type "type")
def Cc.at (g : Cc) (N : List Str) (tl : Bool) : Cc := ⟨N, g.defs, g.glbs, g.blts, g.excs, g.clss, g.mths, g.flds, tl⟩
section
variable (g : Cc) (P : Program) (w : World) (K : PySem.W.Frag) (mg : Str → Option Value) (base : Heap)
def ToldAll : Prop := ∃ cs CS, HotL.ToldOk P w K mg base cs CS ∧ KindsOk K mg g.excs cs CS
def Keeps (cf : CF) (k n : Nat) (f : Addr) : Prop := ∃ fd ps, L2.Binds K fd ps [] ∧ FnOk P w K mg base (L2N.CX P w) k f fd ps (spD K mg (cf n))
structure TabOk (cf : CF) (k : Nat) : Prop where
  defs : ∀ (n : Nat) x ks, g.defs[n]? = some (x, ks) → ∃ f, mg x = some (.ref f) ∧ PySem.W.keepIn K (.ref f) = true ∧ Keeps P w K mg base cf k n f
  glbs : ∀ x d, g.glbs.lookup x = some d → ∃ v u, mg x = some u ∧ RelV v u ∧ ∀ F, Rp K F v d
  blts : ∀ x, x ∈ g.blts → mg x = none
  excs : ∀ x, x ∈ g.excs → ExcOk K mg x
  clss : ∀ x c n ks, g.clss.lookup x = some (c, n, ks) → mg x = some (.ref (Tabl.C c)) ∧ ∃ f, Mk K (Tabl.C c) f ∧ Keeps P w K mg base cf k n f
  mths : ∀ m ms, g.mths.lookup m = some ms → ∀ c n, ms.lookup c = some n → ∃ f, Meth K (Tabl.C c) m f ∧ Keeps P w K mg base cf k n f
  flds : ∀ f, f ∈ g.flds → ∀ c, NoAttr K (Tabl.C c) f
  cls : g.flds ≠ [] ∨ g.mths ≠ [] → ∀ c, Cls K (Tabl.C c)
  told : g.told = true → ToldAll g P w K mg base
end
section
variable {g : Cc} {P : Program} {w : World} {K : PySem.W.Frag} {mg : Str → Option Value} {base : Heap} {cf : CF} {k : Nat} {N ps : List Str} {tl : Bool}
theorem StOk.of (T : TabOk g P w K mg base cf k) {X : Cx} {W : WX} (hP : X.prog = P) (hw : X.w = w) (hK : X.K = K) (hm : X.mg = mg) (hb : X.base = base) (hN : X.N = N) (nd : N.Nodup) (hc : X.calm = true) (tk : L2N.Takes X W) (hst : X.stack = X.env :: X.outer) (hfr : X.env.frame = some X.env.locals) (hr : Room (k + 3) X.A) (hp : PassesOwn (model X.prog X.w) X.A X.env X.xe) (hf : ∀ x, X.fn x = true) (ht : tl = true → g.told = true ∧ LamOk X.base X.mg X.env.code (X.env.qual ++ "<lambda>")) :
    StOk (g.at N tl) cf X W k := by
  subst hP hw hK hm hb
  refine ⟨⟨hN, nd, hc, Tk.of tk hst hfr, hr.mono (by omega), fun n x ks h => ?_, T.glbs, T.blts, fun x c n ks h => ?_, fun m ms h c n hn => ?_, T.flds, T.cls, fun z => ⟨T.told (ht z).1, (ht z).2, hr⟩⟩, hp, hf, tk, fun x hx => ?_⟩
  · obtain ⟨f, h1, h2, fd, ps, h3, h4⟩ := T.defs n x ks h
    exact ⟨f, fd, ps, h1, h2, h3, h4⟩
  · obtain ⟨h1, f, h2, fd, ps, h3, h4⟩ := T.clss x c n ks h
    exact ⟨h1, f, fd, ps, h2, h3, h4⟩
  · obtain ⟨f, h2, fd, ps, h3, h4⟩ := T.mths m ms h c n hn
    exact ⟨f, fd, ps, h2, h3, h4⟩
  · obtain ⟨C, B, newId, initId, bmB, h1, h2, h3, h4, h5, h6⟩ := (T.excs x hx).ex
    exact ⟨_, h3, fun m j p p2 pos hg hd => L2N.pmk_own h1 h2 h3 h4 (raises_own h5 h6) hg hd⟩
theorem start_get {vs : List V} {i : Nat} {v : V} (h : vs[i]? = some v) : (L2.start N vs)[i]? = some (some v) := by
  have hi : i < vs.length := (List.getElem?_eq_some_iff.mp h).1
  unfold L2.start
  rw [List.getElem?_append_left (by simpa using hi), List.getElem?_map, h]; rfl
omit [Tabl] in
theorem startS_len {d : Def} {as : List AV} (h : as.length ≤ d.n) : (startS d as).length = d.n := by
  unfold startS
  simp
  omega
omit [Tabl] in
theorem startS_get {d : Def} {as : List AV} {i : Nat} {x : SV} (h : (startS d as)[i]? = some (some x)) : ∃ a, as[i]? = some a ∧ x = a.toSV := by
  unfold startS at h
  by_cases hi : i < as.length
  · rw [List.getElem?_append_left (by simpa using hi), List.getElem?_map, List.getElem?_eq_getElem hi] at h
    simp only [Option.map_some, Option.some.injEq] at h
    exact ⟨as[i], List.getElem?_eq_getElem hi, h.symm⟩
  · rw [List.getElem?_append_right (by simpa using hi)] at h
    have := List.mem_of_getElem? h
    rw [List.mem_replicate] at this
    cases this.2
omit [Tabl] in
theorem startS_at {d : Def} {as : List AV} {i : Nat} {a : AV} (h : as[i]? = some a) : (startS d as)[i]? = some (some a.toSV) := by
  have hi : i < as.length := (List.getElem?_eq_some_iff.mp h).1
  unfold startS
  rw [List.getElem?_append_left (by simpa using hi), List.getElem?_map, h]; rfl
theorem AvsOk.get {F H : Hp} : ∀ {as : List AV} {vs : List V} {fps : List (List Addr)} {i : Nat} {a : AV}, AvsOk K F H as vs fps → as[i]? = some a → ∃ v fp, vs[i]? = some v ∧ fps[i]? = some fp ∧ AvOk K F H a v fp
  | a :: as, v :: vs, fp :: fps, 0, x, h, e => by cases e; exact ⟨v, fp, rfl, rfl, h.1⟩
  | a :: as, v :: vs, fp :: fps, i + 1, x, h, e => by
    rw [List.getElem?_cons_succ] at e
    obtain ⟨v', fp', h1, h2, h3⟩ := AvsOk.get h.2.1 e
    exact ⟨v', fp', by rw [List.getElem?_cons_succ]; exact h1, by rw [List.getElem?_cons_succ]; exact h2, h3⟩
theorem AvsOk.lens {F H : Hp} : ∀ {as : List AV} {vs : List V} {fps : List (List Addr)}, AvsOk K F H as vs fps → vs.length = as.length ∧ fps.length = as.length
  | [], [], [], _ => ⟨rfl, rfl⟩
  | a :: as, v :: vs, fp :: fps, h => by
    obtain ⟨h1, h2⟩ := AvsOk.lens h.2.1
    exact ⟨congrArg (· + 1) h1, congrArg (· + 1) h2⟩
theorem AvsOk.apart {F H : Hp} : ∀ {as : List AV} {vs : List V} {fps : List (List Addr)} {i j : Nat} {fp fq : List Addr}, AvsOk K F H as vs fps → i < j → fps[i]? = some fp → fps[j]? = some fq → ∀ b ∈ fp, b ∉ fq
  | [], [], [], i, j, fp, fq, _, _, e1, _, b, hb => by simp at e1
  | a :: as, v :: vs, f :: fps, 0, j + 1, fp, fq, h, _, e1, e2, b, hb => by
    cases e1
    rw [List.getElem?_cons_succ] at e2
    exact h.2.2 b hb fq (List.mem_of_getElem? e2)
  | a :: as, v :: vs, f :: fps, i + 1, j + 1, fp, fq, h, hl, e1, e2, b, hb => by
    rw [List.getElem?_cons_succ] at e1 e2
    exact AvsOk.apart h.2.1 (Nat.lt_of_succ_lt_succ hl) e1 e2 b hb
def fpAt (fps : List (List Addr)) (i : Nat) : List Addr := (fps[i]?).getD []
def rootAt (as : List AV) (vs : List V) (i : Nat) : Option Addr := match as[i]?, vs[i]? with
  | some (.o _), some (.ref a) => some a
  | _, _ => none
theorem rel_start {d : Def} {Fz H : Hp} {as : List AV} {vs : List V} {fps : List (List Addr)} (hn : d.n = N.length) (hle : as.length ≤ d.n) (hs : Same Fz H ∧ (∀ b o, Fz b = some o → NT o) ∧ LamX.Tabs Tabl.T H) (ha : AvsOk K Fz H as vs fps) (hf : ∀ fp ∈ fps, ∀ b ∈ fp, Fz b = none) :
    Rel K ⟨fpAt fps, rootAt as vs, strip H, Fz⟩ Fz (L2.start N vs) H (startS d as) (fpAt fps) := by
  have hob : ∀ (i : Nat) (w : Bool) (o : Ob), (startS d as)[i]? = some (some (.ob w o)) → w = false ∧ as[i]? = some (.o o) := fun i w o h => by
    obtain ⟨a, h1, h2⟩ := startS_get h
    cases a with
    | d x => cases h2
    | o x => cases h2; exact ⟨rfl, h1⟩
    | clo n e => cases h2
  refine ⟨hs.1, fun b o e => ⟨o, strip_some e⟩, fun b o e _ => (strip_some e).1, Same.refl _, fun b o _ e => e, fun i x h => ?_, fun i w o h b hb => ?_, fun i j w w' o o' hij h1 h2 b hb => ?_, fun i a h => ?_, ?_, ⟨fun b o e => (strip_some e).2, hs.2.1, hs.2.2⟩⟩
  · obtain ⟨a, h1, rfl⟩ := startS_get h
    obtain ⟨v, fp, h2, h3, h4⟩ := ha.get h1
    refine ⟨v, start_get h2, ?_⟩
    have : fpAt fps i = fp := by unfold fpAt; rw [h3]; rfl
    rw [this]
    cases a with
    | d x => exact h4.2
    | o x => exact h4
    | clo n e => exact h4.2
  · obtain ⟨rfl, h1⟩ := hob i w o h
    obtain ⟨v, fp, h2, h3, h4⟩ := ha.get h1
    refine ⟨?_, .inr ⟨rfl, hb⟩⟩
    unfold fpAt at hb
    rw [h3] at hb
    exact hf fp (List.mem_of_getElem? h3) b hb
  · obtain ⟨rfl, g1⟩ := hob i w o h1
    obtain ⟨rfl, g2⟩ := hob j w' o' h2
    obtain ⟨v, fp, _, e1, _⟩ := ha.get g1
    obtain ⟨v', fq, _, e2, _⟩ := ha.get g2
    unfold fpAt at hb ⊢
    rw [e1] at hb
    rw [e2]
    rcases Nat.lt_or_gt_of_ne hij with l | l
    · exact ha.apart l e1 e2 b hb
    · exact fun z => ha.apart l e2 e1 b z hb
  · have h : rootAt as vs i = some a := h
    unfold rootAt at h
    split at h
    · next x a' e1 e2 =>
      cases h
      exact ⟨start_get e2, x, startS_at e1⟩
    · cases h
  · rw [startS_len hle]
    unfold L2.start
    simp
    have := ha.lens.1
    omega
theorem collect_ok {H F' H' : Hp} : ∀ {as : List AV} {vs : List V} {fps : List (List Addr)} {s : S} {φ : Nat → List Addr} {os : List Ob} {F0 H0 : Hp}, AvsOk K F0 H0 as vs fps → collect as s = some os →
    (∀ (i : Nat) o0 v fp o, as[i]? = some (.o o0) → vs[i]? = some v → fps[i]? = some fp → s[i]? = some (some (.ob false o)) → (∃ a, v = .ref a ∧ ObOk K F' H' o a (φ i)) ∧ ∀ b ∈ φ i, (b ∈ fp ∨ strip H b = none) ∧ F' b = none) →
    (∀ (i j : Nat) w w' o o', i ≠ j → s[i]? = some (some (.ob w o)) → s[j]? = some (some (.ob w' o')) → ∀ b ∈ φ i, b ∉ φ j) →
    ∃ fqs, ObsOk K H F' H' as vs fps os fqs ∧ ∀ fq ∈ fqs, fq = [] ∨ ∃ (i : Nat) (w : Bool) (o : Ob), s[i]? = some (some (.ob w o)) ∧ fq = φ i
  | [], [], [], s, φ, os, _, _, _, h, _, _ => by
    cases h
    exact ⟨[], True.intro, fun fq h => by cases h⟩
  | .o x :: as, v :: vs, fp :: fps, [], φ, os, _, _, _, h, _, _ => by cases h
  | .o x :: as, v :: vs, fp :: fps, none :: s, φ, os, _, _, _, h, _, _ => by cases h
  | .o x :: as, v :: vs, fp :: fps, some (.d _) :: s, φ, os, _, _, _, h, _, _ => by cases h
  | .o x :: as, v :: vs, fp :: fps, some (.clo _ _) :: s, φ, os, _, _, _, h, _, _ => by cases h
  | .o x :: as, v :: vs, fp :: fps, some (.ob true _) :: s, φ, os, _, _, _, h, _, _ => by cases h
  | .o x :: as, v :: vs, fp :: fps, some (.ob false o) :: s, φ, os, _, _, ha, h, k1, k2 => by
    unfold collect at h
    rw [Option.map_eq_some_iff] at h
    obtain ⟨os', h1, rfl⟩ := h
    obtain ⟨fqs, g1, g2⟩ := collect_ok (H := H) (F' := F') (H' := H') (φ := fun i => φ (i + 1)) ha.2.1 h1 (fun i o0 v fp o e1 e2 e3 e4 => k1 (i + 1) o0 v fp o e1 e2 e3 e4) (fun i j w w' o o' hn e1 e2 => k2 (i + 1) (j + 1) w w' o o' (fun z => hn (Nat.succ.inj z)) e1 e2)
    obtain ⟨m1, m2⟩ := k1 0 x v fp o rfl rfl rfl rfl
    refine ⟨φ 0 :: fqs, ⟨m1, m2, g1, fun b hb fr hfr => ?_⟩, fun fq hq => ?_⟩
    · rcases g2 fr hfr with rfl | ⟨i, w, o', q1, rfl⟩
      · exact fun z => by cases z
      · exact k2 0 (i + 1) false w o o' (fun z => by cases z) rfl q1 b hb
    · rcases List.mem_cons.mp hq with rfl | hq
      · exact .inr ⟨0, false, o, rfl, rfl⟩
      · rcases g2 fq hq with rfl | ⟨i, w, o', q1, rfl⟩
        · exact .inl rfl
        · exact .inr ⟨i + 1, w, o', q1, rfl⟩
  | .d x :: as, v :: vs, fp :: fps, [], φ, os, _, _, _, h, _, _ => by cases h
  | .d x :: as, v :: vs, fp :: fps, y :: s, φ, os, _, _, ha, h, k1, k2 => by
    obtain ⟨fqs, g1, g2⟩ := collect_ok (H := H) (F' := F') (H' := H') (φ := fun i => φ (i + 1)) (os := os) ha.2.1 (by unfold collect at h; exact h) (fun i o0 v fp o e1 e2 e3 e4 => k1 (i + 1) o0 v fp o e1 e2 e3 e4) (fun i j w w' o o' hn e1 e2 => k2 (i + 1) (j + 1) w w' o o' (fun z => hn (Nat.succ.inj z)) e1 e2)
    refine ⟨[] :: fqs, by cases os <;> exact ⟨rfl, g1⟩, fun fq hq => ?_⟩
    rcases List.mem_cons.mp hq with rfl | hq
    · exact .inl rfl
    · rcases g2 fq hq with rfl | ⟨i, w, o', q1, rfl⟩
      · exact .inl rfl
      · exact .inr ⟨i + 1, w, o', q1, rfl⟩
  | .clo x z :: as, v :: vs, fp :: fps, [], φ, os, _, _, _, h, _, _ => by cases h
  | .clo x z :: as, v :: vs, fp :: fps, y :: s, φ, os, _, _, ha, h, k1, k2 => by
    obtain ⟨fqs, g1, g2⟩ := collect_ok (H := H) (F' := F') (H' := H') (φ := fun i => φ (i + 1)) (os := os) ha.2.1 (by unfold collect at h; exact h) (fun i o0 v fp o e1 e2 e3 e4 => k1 (i + 1) o0 v fp o e1 e2 e3 e4) (fun i j w w' o o' hn e1 e2 => k2 (i + 1) (j + 1) w w' o o' (fun z => hn (Nat.succ.inj z)) e1 e2)
    refine ⟨[] :: fqs, by cases os <;> exact ⟨rfl, g1⟩, fun fq hq => ?_⟩
    rcases List.mem_cons.mp hq with rfl | hq
    · exact .inl rfl
    · rcases g2 fq hq with rfl | ⟨i, w, o', q1, rfl⟩
      · exact .inl rfl
      · exact .inr ⟨i + 1, w, o', q1, rfl⟩
theorem rel_end {Fz H F' H' : Hp} {σ : L2.St} {s : S} {φ : Nat → List Addr} {as : List AV} {vs : List V} {fps : List (List Addr)} {os : List Ob} (ha : AvsOk K Fz H as vs fps) (rl : Rel K ⟨fpAt fps, rootAt as vs, strip H, Fz⟩ F' σ H' s φ) (hc : collect as s = some os) :
    After fps Fz H F' H' ∧ ∃ fqs, ObsOk K H F' H' as vs fps os fqs := by
  refine ⟨⟨rl.sub, rl.f0, fun b o e n k => rl.old b o (strip_of e n) fun i z => ?_, fun b o e n => rl.dom b o (strip_of e n), fun b o e n => rl.nf b o (strip_of e n), rl.tt.hF, rl.tt.tb⟩, ?_⟩
  · have z : b ∈ (fps[i]?).getD [] := z
    cases q : fps[i]? with
    | none => rw [q] at z; cases z
    | some fp => rw [q] at z; exact k fp (List.mem_of_getElem? q) z
  · have key : ∀ (i : Nat) o0 v fp o, as[i]? = some (.o o0) → vs[i]? = some v → fps[i]? = some fp → s[i]? = some (some (.ob false o)) → (∃ a, v = .ref a ∧ ObOk K F' H' o a (φ i)) ∧ ∀ b ∈ φ i, (b ∈ fp ∨ strip H b = none) ∧ F' b = none := fun i o0 v fp o e1 e2 e3 e4 => by
      obtain ⟨v', fp', g1, g2, g3⟩ := ha.get e1
      rw [e2] at g1; cases g1
      obtain ⟨a, rfl, g4⟩ := g3
      have hr : rootAt as vs i = some a := by unfold rootAt; rw [e1, e2]
      obtain ⟨r1, _⟩ := rl.rt i a hr
      obtain ⟨v2, s1, a2, rfl, s3⟩ := rl.sl i _ e4
      rw [r1] at s1; cases s1
      refine ⟨⟨a, rfl, s3⟩, fun b hb => ?_⟩
      obtain ⟨f1, f2⟩ := rl.fz i false o e4 b hb
      refine ⟨?_, f1⟩
      rcases f2 with f2 | f2
      · exact .inr f2
      · have f2 : b ∈ (fps[i]?).getD [] := f2.2
        rw [e3] at f2
        exact .inl f2
    obtain ⟨fqs, h1, _⟩ := collect_ok (H := H) (F' := F') (H' := H') (φ := φ) ha hc key (fun i j w w' o o' hn e1 e2 b hb => rl.dj i j w w' o o' hn e1 e2 b hb)
    exact ⟨fqs, h1⟩
theorem spD_len {F : List AV → RC} {n : Nat} (hF : ∀ as, F as ≠ .stuck → as.length = n) {vs : List V} {H : Hp} {Q : VK} {E : XK} (h : spD K mg F vs H Q E) : vs.length = n := by
  obtain ⟨Fz, as, fps, h1, h2, h3, h4⟩ := h
  have hne : F as ≠ .stuck := fun z => by rw [z] at h4; exact h4
  rw [h2.lens.1]
  exact hF as hne
omit [Tabl] in
theorem runDef_ar {d : Def} {as : List AV} (h : runDef cf d as ≠ .stuck) : as.length = d.arity ∧ d.arity ≤ d.n ∧ runDef cf d as = endRC as (evS cf d.body (startS d as)) := by
  unfold runDef at h ⊢
  cases e : okCall d as with
  | true =>
    unfold okCall at e
    rw [Bool.and_eq_true] at e
    exact ⟨of_decide_eq_true e.1, of_decide_eq_true e.2, rfl⟩
  | false => rw [e] at h; exact absurd rfl h
theorem okN {x qual : Str} {st : Stmt} {f : Addr} {fd : FuncData} {sp : Sp} (F : Fun K x qual st f fd) (S : FnScope N ps (defScope st)) (hl : ∀ vs H Q E, sp vs H Q E → vs.length = ps.length)
    (hb : ∀ (cdv : Value), fd.code = cdv → ∀ (A : Around) (outer : List Env) (s : Shared) (H : Hp) (vs : List V) (Q : VK) (E : XK), Room k (A.deeper (envOfC qual (defScope st) s.heap.objs.size f cdv)) → sp vs H Q E → ∃ t, PSs (cxOf (L2N.CX P w) P w K mg base N qual (defScope st) f cdv A outer s H E) (defBody st) t ∧ t { nx := fun _ H' => Q .non H', rt := Q } (start N vs) H) :
    FnOk P w K mg base (L2N.CX P w) (k + 1) f fd ps sp := by
  obtain ⟨oc, od, kV, doc, pm, an, cdv, ct, osl, rfl, lk, hcd⟩ := F.ex
  exact fn_of lk hcd S hl fun A outer s H vs Q E hr hsp => hb cdv rfl A outer s H vs Q E hr hsp
theorem def_ok {x qual : Str} {st : Stmt} {f : Addr} {fd : FuncData} (F : Fun K x qual st f fd) (Sc : FnScope N ps (defScope st)) (d : Def) (hn : d.n = N.length) (ha : d.arity = ps.length) (hc : compBody (g.at N tl) (defScope st) (defBody st) = some d.body) (ht : tl = true → g.told = true ∧ LamOk base mg fd.code (qual ++ ".<locals>." ++ "<lambda>"))
    (T : TabOk g P w K mg base cf k) : FnOk P w K mg base (L2N.CX P w) (k + 4) f fd ps (spD K mg (runDef cf d)) := by
  refine okN F Sc (fun vs H Q E h => ?_) (fun cdv hcd A outer s H vs Q E hr h => ?_)
  · rw [← ha]; exact spD_len (fun as hne => (runDef_ar hne).1) h
  · have ok : StOk (g.at N tl) cf (cxOf (L2N.CX P w) P w K mg base N qual (defScope st) f cdv A outer s H E) (fun cls d _ H => E cls d H) k :=
      StOk.of T rfl rfl rfl rfl rfl rfl Sc.nd rfl (L2N.takes_of rfl rfl rfl rfl) rfl rfl hr (passes_of rfl) (fun _ => rfl) (fun z => ⟨(ht z).1, by have := (ht z).2; rw [hcd] at this; exact this⟩)
    refine ⟨_, cSs_ok (compS_ok 40 40) ok rfl hc, ?_⟩
    obtain ⟨Fz, as, fps, h1, h2, h3, h4⟩ := h
    have hne : runDef cf d as ≠ .stuck := fun z => by rw [z] at h4; exact h4
    obtain ⟨har, hle, hrun⟩ := runDef_ar hne
    have rl := rel_start (K := K) (N := N) (d := d) hn (by rw [har]; exact hle) h1 h2 h3
    refine ⟨_, Fz, _, _, rl, ?_⟩
    rw [hrun] at h4
    cases e : evS cf d.body (startS d as) with
    | ok fl s' =>
      rw [e] at h4
      cases fl with
      | next =>
        refine fun σ' H' F' φ' _ rl' => ?_
        cases q : collect as s' with
        | none => simp only [endRC, q] at h4; exact h4.elim
        | some os =>
          simp only [endRC, q] at h4
          obtain ⟨g1, fqs, g2⟩ := rel_end h2 rl' q
          exact h4 .non H' F' fqs g1 g2 .non
      | ret v =>
        refine fun u σ' H' F' φ' _ rl' rp => ?_
        cases q : collect as s' with
        | none => simp only [endRC, q] at h4; exact h4.elim
        | some os =>
          simp only [endRC, q] at h4
          obtain ⟨g1, fqs, g2⟩ := rel_end h2 rl' q
          exact h4 u H' F' fqs g1 g2 rp
      | brk => exact h4.elim
      | cont => exact h4.elim
    | exc c s' =>
      rw [e] at h4
      refine fun C σ' H' F' φ' hm _ rl' => ?_
      cases q : collect as s' with
      | none => simp only [endRC, q] at h4; exact h4.elim
      | some os =>
        simp only [endRC, q] at h4
        obtain ⟨g1, fqs, g2⟩ := rel_end h2 rl' q
        exact h4 C H' F' fqs hm g1 g2
    | stuck => rw [e] at h4; exact h4.elim
end
def run (Γ : List Def) : Nat → CF
  | 0 => fun _ _ => .stuck
  | k + 1 => fun n as => match Γ[n]? with
    | some d => runDef (run Γ k) d as
    | none => .stuck
structure CodeIn (g : Cc) (K : PySem.W.Frag) (mg : Str → Option Value) (base : Heap) (d : Def) (f : Addr) : Prop where
  ex : ∃ (N ps : List Str) (tl : Bool) (x qual : Str) (st : Stmt) (fd : FuncData), L2.Binds K fd ps [] ∧ Fun K x qual st f fd ∧ FnScope N ps (defScope st) ∧ d.n = N.length ∧ d.arity = ps.length ∧ compBody (g.at N tl) (defScope st) (defBody st) = some d.body ∧ (tl = true → g.told = true ∧ LamOk base mg fd.code (qual ++ ".<locals>." ++ "<lambda>"))
omit [Tabl] in
theorem run_at {Γ : List Def} {n : Nat} {d : Def} (h : Γ[n]? = some d) (k : Nat) : run Γ (k + 1) n = runDef (run Γ k) d := by
  funext as
  show (match Γ[n]? with | some d => runDef (run Γ k) d as | none => .stuck) = _
  rw [h]
structure TabIn (g : Cc) (P : Program) (w : World) (K : PySem.W.Frag) (mg : Str → Option Value) (base : Heap) (Γ : List Def) : Prop where
  defs : ∀ (n : Nat) x ks, g.defs[n]? = some (x, ks) → ∃ f d, mg x = some (.ref f) ∧ PySem.W.keepIn K (.ref f) = true ∧ Γ[n]? = some d ∧ CodeIn g K mg base d f
  glbs : ∀ x d, g.glbs.lookup x = some d → ∃ v u, mg x = some u ∧ RelV v u ∧ ∀ F, Rp K F v d
  blts : ∀ x, x ∈ g.blts → mg x = none
  excs : ∀ x, x ∈ g.excs → ExcOk K mg x
  clss : ∀ x c n ks, g.clss.lookup x = some (c, n, ks) → mg x = some (.ref (Tabl.C c)) ∧ ∃ f d, Mk K (Tabl.C c) f ∧ Γ[n]? = some d ∧ CodeIn g K mg base d f
  mths : ∀ m ms, g.mths.lookup m = some ms → ∀ c n, ms.lookup c = some n → ∃ f d, Meth K (Tabl.C c) m f ∧ Γ[n]? = some d ∧ CodeIn g K mg base d f
  flds : ∀ f, f ∈ g.flds → ∀ c, NoAttr K (Tabl.C c) f
  cls : g.flds ≠ [] ∨ g.mths ≠ [] → ∀ c, Cls K (Tabl.C c)
  told : g.told = true → ToldAll g P w K mg base
theorem keeps0 {g : Cc} {P : Program} {w : World} {K : PySem.W.Frag} {mg : Str → Option Value} {base : Heap} {Γ : List Def} {k n : Nat} {d : Def} {f : Addr} (hc : CodeIn g K mg base d f) : Keeps P w K mg base (run Γ 0) k n f := by
  obtain ⟨N, ps, tl, x, qual, st, fd, m1, m2, _⟩ := hc.ex
  have no : ∀ vs H Q E, ¬ spD K mg (run Γ 0 n) vs H Q E := fun vs H Q E z => by
    obtain ⟨_, _, _, _, _, _, z⟩ := z
    exact z
  exact ⟨fd, ps, m1, fun vs H Q E z => (no _ _ _ _ z).elim, fun A outer s H args us vs Q E _ _ _ _ z => (no _ _ _ _ z).elim⟩
theorem keepsS {g : Cc} {P : Program} {w : World} {K : PySem.W.Frag} {mg : Str → Option Value} {base : Heap} {Γ : List Def} {j k n : Nat} {d : Def} {f : Addr} (hc : CodeIn g K mg base d f) (hd : Γ[n]? = some d) (T : TabOk g P w K mg base (run Γ j) k) : Keeps P w K mg base (run Γ (j + 1)) (k + 4) n f := by
  obtain ⟨N, ps, tl, x, qual, st, fd, m1, m2, m3, m4, m5, m6, m7⟩ := hc.ex
  refine ⟨fd, ps, m1, ?_⟩
  rw [run_at hd]
  exact def_ok m2 m3 d m4 m5 m6 m7 T
theorem tab_ok {g : Cc} {P : Program} {w : World} {K : PySem.W.Frag} {mg : Str → Option Value} {base : Heap} {Γ : List Def} (t : TabIn g P w K mg base Γ) : ∀ k, TabOk g P w K mg base (run Γ k) (4 * k)
  | 0 => ⟨fun n x ks h => by
      obtain ⟨f, d, h1, h2, h3, h4⟩ := t.defs n x ks h
      exact ⟨f, h1, h2, keeps0 h4⟩, t.glbs, t.blts, t.excs, fun x c n ks h => by
      obtain ⟨h1, f, d, h2, h3, h4⟩ := t.clss x c n ks h
      exact ⟨h1, f, h2, keeps0 h4⟩, fun m ms h c n hn => by
      obtain ⟨f, d, h2, h3, h4⟩ := t.mths m ms h c n hn
      exact ⟨f, h2, keeps0 h4⟩, t.flds, t.cls, t.told⟩
  | k + 1 => ⟨fun n x ks h => by
      obtain ⟨f, d, h1, h2, h3, h4⟩ := t.defs n x ks h
      exact ⟨f, h1, h2, keepsS h4 h3 (tab_ok t k)⟩, t.glbs, t.blts, t.excs, fun x c n ks h => by
      obtain ⟨h1, f, d, h2, h3, h4⟩ := t.clss x c n ks h
      exact ⟨h1, f, h2, keepsS h4 h3 (tab_ok t k)⟩, fun m ms h c n hn => by
      obtain ⟨f, d, h2, h3, h4⟩ := t.mths m ms h c n hn
      exact ⟨f, h2, keepsS h4 h3 (tab_ok t k)⟩, t.flds, t.cls, t.told⟩
def AllP {α : Type} (p : α → Prop) : List α → Prop
  | [] => True
  | x :: xs => p x ∧ AllP p xs
omit [Tabl] in
theorem AllP.nil {α : Type} {p : α → Prop} : AllP p [] := True.intro
omit [Tabl] in
theorem AllP.cons {α : Type} {p : α → Prop} {x : α} {xs : List α} (h : p x) (t : AllP p xs) : AllP p (x :: xs) := ⟨h, t⟩
omit [Tabl] in
theorem AllP.mem {α : Type} {p : α → Prop} : ∀ {l : List α} {x : α}, AllP p l → x ∈ l → p x
  | y :: ys, x, h, hm => by
    rcases List.mem_cons.mp hm with rfl | hm
    · exact h.1
    · exact AllP.mem h.2 hm
omit [Tabl] in
theorem lookup_mem {α β : Type} [BEq α] [LawfulBEq α] : ∀ {l : List (α × β)} {x : α} {a : β}, l.lookup x = some a → (x, a) ∈ l
  | (y, b) :: r, x, a, h => by
    rw [List.lookup_cons] at h
    cases e : x == y with
    | true =>
      rw [e] at h
      have e' : x = y := by simpa using e
      cases h
      rw [e']
      exact List.mem_cons_self
    | false =>
      rw [e] at h
      exact List.mem_cons_of_mem _ (lookup_mem h)
def AllZ (g : Cc) (K : PySem.W.Frag) (mg : Str → Option Value) (base : Heap) : List (Str × List Bool) → List Def → Prop
  | [], _ => True
  | p :: ps, d :: ds => (∃ f, mg p.1 = some (.ref f) ∧ PySem.W.keepIn K (.ref f) = true ∧ CodeIn g K mg base d f) ∧ AllZ g K mg base ps ds
  | _ :: _, [] => False
section
variable {g : Cc} {K : PySem.W.Frag} {mg : Str → Option Value} {base : Heap}
theorem AllZ.nil {Γ : List Def} : AllZ g K mg base [] Γ := True.intro
theorem AllZ.cons {x : Str} {b : List Bool} {ps : List (Str × List Bool)} {d : Def} {ds : List Def} (h : ∃ f, mg x = some (.ref f) ∧ PySem.W.keepIn K (.ref f) = true ∧ CodeIn g K mg base d f) (t : AllZ g K mg base ps ds) : AllZ g K mg base ((x, b) :: ps) (d :: ds) := ⟨h, t⟩
theorem AllZ.get : ∀ {ps : List (Str × List Bool)} {ds : List Def} {n : Nat} {x : Str} {ks : List Bool}, AllZ g K mg base ps ds → ps[n]? = some (x, ks) → ∃ f d, mg x = some (.ref f) ∧ PySem.W.keepIn K (.ref f) = true ∧ ds[n]? = some d ∧ CodeIn g K mg base d f
  | [], _, n, _, _, _, h => by simp at h
  | p :: ps, d :: ds, 0, x, dc, h, e => by
    simp at e
    subst e
    obtain ⟨f, h1, h2, h3⟩ := h.1
    exact ⟨f, d, h1, h2, rfl, h3⟩
  | p :: ps, d :: ds, n + 1, x, dc, h, e => by
    rw [List.getElem?_cons_succ] at e
    obtain ⟨f, d', h1, h2, h3, h4⟩ := AllZ.get h.2 e
    exact ⟨f, d', h1, h2, by rw [List.getElem?_cons_succ]; exact h3, h4⟩
end
theorem tab_ok2 {g : Cc} {P : Program} {w : World} {K : PySem.W.Frag} {mg : Str → Option Value} {base : Heap} {Γ : List Def} (hd : AllZ g K mg base g.defs Γ)
    (hg : AllP (fun p : Str × D => ∃ v u, mg p.1 = some u ∧ RelV v u ∧ ∀ F, Rp K F v p.2) g.glbs) (hb : AllP (fun x : Str => mg x = none) g.blts)
    (he : AllP (fun x : Str => ∃ (C : Addr) (B newId initId : String) (bmB : List Value), ExcBaseFacts B newId initId bmB ∧ PySem.W.excIn K C bmB newId = true ∧ mg x = some (.ref C) ∧ PySem.W.keepIn K (.ref C) = true ∧ PySem.W.subIn K (.ref C) (.type "BaseException") = some true ∧ PySem.W.typeIn K (.ref C) = some (.type "type")) g.excs)
    (hc : AllP (fun p : Str × (Nat × Nat × List Bool) => mg p.1 = some (.ref (Tabl.C p.2.1)) ∧ ∃ f d, Mk K (Tabl.C p.2.1) f ∧ Γ[p.2.2.1]? = some d ∧ CodeIn g K mg base d f) g.clss)
    (hm : AllP (fun p : Str × List (Nat × Nat) => AllP (fun q : Nat × Nat => ∃ f d, Meth K (Tabl.C q.1) p.1 f ∧ Γ[q.2]? = some d ∧ CodeIn g K mg base d f) p.2) g.mths)
    (hf : AllP (fun f : Str => ∀ c, NoAttr K (Tabl.C c) f) g.flds) (hk : g.flds ≠ [] ∨ g.mths ≠ [] → ∀ c, Cls K (Tabl.C c)) (ht : g.told = true → ToldAll g P w K mg base) (k : Nat) : TabOk g P w K mg base (run Γ k) (4 * k) :=
  tab_ok ⟨fun n x ks h => hd.get h, fun x d h => hg.mem (lookup_mem h), fun x h => hb.mem h, fun x h => ⟨he.mem h⟩, fun x c n ks h => hc.mem (lookup_mem h), fun m ms h c n hn => (hm.mem (lookup_mem h)).mem (lookup_mem hn), fun f h => hf.mem h, hk, ht⟩ k
end VL
namespace VL
open PySem PySem.Spec PyProof.Rows L2
mutual
def conIn (K : PySem.W.Frag) : Nat → Value → D → Bool
  | _, .none, .none => true
  | _, .bool b, .bool c => b == c
  | _, .int i _, .int j => decide (i = j)
  | _, .str x _, .str y => decide (x = y)
  | n + 1, .ref a, .tuple ds => match K.lookup a with
    | some ⟨.type c, _, .seq its _, _⟩ => decide (c = "tuple") && decide (its.size ≤ 1000) && conAll K n its.toList ds
    | _ => false
  | _, _, _ => false
def conAll (K : PySem.W.Frag) : Nat → List Value → List D → Bool
  | _, [], [] => true
  | n + 1, u :: us, d :: ds => conIn K n u d && conAll K n us ds
  | _, _, _ => false
end
mutual
theorem conIn_ok {K : PySem.W.Frag} : ∀ {n : Nat} {u : Value} {d : D}, conIn K n u d = true → ∃ v, RelV v u ∧ ∀ F, Rp K F v d
  | n, u, d, h => by
    unfold conIn at h
    split at h
    · exact ⟨.non, rfl, fun _ => .non⟩
    · rw [beq_iff_eq] at h; subst h; exact ⟨.bl _, rfl, fun _ => .bl _⟩
    · have := of_decide_eq_true h; subst this; exact ⟨.int _, ⟨_, rfl⟩, fun _ => .int _⟩
    · have := of_decide_eq_true h; subst this; exact ⟨.str _, ⟨_, rfl⟩, fun _ => .str _⟩
    · split at h
      · next c _ its m _ e =>
        rw [Bool.and_eq_true, Bool.and_eq_true] at h
        obtain ⟨⟨h1, h2⟩, h3⟩ := h
        have h1 := of_decide_eq_true h1
        have h2 := of_decide_eq_true h2
        subst h1
        obtain ⟨vs, r1, r2⟩ := conAll_ok h3
        exact ⟨.ref _, rfl, fun F => .tup (.inr ⟨_, its, m, e, rfl, rfl, Nat.le_trans h2 (by decide), r1⟩) (r2 F)⟩
      · cases h
    · cases h
theorem conAll_ok {K : PySem.W.Frag} : ∀ {n : Nat} {us : List Value} {ds : List D}, conAll K n us ds = true → ∃ vs, Vals vs us ∧ ∀ F, Rps K F vs ds
  | n, us, ds, h => by
    unfold conAll at h
    split at h
    · exact ⟨[], .nil, fun _ => .nil⟩
    · rw [Bool.and_eq_true] at h
      obtain ⟨v, r1, r2⟩ := conIn_ok h.1
      obtain ⟨vs, r3, r4⟩ := conAll_ok h.2
      exact ⟨v :: vs, .cons r1 r3, fun F => .cons (r2 F) (r4 F)⟩
    · cases h
end
theorem con_ok {K : PySem.W.Frag} {mg : Str → Option Value} {x : Str} {u : Value} {d : D} {n : Nat} (h1 : mg x = some u) (h2 : conIn K n u d = true) : ∃ v u, mg x = some u ∧ RelV v u ∧ ∀ F, Rp K F v d :=
  let ⟨v, a, b⟩ := conIn_ok h2
  ⟨v, u, h1, a, b⟩
end VL
set_option maxHeartbeats 2000000
namespace VL
open PySem PySem.Spec PyProof.Rows L2
variable [Tabl]
omit [Tabl] in
theorem ints_lay : ∀ ns : List Int, PyData.canLayAll0 (ns.map PyData.int) = true
  | [] => rfl
  | n :: ns => by simp [PyData.canLayAll0, PyData.canLay0, ints_lay ns]
omit [Tabl] in
theorem ints_depth : ∀ ns : List Int, PyData.depthAll (ns.map PyData.int) ≤ 1
  | [] => by simp [PyData.depthAll]
  | n :: ns => by
    have := ints_depth ns
    simp only [List.map_cons, PyData.depthAll, PyData.depth]
    omega
omit [Tabl] in
theorem ints_shaped (ns : List Int) : SeqAt.shaped (.list (ns.map PyData.int)) = true := by
  have h1 := ints_lay ns
  have h2 := ints_depth ns
  unfold SeqAt.shaped
  rw [Bool.and_eq_true]
  refine ⟨by simpa [PyData.canLay0] using h1, decide_eq_true ?_⟩
  simp only [PyData.depth]
  omega
omit [Tabl] in
theorem ints_dp {K : PySem.W.Frag} {H : Hp} : ∀ ns : List Int, DpAll K H (ns.map V.int) (ns.map PyData.int)
  | [] => .nil
  | n :: ns => .cons (.int n) (ints_dp ns)
def spCell (K : PySem.W.Frag) : Sp := fun vs H Q _ => ∃ (a : Addr) (ns : List Int) (k : Int), vs = [.ref a, .int k] ∧ SqL K H a (ns.map V.int) ∧ ns.length ≤ 63 ∧ 0 ≤ k ∧ ∀ (c : Int) H', Same H H' → Q (.int c) H'
def Rounds (H : Hp) (D : Addr) (as : List Addr) : Prop := H D = some (.lst (as.map V.ref)) ∧ as.Nodup ∧ D ∉ as ∧ as.length ≤ 100 ∧ ∀ a ∈ as, ∃ c : Int, H a = some (.lst [.int c, .int 0])
def spRounds (K : PySem.W.Frag) : Sp := fun vs H Q _ => ∃ (a : Addr) (ns : List Int) (m : Int), vs = [.ref a, .int m] ∧ SqL K H a (ns.map V.int) ∧ ns.length ≤ 63 ∧ 0 ≤ m ∧ m ≤ 63 ∧
  ∀ D as H', Same H H' → Rounds H' D as → Q (.ref D) H'
def spLaw (K : PySem.W.Frag) : Sp := fun vs H Q _ => ∃ (a : Addr) (ns : List Int), vs = [.ref a] ∧ SqL K H a (ns.map V.int) ∧ ns.length ≤ 63 ∧ LamX.Tabs Tabl.T H ∧ ∀ H', Q (.bl true) H'
def dice (c k : Int) : Ob := .lst [.int c, .int k]
def roundS (n ds : Nat) (c : Int) : S := (List.replicate n none).set ds (some (.ob false (dice c 0)))
omit [Tabl] in
theorem roundS_get {n ds i : Nat} {c : Int} {x : SV} (hlt : ds < n) (q : (roundS n ds c)[i]? = some (some x)) : i = ds ∧ x = .ob false (dice c 0) := by
  unfold roundS at q
  by_cases hi : i = ds
  · subst hi
    rw [List.getElem?_set_self (by simpa using hlt)] at q
    cases q
    exact ⟨rfl, rfl⟩
  · rw [List.getElem?_set_ne (Ne.symm hi)] at q
    have := List.mem_of_getElem? q
    rw [List.mem_replicate] at this
    cases this.2
def emptyHp : Hp := fun _ => none
def onlyAt {α : Type} (z : α) (ds : Nat) (x : α) (i : Nat) : α := if i = ds then x else z
omit [Tabl] in
theorem onlyAt_self {α : Type} {z x : α} {ds : Nat} : onlyAt z ds x ds = x := by unfold onlyAt; rw [if_pos rfl]
theorem rel_round {K : PySem.W.Frag} {σ : L2.St} {H : Hp} {n ds : Nat} {a : Addr} {c : Int} (hl : σ.length = n) (hv : σ[ds]? = some (some (.ref a))) (hH : H a = some (.lst [.int c, .int 0])) (hT : LamX.Tabs Tabl.T H) :
    Rel K ⟨onlyAt [] ds [a], onlyAt none ds (some a), strip H, emptyHp⟩ emptyHp σ H (roundS n ds c) (onlyAt [] ds [a]) := by
  have hlt : ds < n := by
    have := (List.getElem?_eq_some_iff.mp hv).1
    omega
  refine ⟨fun b o q => (nomatch q), fun b o q => ⟨o, strip_some q⟩, fun b o q _ => (strip_some q).1, Same.refl _, fun b o _ _ => rfl, fun i x q => ?_, fun i w o q b hb => ?_, fun i j w w' o o' hn q1 q2 => ?_, fun i b q => ?_, by unfold roundS; simp [hl], ⟨fun b o q => (strip_some q).2, fun b o q => (nomatch q), hT⟩⟩
  · obtain ⟨rfl, rfl⟩ := roundS_get hlt q
    exact ⟨_, hv, a, rfl, onlyAt_self, _, hH, .cons (.int _) (.cons (.int _) .nil)⟩
  · obtain ⟨rfl, e⟩ := roundS_get hlt q
    cases e
    exact ⟨rfl, .inr ⟨rfl, hb⟩⟩
  · obtain ⟨rfl, _⟩ := roundS_get hlt q1
    obtain ⟨rfl, _⟩ := roundS_get hlt q2
    exact absurd rfl hn
  · have q : onlyAt none ds (some a) i = some b := q
    unfold onlyAt at q
    split at q
    · next e =>
      cases q
      subst e
      exact ⟨hv, dice c 0, by unfold roundS; rw [List.getElem?_set_self (by simpa using hlt)]⟩
    · cases q
theorem law_for {K : PySem.W.Frag} {mg : Str → Option Value} {W : WX} {cf : CF} {body : IS} {n ds : Nat} {Dd : Addr} {as : List Addr} {σ : L2.St} {H : Hp} {Dn : Ends} (hall : ∀ c : Int, ∃ s', evS cf body (roundS n ds c) = .ok .next s' ∧ s'.length = n)
    (hR : Rounds H Dd as) (hT : LamX.Tabs Tabl.T H) (hl : σ.length = n) (hds : ds < n) (hend : ∀ σ' H', Dn.nx σ' H') :
    ∃ W' : Nat → Nat → L2.St → Hp → Prop, (∃ m, W' 0 m σ H) ∧ ∀ i m σ H, W' i m σ H →
      ((Itl K Dd).stop i H ∧ Dn.nx σ H) ∨ ((Itl K Dd).go i H ∧ ∃ Nx : L2.St → Hp → Prop, (∀ σ' H', Nx σ' H' → ∃ m', m' < m ∧ W' (i + 1) m' σ' H') ∧ ∀ x H', (Itl K Dd).yld i H x H' → gName ds x σ H' fun σ2 H2 => tS K mg W (evS cf body) { Dn with nx := Nx, ct := Nx, bk := Dn.nx } σ2 H2) := by
  obtain ⟨h1, h2, h3, h4, h5⟩ := hR
  refine ⟨fun i m σ H => m = as.length - i ∧ i ≤ as.length ∧ σ.length = n ∧ H Dd = some (.lst (as.map V.ref)) ∧ (∀ (j : Nat) a, i ≤ j → as[j]? = some a → ∃ c : Int, H a = some (.lst [.int c, .int 0])) ∧ LamX.Tabs Tabl.T H, ⟨_, rfl, Nat.zero_le _, hl, h1, fun j a _ hj => h5 a (List.mem_of_getElem? hj), hT⟩, ?_⟩
  rintro i m σi Hi ⟨rfl, hi, hli, hD, hc, hTi⟩
  by_cases hlt : i < as.length
  · have ha : as[i]? = some as[i] := List.getElem?_eq_getElem hlt
    obtain ⟨c, hc0⟩ := hc i _ (Nat.le_refl _) ha
    have hx : (as.map V.ref)[i]? = some (.ref as[i]) := by rw [List.getElem?_map, ha]; rfl
    refine .inr ⟨⟨_, _, SqL.of hD, hx⟩, fun σ' H' => σ'.length = n ∧ H' Dd = some (.lst (as.map V.ref)) ∧ (∀ (j : Nat) a, i + 1 ≤ j → as[j]? = some a → ∃ c : Int, H' a = some (.lst [.int c, .int 0])) ∧ LamX.Tabs Tabl.T H', fun σ' H' ⟨k1, k2, k3, k4⟩ => ⟨_, by omega, rfl, hlt, k1, k2, k3, k4⟩, fun x H' hy => ?_⟩
    obtain ⟨rfl, hy⟩ := hy
    have e := (hy _ (SqL.of hD)).symm.trans hx
    cases e
    obtain ⟨s', es, el⟩ := hall c
    refine ⟨_, emptyHp, roundS n ds c, _, rel_round (by rw [List.length_set]; exact hli) (List.getElem?_set_self (by omega)) hc0 hTi, ?_⟩
    rw [es]
    have out : ∀ b, b ≠ as[i] → ∀ j, b ∉ onlyAt [] ds [as[i]] j := fun b hb j z => by
      unfold onlyAt at z
      split at z
      · exact hb (by simpa using z)
      · cases z
    refine fun σ4 H4 F4 φ4 _ r4 => ⟨?_, ?_, fun j a hj ja => ?_, r4.tt.tb⟩
    · rw [← r4.len]; exact el
    · exact r4.old Dd _ (strip_of hD (nt_lst _)) (out Dd fun e => h3 (by rw [e]; exact List.getElem_mem hlt))
    · obtain ⟨c', hc'⟩ := hc j a (by omega) ja
      refine ⟨c', r4.old a _ (strip_of hc' (nt_lst _)) (out a fun e => ?_)⟩
      subst e
      have := (List.getElem?_inj hlt h2).mp (ha.trans ja.symm)
      omega
  · have hi' : i = as.length := by omega
    subst hi'
    exact .inl ⟨⟨_, SqL.of hD, by rw [List.length_map]; exact Nat.le_refl _⟩, hend _ _⟩
end VL
namespace VL
open PySem PySem.Spec PyProof.Rows L2
def bcase {α : Type} (c : Bool) (x y : M α) : M α := match c with
  | true => x
  | false => y
def fcase {α : Type} (f : Fl) (n : M α) (r : D → M α) (b c : M α) : M α := match f with
  | .next => n
  | .ret d => r d
  | .brk => b
  | .cont => c
def negD : D → M RV
  | .int i => pureM (.d (.int (-i)))
  | _ => stuckM
section
variable {α β γ : Type} {cf : CF} {s : S} {k : α → M β} {kl : List RV → M β} {kf : Fl → M β}
theorem rb_ok (a : α) (s : S) : R.bind (.ok a s) k = k a s := rfl
theorem rb_exc (c : Str) (s : S) : R.bind (.exc c s : R α) k = .exc c s := rfl
theorem rb_stuck : R.bind (.stuck : R α) k = .stuck := rfl
theorem rb_bindM (m : M γ) (f : γ → M α) (s : S) : R.bind (bindM m f s) k = R.bind (m s) fun a s => R.bind (f a s) k := by
  unfold bindM R.bind
  cases m s <;> rfl
theorem rb_pure (a : α) (s : S) : R.bind (pureM a s) k = k a s := rfl
theorem rb_stuckM (s : S) : R.bind ((stuckM : M α) s) k = .stuck := rfl
theorem rb_self (r : R α) : R.bind r (fun a s => .ok a s) = r := by cases r <;> rfl
theorem rb_some (a : α) (s : S) : R.bind (optM (some a) s) k = k a s := rfl
theorem rb_none (s : S) : R.bind ((optM none : M α) s) k = .stuck := rfl
theorem rb_one {r : RV} {k : RV → M β} : R.bind (one [r] s) k = k r s := rfl
theorem rb_one1 {m : M (List RV)} {k : D → M β} : R.bind (one1 m s) k = R.bind (m s) fun l s => R.bind (one l s) fun r s => R.bind (optM r.toD s) k := by
  unfold one1; rw [rb_bindM]
  congr 1; funext l s; rw [rb_bindM]
theorem td_d {x : D} {k : D → M β} : R.bind (optM (RV.toD (.d x)) s) k = k x s := rfl
theorem td_l {xs : List D} {k : D → M β} : R.bind (optM (RV.toD (.ob (.lst xs))) s) k = k (.list xs) s := rfl
theorem arg_d {x : D} : RV.arg (.d x) = .d x := rfl
theorem arg_l {xs : List D} : RV.arg (.ob (.lst xs)) = .d (.list xs) := rfl
theorem arg_b {p : Pl} : RV.arg (.bor p) = .bor p := rfl
theorem tds0 {k : List D → M β} : R.bind (optM (toDs []) s) k = k [] s := rfl
theorem tdsS {x : D} {r : List RV} {k : List D → M β} : R.bind (optM (toDs (.d x :: r)) s) k = R.bind (optM (toDs r) s) fun ds s => k (x :: ds) s := by
  show R.bind (optM ((toDs r).map (x :: ·)) s) k = _
  cases toDs r <;> rfl
theorem rb_asC {b : Bool} {k : Bool → M β} : R.bind (asC [.d (.bool b)] s) k = k b s := rfl
theorem rb_bt {c : Bool} {x y : M α} (h : c = true) : R.bind (bcase c x y s) k = R.bind (x s) k := by subst h; rfl
theorem rb_bf {c : Bool} {x y : M α} (h : c = false) : R.bind (bcase c x y s) k = R.bind (y s) k := by subst h; rfl
theorem rb_bc {c : Bool} {x y : M α} : R.bind (bcase c x y s) k = cond c (R.bind (x s) k) (R.bind (y s) k) := by cases c <;> rfl
theorem rb_fn {n : M α} {r : D → M α} {b c : M α} : R.bind (fcase .next n r b c s) k = R.bind (n s) k := rfl
theorem rb_fr {d : D} {n : M α} {r : D → M α} {b c : M α} : R.bind (fcase (.ret d) n r b c s) k = R.bind (r d s) k := rfl
theorem rb_fb {n : M α} {r : D → M α} {b c : M α} : R.bind (fcase .brk n r b c s) k = R.bind (b s) k := rfl
theorem rb_fc {n : M α} {r : D → M α} {b c : M α} : R.bind (fcase .cont n r b c s) k = R.bind (c s) k := rfl
def tkO (o : Option (Option SV)) (i : Nat) : M RV := fun s => match o with
  | some (some (.d x)) => .ok (.d x) s
  | some (some (.ob true (.lst xs))) => .ok (.d (.list xs)) (s.set i (some (.d (.list xs))))
  | some (some (.clo n e)) => .ok (.clo n e) s
  | _ => .stuck
def pkO (o : Option (Option SV)) : M D := fun s => match o with
  | some (some (.d x)) => .ok x s
  | some (some (.ob _ (.lst xs))) => .ok (.list xs) s
  | _ => .stuck
theorem rb_take {i : Nat} {k : RV → M β} : R.bind (take i s) k = R.bind (tkO s[i]? i s) k := rfl
theorem peek_eq (i : Nat) (s : S) : peek ⟨i, none⟩ s = pkO s[i]? s := by
  unfold peek atPl pkO
  dsimp only
  cases s[i]? with
  | none => rfl
  | some o =>
    cases o with
    | none => rfl
    | some v =>
      cases v with
      | d x => rfl
      | clo n e => rfl
      | ob w o => cases o <;> rfl
theorem rb_peek {i : Nat} {k : D → M β} : R.bind (peek ⟨i, none⟩ s) k = R.bind (pkO s[i]? s) k := by rw [peek_eq]
theorem tk0 {x : Option SV} {l : S} {j : Nat} {k : RV → M β} : R.bind (tkO (x :: l)[0]? j s) k = R.bind (tkO (some x) j s) k := rfl
theorem tkS {x : Option SV} {l : S} {i j : Nat} {k : RV → M β} : R.bind (tkO (x :: l)[i + 1]? j s) k = R.bind (tkO l[i]? j s) k := rfl
theorem pk0 {x : Option SV} {l : S} {k : D → M β} : R.bind (pkO (x :: l)[0]? s) k = R.bind (pkO (some x) s) k := rfl
theorem pkS {x : Option SV} {l : S} {i : Nat} {k : D → M β} : R.bind (pkO (x :: l)[i + 1]? s) k = R.bind (pkO l[i]? s) k := rfl
theorem tk_d {x : D} {j : Nat} {k : RV → M β} : R.bind (tkO (some (some (.d x))) j s) k = k (.d x) s := rfl
theorem tk_o {xs : List D} {j : Nat} {k : RV → M β} : R.bind (tkO (some (some (.ob true (.lst xs)))) j s) k = k (.d (.list xs)) (s.set j (some (.d (.list xs)))) := rfl
theorem pk_d {x : D} {k : D → M β} : R.bind (pkO (some (some (.d x))) s) k = k x s := rfl
theorem pk_o {w : Bool} {xs : List D} {k : D → M β} : R.bind (pkO (some (some (.ob w (.lst xs)))) s) k = k (.list xs) s := rfl
theorem e_nil : R.bind (ev cf .nil s) kl = kl [] s := rfl
theorem e_cons {a b : IE} : R.bind (ev cf (.cons a b) s) kl = R.bind (ev cf a s) fun x s => R.bind (one x s) fun r s => R.bind (ev cf b s) fun xs s => kl (r.arg :: xs) s := by
  show R.bind (bindM (ev cf a) (fun x => bindM (one x) fun r => bindM (ev cf b) fun xs => pureM (r.arg :: xs)) s) kl = _
  rw [rb_bindM]; congr 1; funext l s; rw [rb_bindM]; congr 1; funext r s; rw [rb_bindM]; rfl
theorem e_var {i : Nat} : R.bind (ev cf (.var i) s) kl = R.bind (take i s) fun r s => kl [r] s := by
  show R.bind (bindM (take i) (fun d => pureM [d]) s) kl = _
  rw [rb_bindM]; rfl
theorem e_bor {i : Nat} : R.bind (ev cf (.bor i) s) kl = R.bind (borM i s) kl := rfl
theorem e_cst {d : D} : R.bind (ev cf (.cst d) s) kl = kl [.d d] s := rfl
theorem e_glb {x : Str} {d : D} : R.bind (ev cf (.glb x d) s) kl = kl [.d d] s := rfl
theorem rb_guard {n : Nat} {k : Unit → M β} (h : okLen n = true) : R.bind (optM (guardL n) s) k = k () s := by unfold guardL; rw [if_pos h]; rfl
theorem gd0 {k : Unit → M β} : R.bind (optM (guardL ([] : List D).length) s) k = k () s := rfl
theorem gd1 {a : D} {k : Unit → M β} : R.bind (optM (guardL ([a] : List D).length) s) k = k () s := rfl
theorem gd2 {a b : D} {k : Unit → M β} : R.bind (optM (guardL ([a, b] : List D).length) s) k = k () s := rfl
theorem gd3 {a b c : D} {k : Unit → M β} : R.bind (optM (guardL ([a, b, c] : List D).length) s) k = k () s := rfl
theorem gd4 {a b c d : D} {k : Unit → M β} : R.bind (optM (guardL ([a, b, c, d] : List D).length) s) k = k () s := rfl
theorem gd5 {a b c d e : D} {k : Unit → M β} : R.bind (optM (guardL ([a, b, c, d, e] : List D).length) s) k = k () s := rfl
theorem gd6 {a b c d e f : D} {k : Unit → M β} : R.bind (optM (guardL ([a, b, c, d, e, f] : List D).length) s) k = k () s := rfl
theorem gd7 {a b c d e f g : D} {k : Unit → M β} : R.bind (optM (guardL ([a, b, c, d, e, f, g] : List D).length) s) k = k () s := rfl
theorem gd8 {a b c d e f g h : D} {k : Unit → M β} : R.bind (optM (guardL ([a, b, c, d, e, f, g, h] : List D).length) s) k = k () s := rfl
theorem e_tup {l : IE} : R.bind (ev cf (.tup l) s) kl = R.bind (ev cf l s) fun xs s => R.bind (optM (toDs xs) s) fun ds s => R.bind (optM (guardL ds.length) s) fun _ s => kl [.d (.tuple ds)] s := by
  show R.bind (bindM (ev cf l) (fun xs => bindM (optM (toDs xs)) fun ds => bindM (optM (guardL ds.length)) fun _ => pureM [.d (.tuple ds)]) s) kl = _
  rw [rb_bindM]; congr 1; funext l s; rw [rb_bindM]; congr 1; funext l s; rw [rb_bindM]; rfl
theorem e_lst {l : IE} : R.bind (ev cf (.lst l) s) kl = R.bind (ev cf l s) fun xs s => R.bind (optM (toDs xs) s) fun ds s => R.bind (optM (guardL ds.length) s) fun _ s => kl [.ob (.lst ds)] s := by
  show R.bind (bindM (ev cf l) (fun xs => bindM (optM (toDs xs)) fun ds => bindM (optM (guardL ds.length)) fun _ => pureM [.ob (.lst ds)]) s) kl = _
  rw [rb_bindM]; congr 1; funext l s; rw [rb_bindM]; congr 1; funext l s; rw [rb_bindM]; rfl
theorem e_op {o : Bop} {a b : IE} : R.bind (ev cf (.op o a b) s) kl = R.bind (one1 (ev cf a) s) fun x s => R.bind (one1 (ev cf b) s) fun y s => R.bind (optM (bop o (.d x) (.d y)) s) fun r s => kl [r] s := by
  show R.bind (bindM (one1 (ev cf a)) (fun x => bindM (one1 (ev cf b)) fun y => bindM (optM (bop o (.d x) (.d y))) fun r => pureM [r]) s) kl = _
  rw [rb_bindM]; congr 1; funext l s; rw [rb_bindM]; congr 1; funext l s; rw [rb_bindM]; rfl
theorem e_neg {a : IE} : R.bind (ev cf (.neg a) s) kl = R.bind (one1 (ev cf a) s) fun x s => R.bind (negD x s) fun r s => kl [r] s := by
  show R.bind (bindM (one1 (ev cf a)) (fun x => match x with | .int i => pureM [.d (.int (-i))] | _ => stuckM) s) kl = _
  rw [rb_bindM]; congr 1; funext l s; cases l <;> rfl
theorem e_opB {o : Bop} {p : Pl} {b : IE} : R.bind (ev cf (.opB o p b) s) kl = R.bind (peek p s) fun _ s => R.bind (one1 (ev cf b) s) fun y s => R.bind (peek p s) fun x s => R.bind (optM (bop o (.d x) (.d y)) s) fun r s => kl [r] s := by
  show R.bind (bindM (peek p) (fun _ => bindM (one1 (ev cf b)) fun y => bindM (peek p) fun x => bindM (optM (bop o (.d x) (.d y))) fun r => pureM [r]) s) kl = _
  rw [rb_bindM]; congr 1; funext l s; rw [rb_bindM]; congr 1; funext l s; rw [rb_bindM]; congr 1; funext l s; rw [rb_bindM]; rfl
theorem e_cmp {o : Cop} {a b : IE} : R.bind (ev cf (.cmp o a b) s) kl = R.bind (one1 (ev cf a) s) fun x s => R.bind (one1 (ev cf b) s) fun y s => R.bind (optM (cop o x y) s) fun c s => kl [.d (.bool c)] s := by
  show R.bind (bindM (one1 (ev cf a)) (fun x => bindM (one1 (ev cf b)) fun y => bindM (optM (cop o x y)) fun c => pureM [.d (.bool c)]) s) kl = _
  rw [rb_bindM]; congr 1; funext l s; rw [rb_bindM]; congr 1; funext l s; rw [rb_bindM]; rfl
theorem e_cmpL {o : Cop} {p : Pl} {b : IE} : R.bind (ev cf (.cmpL o p b) s) kl = R.bind (peek p s) fun _ s => R.bind (one1 (ev cf b) s) fun y s => R.bind (peek p s) fun x s => R.bind (optM (cop o x y) s) fun c s => kl [.d (.bool c)] s := by
  show R.bind (bindM (peek p) (fun _ => bindM (one1 (ev cf b)) fun y => bindM (peek p) fun x => bindM (optM (cop o x y)) fun c => pureM [.d (.bool c)]) s) kl = _
  rw [rb_bindM]; congr 1; funext l s; rw [rb_bindM]; congr 1; funext l s; rw [rb_bindM]; congr 1; funext l s; rw [rb_bindM]; rfl
theorem e_cmpR {o : Cop} {p : Pl} {a : IE} : R.bind (ev cf (.cmpR o a p) s) kl = R.bind (one1 (ev cf a) s) fun x s => R.bind (peek p s) fun y s => R.bind (optM (cop o x y) s) fun c s => kl [.d (.bool c)] s := by
  show R.bind (bindM (one1 (ev cf a)) (fun x => bindM (peek p) fun y => bindM (optM (cop o x y)) fun c => pureM [.d (.bool c)]) s) kl = _
  rw [rb_bindM]; congr 1; funext l s; rw [rb_bindM]; congr 1; funext l s; rw [rb_bindM]; rfl
theorem e_chain {o o' : Cop} {a b c : IE} : R.bind (ev cf (.chain o o' a b c) s) kl = R.bind (one1 (ev cf a) s) fun x s => R.bind (one1 (ev cf b) s) fun y s => R.bind (optM (cop o x y) s) fun q s =>
    R.bind (bcase q (bindM (one1 (ev cf c)) fun z => bindM (optM (cop o' y z)) fun q => pureM [.d (.bool q)]) (pureM [.d (.bool false)]) s) kl := by
  show R.bind (bindM (one1 (ev cf a)) (fun x => bindM (one1 (ev cf b)) fun y => bindM (optM (cop o x y)) fun q => bcase q (bindM (one1 (ev cf c)) fun z => bindM (optM (cop o' y z)) fun q => pureM [.d (.bool q)]) (pureM [.d (.bool false)])) s) kl = _
  rw [rb_bindM]; congr 1; funext l s; rw [rb_bindM]; congr 1; funext l s; rw [rb_bindM]
theorem e_not {a : IE} : R.bind (ev cf (.not a) s) kl = R.bind (bindM (ev cf a) asC s) fun b s => kl [.d (.bool !b)] s := by
  show R.bind (bindM (bindM (ev cf a) asC) (fun b => pureM [.d (.bool !b)]) s) kl = _
  rw [rb_bindM]; rfl
theorem e_and {a b : IE} : R.bind (ev cf (.and a b) s) kl = R.bind (bindM (ev cf a) asC s) fun c s => R.bind (bcase c (ev cf b) (pureM [.d (.bool false)]) s) kl := by
  show R.bind (bindM (bindM (ev cf a) asC) (fun c => bcase c (ev cf b) (pureM [.d (.bool false)])) s) kl = _
  rw [rb_bindM]
theorem e_or {a b : IE} : R.bind (ev cf (.or a b) s) kl = R.bind (bindM (ev cf a) asC s) fun c s => R.bind (bcase c (pureM [.d (.bool true)]) (ev cf b) s) kl := by
  show R.bind (bindM (bindM (ev cf a) asC) (fun c => bcase c (pureM [.d (.bool true)]) (ev cf b)) s) kl = _
  rw [rb_bindM]
theorem e_ife {t a b : IE} : R.bind (ev cf (.ife t a b) s) kl = R.bind (bindM (ev cf t) asC s) fun c s => R.bind (bcase c (ev cf a) (ev cf b) s) kl := by
  show R.bind (bindM (bindM (ev cf t) asC) (fun c => bcase c (ev cf a) (ev cf b)) s) kl = _
  rw [rb_bindM]
theorem e_call {f : Nat} {l : IE} : R.bind (ev cf (.call f l) s) kl = R.bind (ev cf l s) fun xs s => R.bind (callM cf f xs s) kl := by
  show R.bind (bindM (ev cf l) (fun xs => callM cf f xs) s) kl = _
  rw [rb_bindM]
def fromRC0 : RC → M (List RV)
  | .ok d [] => fun s => .ok [.d d] s
  | .exc c [] => fun s => .exc c s
  | _ => stuckM
theorem lend_d (s : S) : ∀ ds : List D, lend s (ds.map RV.d) = some (ds.map AV.d)
  | [] => rfl
  | d :: ds => by
    show (lend s (ds.map RV.d)).map _ = _
    rw [lend_d s ds]; rfl
theorem back_d (s : S) : ∀ ds : List D, back (ds.map RV.d) [] s = some s
  | [] => rfl
  | d :: ds => back_d s ds
theorem back_d1 (s : S) (o : Ob) (os : List Ob) : ∀ ds : List D, back (ds.map RV.d) (o :: os) s = none
  | [] => rfl
  | d :: ds => back_d1 s o os ds
theorem bors_d : ∀ ds : List D, bors (ds.map RV.d) = []
  | [] => rfl
  | d :: ds => bors_d ds
theorem call_d {f : Nat} (ds : List D) : R.bind (callM cf f (ds.map RV.d) s) kl = R.bind (fromRC0 (cf f (ds.map AV.d)) s) kl := by
  unfold callM
  rw [bors_d, lend_d]
  show R.bind (fromRC (ds.map RV.d) (cf f (ds.map AV.d)) s) kl = _
  cases cf f (ds.map AV.d) with
  | stuck => rfl
  | ok d os =>
    cases os with
    | nil => show R.bind (match back (ds.map RV.d) [] s with | some s' => _ | none => _) kl = _; rw [back_d]; rfl
    | cons o os => show R.bind (match back (ds.map RV.d) (o :: os) s with | some s' => _ | none => _) kl = _; rw [back_d1]; rfl
  | exc c os =>
    cases os with
    | nil => show R.bind (match back (ds.map RV.d) [] s with | some s' => _ | none => _) kl = _; rw [back_d]; rfl
    | cons o os => show R.bind (match back (ds.map RV.d) (o :: os) s with | some s' => _ | none => _) kl = _; rw [back_d1]; rfl
theorem cl0 {f : Nat} : R.bind (callM cf f [] s) kl = R.bind (fromRC0 (cf f []) s) kl := call_d []
theorem cl1 {f : Nat} {a : D} : R.bind (callM cf f [.d a] s) kl = R.bind (fromRC0 (cf f [.d a]) s) kl := call_d [a]
theorem cl2 {f : Nat} {a b : D} : R.bind (callM cf f [.d a, .d b] s) kl = R.bind (fromRC0 (cf f [.d a, .d b]) s) kl := call_d [a, b]
theorem cl3 {f : Nat} {a b c : D} : R.bind (callM cf f [.d a, .d b, .d c] s) kl = R.bind (fromRC0 (cf f [.d a, .d b, .d c]) s) kl := call_d [a, b, c]
theorem cl4 {f : Nat} {a b c d : D} : R.bind (callM cf f [.d a, .d b, .d c, .d d] s) kl = R.bind (fromRC0 (cf f [.d a, .d b, .d c, .d d]) s) kl := call_d [a, b, c, d]
theorem cl5 {f : Nat} {a b c d e : D} : R.bind (callM cf f [.d a, .d b, .d c, .d d, .d e] s) kl = R.bind (fromRC0 (cf f [.d a, .d b, .d c, .d d, .d e]) s) kl := call_d [a, b, c, d, e]
theorem rc0_ok {d : D} : R.bind (fromRC0 (.ok d []) s) kl = kl [.d d] s := rfl
theorem rc0_exc {c : Str} : R.bind (fromRC0 (.exc c []) s) kl = .exc c s := rfl
theorem rc0_if {c : Prop} [Decidable c] {x y : RC} : R.bind (fromRC0 (if c then x else y) s) kl = if c then R.bind (fromRC0 x s) kl else R.bind (fromRC0 y s) kl := by split <;> rfl
theorem e_blt {b : Blt} {l : IE} : R.bind (ev cf (.blt b l) s) kl = R.bind (ev cf l s) fun xs s => R.bind (optM (toDs xs) s) fun ds s => R.bind (optM (blt b ds) s) fun r s => kl [r] s := by
  show R.bind (bindM (ev cf l) (fun xs => bindM (optM (toDs xs)) fun ds => bindM (optM (blt b ds)) fun r => pureM [r]) s) kl = _
  rw [rb_bindM]; congr 1; funext l s; rw [rb_bindM]; congr 1; funext l s; rw [rb_bindM]; rfl
theorem e_bltB {b : Blt} {p : Pl} : R.bind (ev cf (.bltB b p) s) kl = R.bind (peek p s) fun x s => R.bind (optM (blt b [x]) s) fun r s => kl [r] s := by
  show R.bind (bindM (peek p) (fun x => bindM (optM (blt b [x])) fun r => pureM [r]) s) kl = _
  rw [rb_bindM]; congr 1; funext l s; rw [rb_bindM]; rfl
def isiB (d : D) (t : Ty) : Bool := (isiD d t).getD false
theorem e_isi {a : IE} {t : Ty} : R.bind (ev cf (.isi a t) s) kl = R.bind (one1 (ev cf a) s) fun x s => kl [.d (.bool (isiB x t))] s := by
  show R.bind (bindM (one1 (ev cf a)) (fun x => bindM (optM (isiD x t)) fun b => pureM [.d (.bool b)]) s) kl = _
  rw [rb_bindM]; congr 1; funext l s; rw [rb_bindM]
  cases l <;> cases t <;> rfl
theorem e_ix {a b : IE} : R.bind (ev cf (.ix a b) s) kl = R.bind (one1 (ev cf a) s) fun x s => R.bind (one1 (ev cf b) s) fun y s => R.bind (optM (ixD x y) s) fun d s => kl [.d d] s := by
  show R.bind (bindM (one1 (ev cf a)) (fun x => bindM (one1 (ev cf b)) fun y => bindM (optM (ixD x y)) fun d => pureM [.d d]) s) kl = _
  rw [rb_bindM]; congr 1; funext l s; rw [rb_bindM]; congr 1; funext l s; rw [rb_bindM]; rfl
theorem e_ixB {p : Pl} {b : IE} : R.bind (ev cf (.ixB p b) s) kl = R.bind (peek p s) fun _ s => R.bind (one1 (ev cf b) s) fun y s => R.bind (peek p s) fun x s => R.bind (optM (ixD x y) s) fun d s => kl [.d d] s := by
  show R.bind (bindM (peek p) (fun _ => bindM (one1 (ev cf b)) fun y => bindM (peek p) fun x => bindM (optM (ixD x y)) fun d => pureM [.d d]) s) kl = _
  rw [rb_bindM]; congr 1; funext l s; rw [rb_bindM]; congr 1; funext l s; rw [rb_bindM]; congr 1; funext l s; rw [rb_bindM]; rfl
theorem rb_partF {m : M (List RV)} {k : Option Int → M β} : R.bind (partB false m s) k = k none s := rfl
theorem rb_partT {m : M (List RV)} {k : Option Int → M β} : R.bind (partB true m s) k = R.bind (m s) fun l s => R.bind (part l s) k := by
  show R.bind (bindM m part s) k = _
  rw [rb_bindM]
theorem rb_part {i : Int} {k : Option Int → M β} : R.bind (part [.d (.int i)] s) k = k (some i) s := rfl
theorem e_slc {bl bh : Bool} {a lo hi : IE} : R.bind (ev cf (.slc bl bh a lo hi) s) kl = R.bind (one1 (ev cf a) s) fun x s => R.bind (partB bl (ev cf lo) s) fun l s => R.bind (partB bh (ev cf hi) s) fun h s => R.bind (optM (slcD x l h) s) fun r s => kl [r] s := by
  show R.bind (bindM (one1 (ev cf a)) (fun x => bindM (partB bl (ev cf lo)) fun l => bindM (partB bh (ev cf hi)) fun h => bindM (optM (slcD x l h)) fun r => pureM [r]) s) kl = _
  rw [rb_bindM]; congr 1; funext l s; rw [rb_bindM]; congr 1; funext l s; rw [rb_bindM]; congr 1; funext l s; rw [rb_bindM]; rfl
theorem e_slcB {bl bh : Bool} {p : Pl} {lo hi : IE} : R.bind (ev cf (.slcB bl bh p lo hi) s) kl = R.bind (peek p s) fun _ s => R.bind (partB bl (ev cf lo) s) fun l s => R.bind (partB bh (ev cf hi) s) fun h s => R.bind (peek p s) fun x s => R.bind (optM (slcD x l h) s) fun r s => kl [r] s := by
  show R.bind (bindM (peek p) (fun _ => bindM (partB bl (ev cf lo)) fun l => bindM (partB bh (ev cf hi)) fun h => bindM (peek p) fun x => bindM (optM (slcD x l h)) fun r => pureM [r]) s) kl = _
  rw [rb_bindM]; congr 1; funext l s; rw [rb_bindM]; congr 1; funext l s; rw [rb_bindM]; congr 1; funext l s; rw [rb_bindM]; congr 1; funext l s; rw [rb_bindM]; rfl
theorem rb_itM {kd : Itk} {m : M (List RV)} {k : List D → M β} : R.bind (itM kd m s) k = R.bind (m s) fun xs s => R.bind (optM (toDs xs) s) fun ds s => R.bind (optM (itD kd ds) s) k := by
  show R.bind (bindM m (fun xs => bindM (optM (toDs xs)) fun ds => optM (itD kd ds)) s) k = _
  rw [rb_bindM]; congr 1; funext l s; rw [rb_bindM]
def lcR (fz vs : List Nat) (tg : Tg) (c : M Bool) (e : M (List RV)) (ys : List D) : M (List RV) := fun s => bindM (lcM vs tg c e ys) (fun zs => pureM [.ob (.lst zs)]) (frzAll fz s)
theorem e_lc {fz vs : List Nat} {tg : Tg} {kd : Itk} {l c e : IE} : R.bind (ev cf (.lc fz vs tg kd l c e) s) kl = R.bind (itM kd (ev cf l) s) fun ys s => R.bind (lcR fz vs tg (bindM (ev cf c) asC) (ev cf e) ys s) kl := by
  show R.bind (bindM (itM kd (ev cf l)) (fun ys => lcR fz vs tg (bindM (ev cf c) asC) (ev cf e) ys) s) kl = _
  rw [rb_bindM]
theorem lcR_of {fz vs : List Nat} {tg : Tg} {c : M Bool} {e : M (List RV)} {ys zs : List D} {s' : S} (h : lcM vs tg c e ys (frzAll fz s) = .ok zs s') : R.bind (lcR fz vs tg c e ys s) kl = kl [.ob (.lst zs)] s' := by
  unfold lcR bindM
  rw [h]; rfl
theorem t_skip : R.bind (evS cf .skip s) kf = kf .next s := rfl
theorem t_seq {a b : IS} : R.bind (evS cf (.seq a b) s) kf = R.bind (evS cf a s) fun f s => R.bind (fcase f (evS cf b) (fun d => pureM (.ret d)) (pureM .brk) (pureM .cont) s) kf := by
  show R.bind (bindM (evS cf a) (fun f => match f with | .next => evS cf b | f => pureM f) s) kf = _
  rw [rb_bindM]; congr 1; funext f s; cases f <;> rfl
def asgK (i : Nat) (v : SV) : M Fl := fun s => stM (setSlot s i v)
theorem t_asg {i : Nat} {e : IE} : R.bind (evS cf (.asg i e) s) kf = R.bind (ev cf e s) fun l s => R.bind (one l s) fun r s => R.bind (optM r.toSV s) fun v s => R.bind (asgK i v s) kf := by
  show R.bind (bindM (ev cf e) (fun l => bindM (one l) fun r => bindM (optM r.toSV) fun v => asgK i v) s) kf = _
  rw [rb_bindM]; congr 1; funext l s; rw [rb_bindM]; congr 1; funext l s; rw [rb_bindM]
theorem ts_d {x : D} {k : SV → M β} : R.bind (optM (RV.toSV (.d x)) s) k = k (.d x) s := rfl
theorem ts_o {o : Ob} {k : SV → M β} : R.bind (optM (RV.toSV (.ob o)) s) k = k (.ob true o) s := rfl
theorem asg_ok {i : Nat} {v : SV} (h : (match s[i]? with | some (some (.ob false _)) => false | _ => true) = true) : R.bind (asgK i v s) kf = kf .next (s.set i (some v)) := by
  have : setSlot s i v = some (s.set i (some v)) := by
    unfold setSlot
    revert h
    generalize s[i]? = o
    intro h
    cases o with
    | none => rfl
    | some o => cases o with
      | none => rfl
      | some u => cases u with
        | d _ => rfl
        | clo _ _ => rfl
        | ob w _ => cases w with
          | true => rfl
          | false => cases h
  unfold asgK
  rw [this]; rfl
theorem t_ife {t : IE} {a b : IS} : R.bind (evS cf (.ife t a b) s) kf = R.bind (bindM (ev cf t) asC s) fun c s => R.bind (bcase c (evS cf a) (evS cf b) s) kf := by
  show R.bind (bindM (bindM (ev cf t) asC) (fun c => bcase c (evS cf a) (evS cf b)) s) kf = _
  rw [rb_bindM]
theorem t_for {tg : Tg} {kd : Itk} {l : IE} {b : IS} : R.bind (evS cf (.forS tg kd l b) s) kf = R.bind (itM kd (ev cf l) s) fun ys s => R.bind (forM tg (evS cf b) ys s) kf := by
  show R.bind (bindM (itM kd (ev cf l)) (fun ys => forM tg (evS cf b) ys) s) kf = _
  rw [rb_bindM]
theorem for_nil {tg : Tg} {b : M Fl} : R.bind (forM tg b [] s) kf = kf .next s := rfl
theorem for_cons {tg : Tg} {b : M Fl} {x : D} {xs : List D} : R.bind (forM tg b (x :: xs) s) kf = R.bind (setTg tg x s) fun _ s => R.bind (b s) fun f s => R.bind (fcase f (forM tg b xs) (fun d => pureM (.ret d)) (pureM .next) (forM tg b xs) s) kf := by
  show R.bind (bindM (setTg tg x) (fun _ => bindM b fun f => match f with | .next => forM tg b xs | .cont => forM tg b xs | .brk => pureM .next | .ret d => pureM (.ret d)) s) kf = _
  rw [rb_bindM]; congr 1; funext u s; rw [rb_bindM]; congr 1; funext f s; cases f <;> rfl
theorem tg_nm {i : Nat} {x : D} {k : Unit → M β} (h : (match s[i]? with | some (some (.ob false _)) => false | _ => true) = true) : R.bind (setTg (.nm i) x s) k = k () (s.set i (some (.d x))) := by
  have : setSlot s i (.d x) = some (s.set i (some (.d x))) := by
    unfold setSlot
    revert h
    generalize s[i]? = o
    intro h
    cases o with
    | none => rfl
    | some o => cases o with
      | none => rfl
      | some u => cases u with
        | d _ => rfl
        | clo _ _ => rfl
        | ob w _ => cases w with
          | true => rfl
          | false => cases h
  unfold setTg
  show R.bind (match setSlot s i (.d x) with | some s' => .ok () s' | none => .stuck) k = _
  rw [this]; rfl
def asgO (o : Option (Option SV)) (i : Nat) (v : SV) : M Fl := fun s => match o with
  | some (some (.ob false _)) => .stuck
  | _ => .ok .next (s.set i (some v))
theorem asgO_eq {i : Nat} {v : SV} : R.bind (asgK i v s) kf = R.bind (asgO s[i]? i v s) kf := by
  unfold asgK asgO setSlot
  generalize s[i]? = o
  cases o with
  | none => rfl
  | some o =>
    cases o with
    | none => rfl
    | some u =>
      cases u with
      | d _ => rfl
      | clo _ _ => rfl
      | ob w _ => cases w <;> rfl
theorem ag0 {x : Option SV} {l : S} {j : Nat} {v : SV} : R.bind (asgO (x :: l)[0]? j v s) kf = R.bind (asgO (some x) j v s) kf := rfl
theorem agS {x : Option SV} {l : S} {i j : Nat} {v : SV} : R.bind (asgO (x :: l)[i + 1]? j v s) kf = R.bind (asgO l[i]? j v s) kf := rfl
theorem ag_n {j : Nat} {v : SV} : R.bind (asgO (some none) j v s) kf = kf .next (s.set j (some v)) := rfl
theorem ag_d {j : Nat} {v : SV} {y : D} : R.bind (asgO (some (some (.d y))) j v s) kf = kf .next (s.set j (some v)) := rfl
theorem ag_o {j : Nat} {v : SV} {o : Ob} : R.bind (asgO (some (some (.ob true o))) j v s) kf = kf .next (s.set j (some v)) := rfl
def tgO (o : Option (Option SV)) (i : Nat) (x : D) : M Unit := fun s => match o with
  | some (some (.ob false _)) => .stuck
  | _ => .ok () (s.set i (some (.d x)))
theorem tgO_eq {i : Nat} {x : D} {k : Unit → M β} : R.bind (setTg (.nm i) x s) k = R.bind (tgO s[i]? i x s) k := by
  unfold setTg tgO
  show R.bind (match setSlot s i (.d x) with | some s' => .ok () s' | none => .stuck) k = _
  unfold setSlot
  generalize s[i]? = o
  cases o with
  | none => rfl
  | some o =>
    cases o with
    | none => rfl
    | some u =>
      cases u with
      | d _ => rfl
      | clo _ _ => rfl
      | ob w _ => cases w <;> rfl
theorem tg0 {x : Option SV} {l : S} {j : Nat} {y : D} {k : Unit → M β} : R.bind (tgO (x :: l)[0]? j y s) k = R.bind (tgO (some x) j y s) k := rfl
theorem tgS {x : Option SV} {l : S} {i j : Nat} {y : D} {k : Unit → M β} : R.bind (tgO (x :: l)[i + 1]? j y s) k = R.bind (tgO l[i]? j y s) k := rfl
theorem tg_n {j : Nat} {y : D} {k : Unit → M β} : R.bind (tgO (some none) j y s) k = k () (s.set j (some (.d y))) := rfl
theorem tg_d {j : Nat} {y z : D} {k : Unit → M β} : R.bind (tgO (some (some (.d z))) j y s) k = k () (s.set j (some (.d y))) := rfl
theorem tg_o {j : Nat} {y : D} {o : Ob} {k : Unit → M β} : R.bind (tgO (some (some (.ob true o))) j y s) k = k () (s.set j (some (.d y))) := rfl
theorem tg_m {j : Nat} {y : D} {o : Option D} {k : Unit → M β} : R.bind (tgO (some (o.map SV.d)) j y s) k = k () (s.set j (some (.d y))) := by cases o <;> rfl
theorem ag_m {j : Nat} {v : SV} {o : Option D} : R.bind (asgO (some (o.map SV.d)) j v s) kf = kf .next (s.set j (some v)) := by cases o <;> rfl
theorem t_ret {e : IE} : R.bind (evS cf (.ret e) s) kf = R.bind (one1 (ev cf e) s) fun d s => kf (.ret d) s := by
  show R.bind (bindM (one1 (ev cf e)) (fun d => pureM (.ret d)) s) kf = _
  rw [rb_bindM]; rfl
theorem t_expr {e : IE} : R.bind (evS cf (.expr e) s) kf = R.bind (one1 (ev cf e) s) fun _ s => kf .next s := by
  show R.bind (bindM (one1 (ev cf e)) (fun _ => pureM .next) s) kf = _
  rw [rb_bindM]; rfl
theorem t_raise {c : Str} : R.bind (evS cf (.raise c) s) kf = .exc c s := rfl
theorem v_lt {i j : Int} {k : Bool → M β} : R.bind (optM (cop .lt (.int i) (.int j)) s) k = k (decide (i < j)) s := rfl
theorem v_le {i j : Int} {k : Bool → M β} : R.bind (optM (cop .le (.int i) (.int j)) s) k = k (decide (i ≤ j)) s := rfl
theorem v_gt {i j : Int} {k : Bool → M β} : R.bind (optM (cop .gt (.int i) (.int j)) s) k = k (decide (j < i)) s := rfl
theorem v_ge {i j : Int} {k : Bool → M β} : R.bind (optM (cop .ge (.int i) (.int j)) s) k = k (decide (j ≤ i)) s := rfl
theorem v_eqI {i j : Int} {k : Bool → M β} : R.bind (optM (cop .eq (.int i) (.int j)) s) k = k (i == j) s := rfl
theorem v_neI {i j : Int} {k : Bool → M β} : R.bind (optM (cop .ne (.int i) (.int j)) s) k = k (!(i == j)) s := rfl
theorem v_eqS {i j : Str} {k : Bool → M β} : R.bind (optM (cop .eq (.str i) (.str j)) s) k = k (i == j) s := rfl
theorem v_neS {i j : Str} {k : Bool → M β} : R.bind (optM (cop .ne (.str i) (.str j)) s) k = k (!(i == j)) s := rfl
theorem v_isN {x : D} {k : Bool → M β} : R.bind (optM (cop .isN x .none) s) k = k (isNoneD x) s := rfl
theorem v_notN {x : D} {k : Bool → M β} : R.bind (optM (cop .notN x .none) s) k = k (!isNoneD x) s := rfl
theorem v_inT {x : D} {xs : List D} {k : Bool → M β} (h : (flatD x && xs.all flatD) = true) : R.bind (optM (cop .inn x (.tuple xs)) s) k = k (xs.any fun z => PyData.eqv z x) s := by
  show R.bind (optM (if _ then _ else _) s) k = _
  rw [if_pos h]; rfl
theorem v_notInT {x : D} {xs : List D} {k : Bool → M β} (h : (flatD x && xs.all flatD) = true) : R.bind (optM (cop .notIn x (.tuple xs)) s) k = k (!xs.any fun z => PyData.eqv z x) s := by
  show R.bind (optM (if _ then _ else _) s) k = _
  rw [if_pos h]; rfl
variable {kr : RV → M β} {kd : D → M β}
theorem v_add {i j : Int} : R.bind (optM (bop .add (.d (.int i)) (.d (.int j))) s) kr = kr (.d (.int (i + j))) s := rfl
theorem v_sub {i j : Int} : R.bind (optM (bop .sub (.d (.int i)) (.d (.int j))) s) kr = kr (.d (.int (i - j))) s := rfl
theorem v_mul {i j : Int} (h : okMul i j = true) : R.bind (optM (bop .mul (.d (.int i)) (.d (.int j))) s) kr = kr (.d (.int (i * j))) s := by
  show R.bind (optM (if okMul i j = true then _ else _) s) kr = _
  rw [if_pos h]; rfl
theorem v_fdiv {i j : Int} (h : okDiv j = true) : R.bind (optM (bop .fdiv (.d (.int i)) (.d (.int j))) s) kr = kr (.d (.int (i.fdiv j))) s := by
  show R.bind (optM (if okDiv j = true then _ else _) s) kr = _
  rw [if_pos h]; rfl
theorem v_mod {i j : Int} (h : j ≠ 0) : R.bind (optM (bop .mod (.d (.int i)) (.d (.int j))) s) kr = kr (.d (.int (i.fmod j))) s := by
  show R.bind (optM (if j ≠ 0 then _ else _) s) kr = _
  rw [if_pos h]; rfl
theorem v_pow {i j : Int} (h : okPow i j = true) : R.bind (optM (bop .pow (.d (.int i)) (.d (.int j))) s) kr = kr (.d (.int (i ^ j.toNat))) s := by
  show R.bind (optM (if okPow i j = true then _ else _) s) kr = _
  rw [if_pos h]; rfl
theorem v_addT {x y : List D} (h : okLen (x.length + y.length) = true) : R.bind (optM (bop .add (.d (.tuple x)) (.d (.tuple y))) s) kr = kr (.d (.tuple (x ++ y))) s := by
  show R.bind (optM (if okLen (x.length + y.length) = true then _ else _) s) kr = _
  rw [if_pos h]; rfl
theorem v_addL {x y : List D} (h : okLen (x.length + y.length) = true) : R.bind (optM (bop .add (.d (.list x)) (.d (.list y))) s) kr = kr (.ob (.lst (x ++ y))) s := by
  show R.bind (optM (if okLen (x.length + y.length) = true then _ else _) s) kr = _
  rw [if_pos h]; rfl
theorem v_neg {i : Int} : R.bind (negD (.int i) s) kr = kr (.d (.int (-i))) s := rfl
theorem v_lenL {x : List D} : R.bind (optM (blt .len [.list x]) s) kr = kr (.d (.int x.length)) s := rfl
theorem v_lenT {x : List D} : R.bind (optM (blt .len [.tuple x]) s) kr = kr (.d (.int x.length)) s := rfl
theorem v_abs {i : Int} : R.bind (optM (blt .abs [.int i]) s) kr = kr (.d (.int (if i < 0 then -i else i))) s := rfl
theorem v_tupL {x : List D} : R.bind (optM (blt .tuple [.list x]) s) kr = kr (.d (.tuple x)) s := rfl
theorem v_tupT {x : List D} : R.bind (optM (blt .tuple [.tuple x]) s) kr = kr (.d (.tuple x)) s := rfl
theorem boolsD_map : ∀ bs : List Bool, boolsD (bs.map PyData.bool) = some bs
  | [] => rfl
  | b :: bs => by rw [List.map_cons]; show (boolsD (bs.map PyData.bool)).map (b :: ·) = _; rw [boolsD_map bs]; rfl
theorem intsD_map : ∀ bs : List Int, intsD (bs.map PyData.int) = some bs
  | [] => rfl
  | b :: bs => by rw [List.map_cons]; show (intsD (bs.map PyData.int)).map (b :: ·) = _; rw [intsD_map bs]; rfl
theorem v_all {bs : List Bool} : R.bind (optM (blt .all [.list (bs.map PyData.bool)]) s) kr = kr (.d (.bool (bs.all id))) s := by
  show R.bind (optM ((boolsD (bs.map PyData.bool)).map _) s) kr = _
  rw [boolsD_map]; rfl
theorem v_allE1 {b0 : Bool} : R.bind (optM (blt .all [.list [.bool b0]]) s) kr = kr (.d (.bool ([b0].all id))) s := rfl
theorem v_allE2 {b0 b1 : Bool} : R.bind (optM (blt .all [.list [.bool b0, .bool b1]]) s) kr = kr (.d (.bool ([b0, b1].all id))) s := rfl
theorem v_allE3 {b0 b1 b2 : Bool} : R.bind (optM (blt .all [.list [.bool b0, .bool b1, .bool b2]]) s) kr = kr (.d (.bool ([b0, b1, b2].all id))) s := rfl
theorem v_allE4 {b0 b1 b2 b3 : Bool} : R.bind (optM (blt .all [.list [.bool b0, .bool b1, .bool b2, .bool b3]]) s) kr = kr (.d (.bool ([b0, b1, b2, b3].all id))) s := rfl
theorem v_allE5 {b0 b1 b2 b3 b4 : Bool} : R.bind (optM (blt .all [.list [.bool b0, .bool b1, .bool b2, .bool b3, .bool b4]]) s) kr = kr (.d (.bool ([b0, b1, b2, b3, b4].all id))) s := rfl
theorem v_allE6 {b0 b1 b2 b3 b4 b5 : Bool} : R.bind (optM (blt .all [.list [.bool b0, .bool b1, .bool b2, .bool b3, .bool b4, .bool b5]]) s) kr = kr (.d (.bool ([b0, b1, b2, b3, b4, b5].all id))) s := rfl
theorem v_any {bs : List Bool} : R.bind (optM (blt .any [.list (bs.map PyData.bool)]) s) kr = kr (.d (.bool (bs.any id))) s := by
  show R.bind (optM ((boolsD (bs.map PyData.bool)).map _) s) kr = _
  rw [boolsD_map]; rfl
theorem v_sum {bs : List Int} : R.bind (optM (blt .sum [.list (bs.map PyData.int)]) s) kr = kr (.d (.int bs.sum)) s := by
  show R.bind (optM ((intsD (bs.map PyData.int)).map _) s) kr = _
  rw [intsD_map]; rfl
theorem v_ixn {xs : List D} {d : D} (n : Nat) (h : xs[n]? = some d) : R.bind (optM (ixD (.tuple xs) (.int (n : Int))) s) kd = kd d s := by
  show R.bind (optM (atI xs (n : Int)) s) kd = _
  rw [atI_nat h]; rfl
theorem v_slT {xs : List D} {lo hi : Option Int} : R.bind (optM (slcD (.tuple xs) lo hi) s) kr = kr (.d (.tuple (cutL xs lo hi))) s := rfl
theorem v_slL {xs : List D} {lo hi : Option Int} : R.bind (optM (slcD (.list xs) lo hi) s) kr = kr (.ob (.lst (cutL xs lo hi))) s := rfl
theorem v_ix0 {x : D} {xs : List D} : R.bind (optM (ixD (.tuple (x :: xs)) (.int 0)) s) kd = kd x s := by
  show R.bind (optM (atI (x :: xs) ((0 : Nat) : Int)) s) kd = _
  rw [atI_nat (j := 0) (v := x) rfl]; rfl
theorem v_ix1 {a x : D} {xs : List D} : R.bind (optM (ixD (.tuple (a :: x :: xs)) (.int 1)) s) kd = kd x s := v_ixn 1 rfl
theorem v_ix2 {a b x : D} {xs : List D} : R.bind (optM (ixD (.tuple (a :: b :: x :: xs)) (.int 2)) s) kd = kd x s := v_ixn 2 rfl
theorem v_ix3 {a b c x : D} {xs : List D} : R.bind (optM (ixD (.tuple (a :: b :: c :: x :: xs)) (.int 3)) s) kd = kd x s := v_ixn 3 rfl
theorem v_ix4 {a b c d x : D} {xs : List D} : R.bind (optM (ixD (.tuple (a :: b :: c :: d :: x :: xs)) (.int 4)) s) kd = kd x s := v_ixn 4 rfl
theorem v_ix {xs : List D} {d : D} {n : Nat} (h : xs[n]? = some d) : R.bind (optM (ixD (.tuple xs) (.int (n : Int))) s) kd = kd d s := by
  show R.bind (optM (atI xs (n : Int)) s) kd = _
  rw [atI_nat h]; rfl
theorem v_it {xs : List D} {k : List D → M β} (h : okLen xs.length = true) : R.bind (optM (itD .seq [.tuple xs]) s) k = k xs s := by
  show R.bind (optM (if okLen xs.length = true then _ else _) s) k = _
  rw [if_pos h]; rfl
theorem v_itL {xs : List D} {k : List D → M β} (h : okLen xs.length = true) : R.bind (optM (itD .seq [.list xs]) s) k = k xs s := by
  show R.bind (optM (if okLen xs.length = true then _ else _) s) k = _
  rw [if_pos h]; rfl
end
theorem all_id {α : Type} (f : α → Bool) (l : List α) : (l.map f).all id = l.all f := by
  induction l with
  | nil => rfl
  | cons x l ih => simp [ih]
theorem run_of {cf : CF} {f : Def} {as : List AV} {s : S} {r : RC} (h : okCall f as = true) (hs : startS f as = s) (e : endRC as (R.bind (evS cf f.body s) fun a s => .ok a s) = r) : runDef cf f as = r := by
  unfold runDef; rw [h, hs]; rw [rb_self] at e; exact e
end VL
namespace VL
open PySem PySem.Spec PyProof.Rows L2
def lcU (tg : Tg) (c : M Bool) (e : M (List RV)) (x : D) : M (Option D) := bindM (setTg tg x) fun _ => bindM c fun b => bcase b (bindM (one1 e) fun d => pureM (some d)) (pureM none)
theorem lcT_eq {vs : List Nat} {tg : Tg} {c : M Bool} {e : M (List RV)} {x : D} {s : S} : lcT vs tg c e x s = lcBack vs s (lcU tg c e x (hide s vs)) := by
  unfold lcT lcU
  congr 2
theorem lcM_map {vs : List Nat} {tg : Tg} {c : M Bool} {e : M (List RV)} {f : D → D} {s : S} : ∀ {ys : List D}, (∀ y ∈ ys, ∃ t, lcU tg c e y (hide s vs) = .ok (some (f y)) t ∧ unhide vs s t = s) → lcM vs tg c e ys s = .ok (ys.map f) s
  | [], _ => rfl
  | y :: ys, h => by
    obtain ⟨t, h1, h2⟩ := h y List.mem_cons_self
    show R.bind (lcT vs tg c e y s) _ = _
    rw [lcT_eq, h1]
    show R.bind (R.ok (some (f y)) (unhide vs s t)) _ = _
    rw [h2, rb_ok]
    show R.bind (lcM vs tg c e ys s) _ = _
    rw [lcM_map fun z hz => h z (List.mem_cons_of_mem _ hz)]
    rfl
section
variable {β : Type} {cf : CF} {s : S} {kl : List RV → M β}
theorem rb_lcU {tg : Tg} {c : M Bool} {e : M (List RV)} {x : D} {k : Option D → M β} : R.bind (lcU tg c e x s) k = R.bind (setTg tg x s) fun _ s => R.bind (c s) fun b s => R.bind (bcase b (bindM (one1 e) fun d => pureM (some d)) (pureM none) s) k := by
  show R.bind (bindM (setTg tg x) (fun _ => bindM c fun b => bcase b (bindM (one1 e) fun d => pureM (some d)) (pureM none)) s) k = _
  rw [rb_bindM]; congr 1; funext u s; rw [rb_bindM]
theorem lcR_map {fz vs : List Nat} {tg : Tg} {c : M Bool} {e : M (List RV)} {ys : List D} (f : D → D) (h : ∀ y ∈ ys, ∃ t, lcU tg c e y (hide (frzAll fz s) vs) = .ok (some (f y)) t ∧ unhide vs (frzAll fz s) t = frzAll fz s) :
    R.bind (lcR fz vs tg c e ys s) kl = kl [.ob (.lst (ys.map f))] (frzAll fz s) := lcR_of (lcM_map h)
theorem lcR_bool {fz vs : List Nat} {tg : Tg} {c : M Bool} {e : M (List RV)} {ys : List D} (f : D → Bool) (h : ∀ y ∈ ys, ∃ t, lcU tg c e y (hide (frzAll fz s) vs) = .ok (some (.bool (f y))) t ∧ unhide vs (frzAll fz s) t = frzAll fz s) :
    R.bind (lcR fz vs tg c e ys s) kl = kl [.ob (.lst ((ys.map f).map PyData.bool))] (frzAll fz s) := by
  rw [lcR_map (fun y => .bool (f y)) h, List.map_map]; rfl
theorem lcR_int {fz vs : List Nat} {tg : Tg} {c : M Bool} {e : M (List RV)} {ys : List D} (f : D → Int) (h : ∀ y ∈ ys, ∃ t, lcU tg c e y (hide (frzAll fz s) vs) = .ok (some (.int (f y))) t ∧ unhide vs (frzAll fz s) t = frzAll fz s) :
    R.bind (lcR fz vs tg c e ys s) kl = kl [.ob (.lst ((ys.map f).map PyData.int))] (frzAll fz s) := by
  rw [lcR_map (fun y => .int (f y)) h, List.map_map]; rfl
end
theorem lcM_inv {vs : List Nat} {tg : Tg} {c : M Bool} {e : M (List RV)} {I : S → Prop} {p : D → Prop} : ∀ {ys : List D}, (∀ y ∈ ys, ∀ s, I s → ∃ d t, lcU tg c e y (hide s vs) = .ok (some d) t ∧ p d ∧ I (unhide vs s t)) → ∀ s, I s → ∃ zs s', lcM vs tg c e ys s = .ok zs s' ∧ I s' ∧ zs.length = ys.length ∧ ∀ z ∈ zs, p z
  | [], _, s, hI => ⟨[], s, rfl, hI, rfl, fun z hz => by cases hz⟩
  | y :: ys, h, s, hI => by
    obtain ⟨d, t, h1, h2, h3⟩ := h y List.mem_cons_self s hI
    obtain ⟨zs, s', g1, g2, g3, g4⟩ := lcM_inv (fun z hz => h z (List.mem_cons_of_mem _ hz)) _ h3
    refine ⟨d :: zs, s', ?_, g2, by rw [List.length_cons, g3, List.length_cons], fun z hz => ?_⟩
    · show R.bind (lcT vs tg c e y s) _ = _
      rw [lcT_eq, h1]
      show R.bind (R.ok (some d) (unhide vs s t)) _ = _
      rw [rb_ok]
      show R.bind (lcM vs tg c e ys (unhide vs s t)) _ = _
      rw [g1]; rfl
    · rcases List.mem_cons.mp hz with rfl | hz
      · exact h2
      · exact g4 z hz
theorem for_all {tg : Tg} {b : M Fl} {p : D → Bool} {I : S → Prop} (h : ∀ x s, I s → ∃ s', I s' ∧ R.bind (setTg tg x s) (fun _ s => b s) = .ok (if p x then .next else .ret (.bool false)) s') :
    ∀ (xs : List D) (s : S), I s → ∃ s', I s' ∧ forM tg b xs s = .ok (if xs.all p then .next else .ret (.bool false)) s'
  | [], s, hI => ⟨s, hI, rfl⟩
  | x :: xs, s, hI => by
    obtain ⟨s1, h1, e1⟩ := h x s hI
    have e0 : forM tg b (x :: xs) s = R.bind (R.bind (setTg tg x s) fun _ s => b s) fun f => match f with | .next => forM tg b xs | .cont => forM tg b xs | .brk => pureM .next | .ret d => pureM (.ret d) := by
      show bindM (setTg tg x) (fun _ => bindM b fun f => match f with | .next => forM tg b xs | .cont => forM tg b xs | .brk => pureM .next | .ret d => pureM (.ret d)) s = _
      unfold bindM R.bind
      cases setTg tg x s <;> rfl
    rw [e0, e1]
    cases hp : p x with
    | true =>
      obtain ⟨s2, h2, e2⟩ := for_all h xs s1 h1
      refine ⟨s2, h2, ?_⟩
      rw [List.all_cons, hp, Bool.true_and]
      exact e2
    | false =>
      refine ⟨s1, h1, ?_⟩
      rw [List.all_cons, hp, Bool.false_and]
      rfl
theorem for_inv {tg : Tg} {b : M Fl} {I : Nat → S → Prop} : ∀ (xs : List D) (n : Nat) (s : S), (∀ (m : Nat) (x : D) (s : S), xs[m]? = some x → I (n + m) s → ∃ s', I (n + m + 1) s' ∧ R.bind (setTg tg x s) (fun _ s => b s) = .ok .next s') → I n s → ∃ s', I (n + xs.length) s' ∧ forM tg b xs s = .ok .next s'
  | [], n, s, _, hI => ⟨s, hI, rfl⟩
  | x :: xs, n, s, h, hI => by
    obtain ⟨s1, h1, e1⟩ := h 0 x s rfl hI
    obtain ⟨s2, h2, e2⟩ := for_inv xs (n + 1) s1 (fun m y t hm hI => by
      have := h (m + 1) y t hm (by rw [show n + (m + 1) = n + 1 + m by omega]; exact hI)
      rw [show n + (m + 1) = n + 1 + m by omega] at this
      exact this) h1
    refine ⟨s2, by rw [List.length_cons, show n + (xs.length + 1) = n + 1 + xs.length by omega]; exact h2, ?_⟩
    have e0 : forM tg b (x :: xs) s = R.bind (R.bind (setTg tg x s) fun _ s => b s) fun f => match f with | .next => forM tg b xs | .cont => forM tg b xs | .brk => pureM .next | .ret d => pureM (.ret d) := by
      show bindM (setTg tg x) (fun _ => bindM b fun f => match f with | .next => forM tg b xs | .cont => forM tg b xs | .brk => pureM .next | .ret d => pureM (.ret d)) s = _
      unfold bindM R.bind
      cases setTg tg x s <;> rfl
    rw [e0, e1]
    exact e2
section
variable {β : Type} {cf : CF} {s : S} {kl : List RV → M β}
def fromRC1 (i : Nat) : RC → M (List RV)
  | .ok d [o] => fun s => .ok [.d d] (s.set i (some (.ob false o)))
  | .exc c [o] => fun s => .exc c (s.set i (some (.ob false o)))
  | _ => stuckM
theorem rb_bor {i : Nat} {w : Bool} {o : Ob} (h : s[i]? = some (some (.ob w o))) : R.bind (borM i s) kl = kl [.bor ⟨i, none⟩] s := by
  unfold borM
  rw [h]; rfl
theorem call_b {f i : Nat} {o : Ob} (h : s[i]? = some (some (.ob false o))) (ds : List D) : R.bind (callM cf f (.bor ⟨i, none⟩ :: ds.map RV.d) s) kl = R.bind (fromRC1 i (cf f (.o o :: ds.map AV.d)) s) kl := by
  have hl : lend s (.bor ⟨i, none⟩ :: ds.map RV.d) = some (.o o :: ds.map AV.d) := by
    unfold lend atPl
    dsimp only
    rw [h]
    dsimp only
    rw [lend_d]; rfl
  have hb : ∀ o', back (.bor ⟨i, none⟩ :: ds.map RV.d) [o'] s = some (s.set i (some (.ob false o'))) := fun o' => by
    unfold back putPl
    dsimp only
    rw [h]
    exact back_d _ ds
  have hb2 : ∀ o' p os, back (.bor ⟨i, none⟩ :: ds.map RV.d) (o' :: p :: os) s = none := fun o' p os => by
    unfold back putPl
    dsimp only
    rw [h]
    exact back_d1 _ _ _ ds
  unfold callM
  rw [show bors (.bor ⟨i, none⟩ :: ds.map RV.d) = [i] by unfold bors; rw [bors_d]]
  rw [show dupFree [i] = true from rfl]
  dsimp only
  rw [hl]
  dsimp only
  cases cf f (.o o :: ds.map AV.d) with
  | stuck => rfl
  | ok d os =>
    unfold fromRC fromRC1
    cases os with
    | nil => rfl
    | cons o' os =>
      cases os with
      | nil => dsimp only; rw [hb]
      | cons p os => dsimp only; rw [hb2]; rfl
  | exc c os =>
    unfold fromRC fromRC1
    cases os with
    | nil => rfl
    | cons o' os =>
      cases os with
      | nil => dsimp only; rw [hb]
      | cons p os => dsimp only; rw [hb2]; rfl
theorem rc1_ok {i : Nat} {d : D} {o : Ob} : R.bind (fromRC1 i (.ok d [o]) s) kl = kl [.d d] (s.set i (some (.ob false o))) := rfl
end
abbrev Orc := Nat → List AV → Option RC
def orc (Γ : List Def) (O : Orc) (base : Nat) : Nat → CF
  | 0 => fun f as => (O f as).getD (run Γ base f as)
  | n + 1 => fun f as => match O f as with
    | some r => r
    | none => match Γ[f]? with
      | some d => runDef (orc Γ O base n) d as
      | none => .stuck
theorem orc_run {Γ : List Def} {O : Orc} {base : Nat} (h : ∀ k f as r, O f as = some r → run Γ (base + k) f as = r) : ∀ n, run Γ (base + n) = orc Γ O base n
  | 0 => by
    funext f as
    show _ = (O f as).getD _
    cases e : O f as with
    | none => rfl
    | some r => exact h 0 f as r e
  | n + 1 => by
    funext f as
    show _ = match O f as with | some r => r | none => match Γ[f]? with | some d => runDef (orc Γ O base n) d as | none => .stuck
    cases e : O f as with
    | none =>
      show (match Γ[f]? with | some d => runDef (run Γ (base + n)) d as | none => .stuck) = _
      rw [orc_run h n]
    | some r => exact h (n + 1) f as r e
def fine (n : Nat) : R Fl → Bool
  | .ok .next s => s.length == n
  | _ => false
theorem fine_ex {n : Nat} {r : R Fl} (h : fine n r = true) : ∃ s', r = .ok .next s' ∧ s'.length = n := by
  unfold fine at h
  split at h
  · exact ⟨_, rfl, eq_of_beq h⟩
  · cases h
def dropS : Nat → IS → IS
  | 0, s => s
  | n + 1, .seq _ b => dropS n b
  | _, s => s
theorem all_of {p : Int → Bool} {n : Nat} (h : (List.range n).all (fun i => p (i : Int)) = true) {t : Int} (h0 : 0 ≤ t) (h1 : t < n) : p t = true := by
  have := List.all_eq_true.mp h t.toNat (List.mem_range.mpr (by omega))
  rwa [show ((t.toNat : Nat) : Int) = t by omega] at this
end VL
namespace VL
open PySem PySem.Spec PyProof.Rows L2
section
variable {β : Type} {cf : CF} {s : S} {kl : List RV → M β} {kf : Fl → M β} {kd : D → M β}
def setIK (p : Pl) (j x : D) : M Fl := fun s => stM (setIx s p j x)
theorem t_setI {p : Pl} {k e : IE} : R.bind (evS cf (.setI p k e) s) kf = R.bind (one1 (ev cf e) s) fun x s => R.bind (isLst p s) fun _ s => R.bind (one1 (ev cf k) s) fun j s => R.bind (setIK p j x s) kf := by
  show R.bind (bindM (one1 (ev cf e)) (fun x => bindM (isLst p) fun _ => bindM (one1 (ev cf k)) fun j => setIK p j x) s) kf = _
  rw [rb_bindM]; congr 1; funext l s; rw [rb_bindM]; congr 1; funext l s; rw [rb_bindM]
theorem il0 {w : Bool} {xs : List D} {l : S} {k : Unit → M β} : R.bind (isLst ⟨0, none⟩ (some (.ob w (.lst xs)) :: l)) k = k () (some (.ob w (.lst xs)) :: l) := rfl
theorem sd0 {w : Bool} {x a b : D} {l : S} : R.bind (setIK ⟨0, none⟩ (.int 0) x (some (.ob w (.lst [a, b])) :: l)) kf = kf .next (some (.ob w (.lst [x, b])) :: l) := rfl
theorem sd1 {w : Bool} {x a b : D} {l : S} : R.bind (setIK ⟨0, none⟩ (.int 1) x (some (.ob w (.lst [a, b])) :: l)) kf = kf .next (some (.ob w (.lst [a, x])) :: l) := rfl
def appK (p : Pl) (x : D) : M Fl := fun s => stM (appAt s p x)
theorem t_app {p : Pl} {e : IE} : R.bind (evS cf (.app p e) s) kf = R.bind (isLst p s) fun _ s => R.bind (one1 (ev cf e) s) fun x s => R.bind (appK p x s) kf := by
  show R.bind (bindM (isLst p) (fun _ => bindM (one1 (ev cf e)) fun x => appK p x) s) kf = _
  rw [rb_bindM]; congr 1; funext l s; rw [rb_bindM]
theorem ilS {i : Nat} {w : Bool} {xs : List D} {k : Unit → M β} (h : s[i]? = some (some (.ob w (.lst xs)))) : R.bind (isLst ⟨i, none⟩ s) k = k () s := by
  unfold isLst atPl
  dsimp only
  rw [h]; rfl
theorem app_ok {i : Nat} {w : Bool} {xs : List D} {x : D} (h : s[i]? = some (some (.ob w (.lst xs)))) (hl : okLen xs.length = true) : R.bind (appK ⟨i, none⟩ x s) kf = kf .next (s.set i (some (.ob w (.lst (xs ++ [x]))))) := by
  unfold appK appAt atPl putPl
  dsimp only
  rw [h]
  dsimp only
  rw [if_pos hl]; rfl
theorem bo0 {w : Bool} {o : Ob} {l : S} : R.bind (borM 0 (some (.ob w o) :: l)) kl = kl [.bor ⟨0, none⟩] (some (.ob w o) :: l) := rfl
theorem bo1 {w : Bool} {o : Ob} {x : Option SV} {l : S} : R.bind (borM 1 (x :: some (.ob w o) :: l)) kl = kl [.bor ⟨1, none⟩] (x :: some (.ob w o) :: l) := rfl
theorem cb0 {f : Nat} {o : Ob} {l : S} : R.bind (callM cf f [.bor ⟨0, none⟩] (some (.ob false o) :: l)) kl = R.bind (fromRC1 0 (cf f [.o o]) (some (.ob false o) :: l)) kl := call_b rfl []
theorem cb1 {f : Nat} {o : Ob} {a : D} {l : S} : R.bind (callM cf f [.bor ⟨0, none⟩, .d a] (some (.ob false o) :: l)) kl = R.bind (fromRC1 0 (cf f [.o o, .d a]) (some (.ob false o) :: l)) kl := call_b rfl [a]
theorem cb2 {f : Nat} {o : Ob} {a b : D} {l : S} : R.bind (callM cf f [.bor ⟨0, none⟩, .d a, .d b] (some (.ob false o) :: l)) kl = R.bind (fromRC1 0 (cf f [.o o, .d a, .d b]) (some (.ob false o) :: l)) kl := call_b rfl [a, b]
theorem cb3 {f : Nat} {o : Ob} {a b c : D} {l : S} : R.bind (callM cf f [.bor ⟨0, none⟩, .d a, .d b, .d c] (some (.ob false o) :: l)) kl = R.bind (fromRC1 0 (cf f [.o o, .d a, .d b, .d c]) (some (.ob false o) :: l)) kl := call_b rfl [a, b, c]
theorem dc0 {f : Nat} {o : Ob} {x : Option SV} {l : S} : R.bind (callM cf f [.bor ⟨1, none⟩] (x :: some (.ob false o) :: l)) kl = R.bind (fromRC1 1 (cf f [.o o]) (x :: some (.ob false o) :: l)) kl := call_b rfl []
theorem dc1 {f : Nat} {o : Ob} {a : D} {x : Option SV} {l : S} : R.bind (callM cf f [.bor ⟨1, none⟩, .d a] (x :: some (.ob false o) :: l)) kl = R.bind (fromRC1 1 (cf f [.o o, .d a]) (x :: some (.ob false o) :: l)) kl := call_b rfl [a]
theorem dc2 {f : Nat} {o : Ob} {a b : D} {x : Option SV} {l : S} : R.bind (callM cf f [.bor ⟨1, none⟩, .d a, .d b] (x :: some (.ob false o) :: l)) kl = R.bind (fromRC1 1 (cf f [.o o, .d a, .d b]) (x :: some (.ob false o) :: l)) kl := call_b rfl [a, b]
theorem dc3 {f : Nat} {o : Ob} {a b c : D} {x : Option SV} {l : S} : R.bind (callM cf f [.bor ⟨1, none⟩, .d a, .d b, .d c] (x :: some (.ob false o) :: l)) kl = R.bind (fromRC1 1 (cf f [.o o, .d a, .d b, .d c]) (x :: some (.ob false o) :: l)) kl := call_b rfl [a, b, c]
theorem v_ixL0 {x y : D} : R.bind (optM (ixD (.list [x, y]) (.int 0)) s) kd = kd x s := by
  show R.bind (optM (L2.atI [x, y] ((0 : Nat) : Int)) s) kd = _
  rw [L2.atI_nat (j := 0) (v := x) rfl]; rfl
theorem v_ixL1 {x y : D} : R.bind (optM (ixD (.list [x, y]) (.int 1)) s) kd = kd y s := by
  show R.bind (optM (L2.atI [x, y] ((1 : Nat) : Int)) s) kd = _
  rw [L2.atI_nat (j := 1) (v := y) rfl]; rfl
theorem v_ixLn {xs : List D} {d : D} {n : Nat} (h : xs[n]? = some d) : R.bind (optM (ixD (.list xs) (.int (n : Int))) s) kd = kd d s := by
  show R.bind (optM (atI xs (n : Int)) s) kd = _
  rw [atI_nat h]; rfl
theorem v_range1 {j : Int} {k : List D → M β} (h : -1000000 < j ∧ j < 1000000) : R.bind (optM (itD .range1 [.int j]) s) k = k ((List.range j.toNat).map fun (i : Nat) => .int (i : Int)) s := by
  show R.bind (optM (if -1000000 < j ∧ j < 1000000 then _ else _) s) k = _
  rw [if_pos h]; rfl
end
theorem lcR_inv {β : Type} {s : S} {kl : List RV → M β} {fz vs : List Nat} {tg : Tg} {c : M Bool} {e : M (List RV)} {ys : List D} (I : S → Prop) (p : D → Prop) (h : ∀ y ∈ ys, ∀ s, I s → ∃ d t, lcU tg c e y (hide s vs) = .ok (some d) t ∧ p d ∧ I (unhide vs s t)) (hI : I (frzAll fz s)) :
    ∃ zs s', R.bind (lcR fz vs tg c e ys s) kl = kl [.ob (.lst zs)] s' ∧ I s' ∧ zs.length = ys.length ∧ ∀ z ∈ zs, p z := by
  obtain ⟨zs, s', h1, h2, h3, h4⟩ := lcM_inv h _ hI
  exact ⟨zs, s', lcR_of h1, h2, h3, h4⟩
theorem okMulR {i j : Int} (h1 : -(2 ^ 64) < j) (h2 : j < 2 ^ 64) : okMul i j = true := by
  have h : ¬ (Builtin.Int.intBits j > shortFactorBits) := Nat.not_lt.mpr (intBits_le_64 h1 h2)
  unfold okMul
  rw [decide_eq_false h]; simp
theorem okMulL {i j : Int} (h1 : -(2 ^ 64) < i) (h2 : i < 2 ^ 64) : okMul i j = true := by
  have h : ¬ (Builtin.Int.intBits i > shortFactorBits) := Nat.not_lt.mpr (intBits_le_64 h1 h2)
  unfold okMul
  rw [decide_eq_false h]; simp
theorem bits_le {m : Nat} {x : Int} (h : x.natAbs < 2 ^ m) : Builtin.Int.intBits x ≤ m := by
  unfold Builtin.Int.intBits
  split
  · omega
  · rename_i g
    have g' : x.natAbs ≠ 0 := fun e => g (by rw [beq_iff_eq]; omega)
    have := (Nat.log2_lt g').mpr h
    omega
theorem okMul_bits {i j : Int} (h1 : i.natAbs < 2 ^ 200) (h2 : j.natAbs < 2 ^ 200) : okMul i j = true := by
  have a := bits_le h1
  have b := bits_le h2
  have c : Builtin.Int.intTooBig (Builtin.Int.intBits i + Builtin.Int.intBits j) = false := by
    unfold Builtin.Int.intTooBig
    rw [decide_eq_false_iff_not]
    have : (300 : Int) + 300 ≤ bitsLine := by decide
    omega
  unfold okMul
  rw [c]; simp
theorem okDiv_small {j : Int} (h0 : j ≠ 0) (h : j.natAbs < 2 ^ 200) : okDiv j = true := by
  unfold okDiv
  have g' : j.natAbs ≠ 0 := by omega
  have := (Nat.log2_lt g').mpr h
  rw [beq_eq_false_iff_ne.mpr h0, decide_eq_true (by omega)]; rfl
theorem fm_lo {i j : Int} (h : 0 < j) : 0 ≤ i.fmod j := Int.fmod_nonneg_of_pos i h
theorem fm_hi {i j : Int} (h : 0 < j) : i.fmod j < j := Int.fmod_lt_of_pos i h
end VL
set_option maxHeartbeats 2000000
namespace VL
open PySem PySem.Spec PyProof.Rows L2
def TopTabs (q : Program) (K : PySem.W.Frag) (h : Heap) : Prop := ∀ (x : Str) (c P : Addr), ((recsOf q).find? fun e => e.name == x).isSome = true → PySem.W.tabIn K x = some (c, P) → PySem.W.CodeHd h c P ∧ h.get? P = some { cls := .none, data := .fields #[] }
theorem walk_tabs {l : PySem.W.OpenLaw} {n k : Nat} {q : Program} {loose : List Str} {XP : (Str → Option Value) → Heap → Prop} {YP : World → Heap → Prop} {d : DefRec} {K : Params → PySem.W.Frag} {CX : World → CXT} {x : Str}
    (hn : l.most = some n) (hn2 : n ≤ sizeLine) (hdf : d.params.defaults = []) (hr : Room k callerA) (hY : ∀ (w : World) (h : Heap), YP w h → (K w.params).In h)
    (F : ∀ (w : World) (mg : Str → Option Value) (fa : Addr) (h : Heap), YP w h → (K w.params).In h → h.Ns mainGlobals mg → mg d.name = some (.ref fa) → TopTabs q (K w.params) h → LamX.LawAtS l w (K w.params) (CX w) k n x mg fa h)
    (hCX : ∀ (w : World) (H : Hp) (s : Shared) (e : Value) (s' : Shared), CX w [] H s (fun _ _ _ => False) e s' → False) :
    PySem.W.WalkO q loose XP YP l.row.toRowW d [] (fun f vs => PySem.call f vs) := by
  refine Att.attach_callB hn hdf fun w s₀ s₁ mg mb fa o pm cd doc a vs ns G Y ho hd hcd hmg hobj hints hlen hbits hg => ?_
  have KX := hY w _ Y
  have tabs : TopTabs q (K w.params) s₁.heap := fun x c P hx ht => by
    obtain ⟨dr, hdr⟩ := Option.isSome_iff_exists.mp hx
    exact PySem.W.tab_of G.T KX hdr ht
  obtain ⟨fd, cs, sp, hT, nT, C, hb, hsp, hF⟩ := F w mg fa _ Y KX G.T.g hmg tabs
  exact LamX.law_callTs KX G.T.g G.T.b G.T.builtins G.T.nolimit hg hT nT C G.T.bmain hobj hints (Nat.le_trans hlen hn2) hr hF hb (fun H hH hS => hsp H a ns hlen hbits hH hS) fun H e s' => hCX w H s₁ e s'
def csOf (l : List Addr) (i : Nat) : Addr := l.getD i 0
theorem own_of {K : PySem.W.Frag} {D : Addr} {l : List Addr} {j : Nat} (hl : l.length = 15) (h : (l.map fun c => PySem.W.kitOne K (.ref D) (.ref c)) = (List.range 15).map fun i => some (decide (i = j))) : ∀ i, i < 15 → PySem.W.kitOne K (.ref D) (.ref (csOf l i)) = some (decide (i = j)) := fun i hi => by
  have e := congrArg (fun m => m[i]?) h
  have hi' : i < l.length := by omega
  simp only [List.getElem?_map, List.getElem?_eq_getElem hi', List.getElem?_range hi, Option.map_some] at e
  unfold csOf
  rw [List.getD_eq_getElem?_getD, List.getElem?_eq_getElem hi']
  exact Option.some.inj e
section
variable {K : PySem.W.Frag} {mg : Str → Option Value} {cs : Nat → Addr} {CS : Addr} {c : Str} {ks : List Str}
theorem KindsOk.nil : KindsOk K mg [] cs CS := fun c h => by cases h
theorem KindsOk.cons (h : ∃ D j, mg c = some (.ref D) ∧ HotL.KindIs K cs CS D j ∧ toldKinds.getD j "" = c) (t : KindsOk K mg ks cs CS) : KindsOk K mg (c :: ks) cs CS := fun x hx C hC => by
  rcases List.mem_cons.mp hx with rfl | hx
  · obtain ⟨D, j, h1, h2, h3⟩ := h
    rw [h1] at hC; cases hC
    exact ⟨D, j, rfl, h2, h3⟩
  · exact t x hx C hC
end
theorem tabs_nil {T : List (Addr × Str)} {H : Hp} (h : ∀ p ∈ T, H p.1 = some (.tbl #[])) : LamX.Tabs T H := fun p hp => LamX.TabS.nil (h p hp)
theorem lawN_no {P : Program} {w : World} {H : Hp} {s s' : Shared} {e : Value} (h : L2N.CX P w [] H s (fun _ _ _ => False) e s') : False := by
  obtain ⟨_, _, _, _, _, _, _, _, _, _, _, _, z⟩ := h
  exact z
end VL
set_option maxHeartbeats 4000000
namespace Tb
open PySem PySem.Spec PyProof.Rows L2 VL
def topS (i : Nat) : Stmt := PySem.Challenge.pw_samepictures_k31_whole_drawings.main.body.getD i (.Pass ⟨0, 0, 0, 0⟩)
def g : Cc := ⟨[], [("is_whole", [false, false, false]), ("is_loop", [false]), ("is_shape", [false]), ("is_colour", [false]), ("is_opacity", [false]), ("is_matrix", [false]), ("is_layer_within", [false, false]), ("are_layers", [false, false]), ("points_in", [false]), ("is_drawing", [false]), ("is_layer", [false]), ("need_drawing", [false]), ("count_points", [false]), ("_law_drawn", [false, false]), ("_law_roll", [true, false]), ("_law_loop", [true, false]), ("_law_shape", [true, false]), ("_law_opacity", [true]), ("_law_matrix", [true]), ("_law_layer", [true, false, false]), ("_law_drawing", [true, false, false]), ("_law_size", [false]), ("_law_bad_layers", [false])], [("MOST_POINTS", (.int 60))], ["isinstance", "len", "all", "sum", "max", "min", "tuple", "list", "int", "bool", "str", "range", "ValueError"], ["InvalidDrawing"], [], [], [], true⟩
abbrev s_is_whole : Stmt := topS 18
def N_is_whole : List Str := ["value", "low", "high"]
abbrev s_is_loop : Stmt := topS 21
def N_is_loop : List Str := ["value", "point", "one"]
abbrev s_is_shape : Stmt := topS 22
def N_is_shape : List Str := ["value", "one"]
abbrev s_is_colour : Stmt := topS 23
def N_is_colour : List Str := ["value", "one"]
abbrev s_is_opacity : Stmt := topS 24
def N_is_opacity : List Str := ["value"]
abbrev s_is_matrix : Stmt := topS 25
def N_is_matrix : List Str := ["value", "one"]
abbrev s_is_layer_within : Stmt := topS 26
def N_is_layer_within : List Str := ["value", "deep"]
abbrev s_are_layers : Stmt := topS 27
def N_are_layers : List Str := ["value", "deep", "one"]
abbrev s_points_in : Stmt := topS 28
def N_points_in : List Str := ["layers", "count", "layer", "shape", "loop"]
abbrev s_is_drawing : Stmt := topS 29
def N_is_drawing : List Str := ["value"]
abbrev s_is_layer : Stmt := topS 30
def N_is_layer : List Str := ["value"]
abbrev s_need_drawing : Stmt := topS 31
def N_need_drawing : List Str := ["drawing"]
abbrev s_count_points : Stmt := topS 32
def N_count_points : List Str := ["drawing"]
abbrev s__law_cell : Stmt := topS 34
def N__law_cell : List Str := ["script", "k"]
abbrev s__law_drawn : Stmt := topS 35
def N__law_drawn : List Str := ["cell", "k", "more"]
abbrev s__law_roll : Stmt := topS 36
def N__law_roll : List Str := ["dice", "many", "told"]
abbrev s__law_rounds : Stmt := topS 37
def N__law_rounds : List Str := ["script", "most", "k"]
abbrev s__law_term : Stmt := topS 38
def N__law_term : List Str := ["e", "flags", "kinds", "flag"]
abbrev s__law_told : Stmt := topS 39
def N__law_told : List Str := ["deed", "e"]
abbrev s__law_loop : Stmt := topS 40
def N__law_loop : List Str := ["dice", "far", "some", "turn"]
abbrev s__law_shape : Stmt := topS 41
def N__law_shape : List Str := ["dice", "far", "loops", "turn"]
abbrev s__law_opacity : Stmt := topS 42
def N__law_opacity : List Str := ["dice", "bottom"]
abbrev s__law_matrix : Stmt := topS 43
def N__law_matrix : List Str := ["dice", "turns"]
abbrev s__law_layer : Stmt := topS 44
def N__law_layer : List Str := ["dice", "far", "deep", "pick", "inner", "turn", "clip", "colour"]
abbrev s__law_drawing : Stmt := topS 45
def N__law_drawing : List Str := ["dice", "many", "far", "found", "turn"]
abbrev s__law_size : Stmt := topS 46
def N__law_size : List Str := ["layers", "count", "layer", "shape", "loop"]
abbrev s__law_bad_layers : Stmt := topS 47
def N__law_bad_layers : List Str := ["shape", "bad", "cases", "matrix", "inner", "turn"]
abbrev s_law : Stmt := topS 48
def N_law : List Str := ["script", "dice", "drawing", "layer", "shape", "bad", "loop", "wide", "small", "cases"]
def forBody : List Stmt → List Stmt
  | .For _ _ b _ _ :: _ => b
  | _ => []
theorem sc_is_whole : FnScope N_is_whole ["value", "low", "high"] (defScope s_is_whole) := ⟨rfl, rfl, rfl, by decide +kernel, rfl, by decide +kernel, by decide +kernel⟩
def d_is_whole : Def := ⟨3, 3, (.seq (.ret (.and (.isi (.var 0) .int) (.and (.not (.isi (.var 0) .bool)) (.chain .le .le (.var 1) (.var 0) (.var 2))))) .skip)⟩
theorem c_is_whole : compBody (g.at N_is_whole false) (defScope s_is_whole) (defBody s_is_whole) = some d_is_whole.body := by kernel_rfl
theorem sc_is_loop : FnScope N_is_loop ["value"] (defScope s_is_loop) := ⟨rfl, rfl, rfl, by decide +kernel, rfl, by decide +kernel, by decide +kernel⟩
def d_is_loop : Def := ⟨3, 1, (.seq (.ife (.or (.not (.isi (.var 0) .tuple)) (.not (.chain .le .le (.cst (.int 3)) (.bltB .len ⟨0, none⟩) (.cst (.int 8))))) (.seq (.ret (.cst (.bool false))) .skip) .skip) (.seq (.forS (.nm 1) .seq (.cons (.var 0) .nil) (.seq (.ife (.or (.not (.isi (.var 1) .tuple)) (.or (.cmp .ne (.bltB .len ⟨1, none⟩) (.cst (.int 2))) (.not (.blt .all (.cons (.lc [2] [2] (.nm 2) .seq (.cons (.var 1) .nil) (.cst (.bool true)) (.call 0 (.cons (.var 2) (.cons (.neg (.cst (.int 9))) (.cons (.cst (.int 9)) .nil))))) .nil))))) (.seq (.ret (.cst (.bool false))) .skip) .skip) .skip)) (.seq (.ret (.cst (.bool true))) .skip)))⟩
theorem c_is_loop : compBody (g.at N_is_loop false) (defScope s_is_loop) (defBody s_is_loop) = some d_is_loop.body := by kernel_rfl
theorem sc_is_shape : FnScope N_is_shape ["value"] (defScope s_is_shape) := ⟨rfl, rfl, rfl, by decide +kernel, rfl, by decide +kernel, by decide +kernel⟩
def d_is_shape : Def := ⟨2, 1, (.seq (.ife (.or (.not (.isi (.var 0) .tuple)) (.or (.cmp .ne (.bltB .len ⟨0, none⟩) (.cst (.int 2))) (.not (.isi (.ixB ⟨0, none⟩ (.cst (.int 0))) .str)))) (.seq (.ret (.cst (.bool false))) .skip) .skip) (.seq (.ife (.or (.cmp .notIn (.ixB ⟨0, none⟩ (.cst (.int 0))) (.tup (.cons (.cst (.str "odd")) (.cons (.cst (.str "turns")) .nil)))) (.or (.not (.isi (.ixB ⟨0, none⟩ (.cst (.int 1))) .tuple)) (.not (.chain .le .le (.cst (.int 1)) (.blt .len (.cons (.ixB ⟨0, none⟩ (.cst (.int 1))) .nil)) (.cst (.int 3)))))) (.seq (.ret (.cst (.bool false))) .skip) .skip) (.seq (.ret (.blt .all (.cons (.lc [1] [1] (.nm 1) .seq (.cons (.ixB ⟨0, none⟩ (.cst (.int 1))) .nil) (.cst (.bool true)) (.call 1 (.cons (.var 1) .nil))) .nil))) .skip)))⟩
theorem c_is_shape : compBody (g.at N_is_shape false) (defScope s_is_shape) (defBody s_is_shape) = some d_is_shape.body := by kernel_rfl
theorem sc_is_colour : FnScope N_is_colour ["value"] (defScope s_is_colour) := ⟨rfl, rfl, rfl, by decide +kernel, rfl, by decide +kernel, by decide +kernel⟩
def d_is_colour : Def := ⟨2, 1, (.seq (.ret (.and (.isi (.var 0) .tuple) (.and (.cmp .eq (.bltB .len ⟨0, none⟩) (.cst (.int 3))) (.blt .all (.cons (.lc [1] [1] (.nm 1) .seq (.cons (.var 0) .nil) (.cst (.bool true)) (.call 0 (.cons (.var 1) (.cons (.cst (.int 0)) (.cons (.cst (.int 9)) .nil))))) .nil))))) .skip)⟩
theorem c_is_colour : compBody (g.at N_is_colour false) (defScope s_is_colour) (defBody s_is_colour) = some d_is_colour.body := by kernel_rfl
theorem sc_is_opacity : FnScope N_is_opacity ["value"] (defScope s_is_opacity) := ⟨rfl, rfl, rfl, by decide +kernel, rfl, by decide +kernel, by decide +kernel⟩
def d_is_opacity : Def := ⟨1, 1, (.seq (.ret (.and (.isi (.var 0) .tuple) (.and (.cmp .eq (.bltB .len ⟨0, none⟩) (.cst (.int 2))) (.and (.call 0 (.cons (.ixB ⟨0, none⟩ (.cst (.int 1))) (.cons (.cst (.int 1)) (.cons (.cst (.int 6)) .nil)))) (.call 0 (.cons (.ixB ⟨0, none⟩ (.cst (.int 0))) (.cons (.cst (.int 1)) (.cons (.ixB ⟨0, none⟩ (.cst (.int 1))) .nil)))))))) .skip)⟩
theorem c_is_opacity : compBody (g.at N_is_opacity false) (defScope s_is_opacity) (defBody s_is_opacity) = some d_is_opacity.body := by kernel_rfl
theorem sc_is_matrix : FnScope N_is_matrix ["value"] (defScope s_is_matrix) := ⟨rfl, rfl, rfl, by decide +kernel, rfl, by decide +kernel, by decide +kernel⟩
def d_is_matrix : Def := ⟨2, 1, (.seq (.ife (.or (.not (.isi (.var 0) .tuple)) (.cmp .ne (.bltB .len ⟨0, none⟩) (.cst (.int 6)))) (.seq (.ret (.cst (.bool false))) .skip) .skip) (.seq (.ife (.or (.not (.blt .all (.cons (.lc [1] [1] (.nm 1) .seq (.cons (.slcB false true ⟨0, none⟩ .nil (.cst (.int 4))) .nil) (.cst (.bool true)) (.call 0 (.cons (.var 1) (.cons (.neg (.cst (.int 2))) (.cons (.cst (.int 2)) .nil))))) .nil))) (.not (.blt .all (.cons (.lc [1] [1] (.nm 1) .seq (.cons (.slcB true false ⟨0, none⟩ (.cst (.int 4)) .nil) .nil) (.cst (.bool true)) (.call 0 (.cons (.var 1) (.cons (.neg (.cst (.int 9))) (.cons (.cst (.int 9)) .nil))))) .nil)))) (.seq (.ret (.cst (.bool false))) .skip) .skip) (.seq (.ret (.cmp .ne (.op .mul (.ixB ⟨0, none⟩ (.cst (.int 0))) (.ixB ⟨0, none⟩ (.cst (.int 3)))) (.op .mul (.ixB ⟨0, none⟩ (.cst (.int 1))) (.ixB ⟨0, none⟩ (.cst (.int 2)))))) .skip)))⟩
theorem c_is_matrix : compBody (g.at N_is_matrix false) (defScope s_is_matrix) (defBody s_is_matrix) = some d_is_matrix.body := by kernel_rfl
theorem sc_is_layer_within : FnScope N_is_layer_within ["value", "deep"] (defScope s_is_layer_within) := ⟨rfl, rfl, rfl, by decide +kernel, rfl, by decide +kernel, by decide +kernel⟩
def d_is_layer_within : Def := ⟨2, 2, (.seq (.ife (.or (.not (.isi (.var 0) .tuple)) (.or (.cmp .lt (.bltB .len ⟨0, none⟩) (.cst (.int 3))) (.not (.isi (.ixB ⟨0, none⟩ (.cst (.int 0))) .str)))) (.seq (.ret (.cst (.bool false))) .skip) .skip) (.seq (.ife (.cmp .eq (.ixB ⟨0, none⟩ (.cst (.int 0))) (.cst (.str "fill"))) (.seq (.ret (.and (.cmp .eq (.bltB .len ⟨0, none⟩) (.cst (.int 4))) (.and (.call 2 (.cons (.ixB ⟨0, none⟩ (.cst (.int 1))) .nil)) (.and (.call 3 (.cons (.ixB ⟨0, none⟩ (.cst (.int 2))) .nil)) (.call 4 (.cons (.ixB ⟨0, none⟩ (.cst (.int 3))) .nil)))))) .skip) .skip) (.seq (.ife (.cmp .eq (.ixB ⟨0, none⟩ (.cst (.int 0))) (.cst (.str "rub"))) (.seq (.ret (.and (.cmp .eq (.bltB .len ⟨0, none⟩) (.cst (.int 3))) (.and (.call 2 (.cons (.ixB ⟨0, none⟩ (.cst (.int 1))) .nil)) (.call 4 (.cons (.ixB ⟨0, none⟩ (.cst (.int 2))) .nil))))) .skip) .skip) (.seq (.ife (.or (.cmp .ne (.ixB ⟨0, none⟩ (.cst (.int 0))) (.cst (.str "group"))) (.or (.cmp .ne (.bltB .len ⟨0, none⟩) (.cst (.int 5))) (.cmpL .eq ⟨1, none⟩ (.cst (.int 0))))) (.seq (.ret (.cst (.bool false))) .skip) .skip) (.seq (.ife (.or (.not (.call 7 (.cons (.ixB ⟨0, none⟩ (.cst (.int 1))) (.cons (.opB .sub ⟨1, none⟩ (.cst (.int 1))) .nil)))) (.or (.not (.call 4 (.cons (.ixB ⟨0, none⟩ (.cst (.int 2))) .nil))) (.not (.call 5 (.cons (.ixB ⟨0, none⟩ (.cst (.int 4))) .nil))))) (.seq (.ret (.cst (.bool false))) .skip) .skip) (.seq (.ret (.or (.cmp .isN (.ixB ⟨0, none⟩ (.cst (.int 3))) (.cst .none)) (.call 2 (.cons (.ixB ⟨0, none⟩ (.cst (.int 3))) .nil)))) .skip))))))⟩
theorem c_is_layer_within : compBody (g.at N_is_layer_within false) (defScope s_is_layer_within) (defBody s_is_layer_within) = some d_is_layer_within.body := by kernel_rfl
theorem sc_are_layers : FnScope N_are_layers ["value", "deep"] (defScope s_are_layers) := ⟨rfl, rfl, rfl, by decide +kernel, rfl, by decide +kernel, by decide +kernel⟩
def d_are_layers : Def := ⟨3, 2, (.seq (.ret (.and (.isi (.var 0) .tuple) (.and (.cmp .le (.bltB .len ⟨0, none⟩) (.cst (.int 4))) (.blt .all (.cons (.lc [2, 1] [2] (.nm 2) .seq (.cons (.var 0) .nil) (.cst (.bool true)) (.call 6 (.cons (.var 2) (.cons (.var 1) .nil)))) .nil))))) .skip)⟩
theorem c_are_layers : compBody (g.at N_are_layers false) (defScope s_are_layers) (defBody s_are_layers) = some d_are_layers.body := by kernel_rfl
theorem sc_points_in : FnScope N_points_in ["layers"] (defScope s_points_in) := ⟨rfl, rfl, rfl, by decide +kernel, rfl, by decide +kernel, by decide +kernel⟩
def d_points_in : Def := ⟨5, 1, (.seq (.asg 1 (.cst (.int 0))) (.seq (.forS (.nm 2) .seq (.cons (.var 0) .nil) (.seq (.asg 3 (.ife (.cmp .eq (.ixB ⟨2, none⟩ (.cst (.int 0))) (.cst (.str "group"))) (.ixB ⟨2, none⟩ (.cst (.int 3))) (.ixB ⟨2, none⟩ (.cst (.int 1))))) (.seq (.ife (.cmp .eq (.ixB ⟨2, none⟩ (.cst (.int 0))) (.cst (.str "group"))) (.seq (.asg 1 (.opB .add ⟨1, none⟩ (.call 8 (.cons (.ixB ⟨2, none⟩ (.cst (.int 1))) .nil)))) .skip) .skip) (.seq (.ife (.cmpL .notN ⟨3, none⟩ (.cst .none)) (.seq (.asg 1 (.opB .add ⟨1, none⟩ (.blt .sum (.cons (.lc [] [4] (.nm 4) .seq (.cons (.ixB ⟨3, none⟩ (.cst (.int 1))) .nil) (.cst (.bool true)) (.bltB .len ⟨4, none⟩)) .nil)))) .skip) .skip) .skip)))) (.seq (.ret (.var 1)) .skip)))⟩
theorem c_points_in : compBody (g.at N_points_in false) (defScope s_points_in) (defBody s_points_in) = some d_points_in.body := by kernel_rfl
theorem sc_is_drawing : FnScope N_is_drawing ["value"] (defScope s_is_drawing) := ⟨rfl, rfl, rfl, by decide +kernel, rfl, by decide +kernel, by decide +kernel⟩
def d_is_drawing : Def := ⟨1, 1, (.seq (.ret (.and (.call 7 (.cons (.var 0) (.cons (.cst (.int 2)) .nil))) (.cmp .le (.call 8 (.cons (.var 0) .nil)) (.glb "MOST_POINTS" (.int 60))))) .skip)⟩
theorem c_is_drawing : compBody (g.at N_is_drawing false) (defScope s_is_drawing) (defBody s_is_drawing) = some d_is_drawing.body := by kernel_rfl
theorem sc_is_layer : FnScope N_is_layer ["value"] (defScope s_is_layer) := ⟨rfl, rfl, rfl, by decide +kernel, rfl, by decide +kernel, by decide +kernel⟩
def d_is_layer : Def := ⟨1, 1, (.seq (.ret (.and (.call 6 (.cons (.var 0) (.cons (.cst (.int 2)) .nil))) (.cmp .le (.call 8 (.cons (.tup (.cons (.var 0) .nil)) .nil)) (.glb "MOST_POINTS" (.int 60))))) .skip)⟩
theorem c_is_layer : compBody (g.at N_is_layer false) (defScope s_is_layer) (defBody s_is_layer) = some d_is_layer.body := by kernel_rfl
theorem sc_need_drawing : FnScope N_need_drawing ["drawing"] (defScope s_need_drawing) := ⟨rfl, rfl, rfl, by decide +kernel, rfl, by decide +kernel, by decide +kernel⟩
def d_need_drawing : Def := ⟨1, 1, (.seq (.ife (.not (.call 9 (.cons (.var 0) .nil))) (.seq (.raise "InvalidDrawing") .skip) .skip) .skip)⟩
theorem c_need_drawing : compBody (g.at N_need_drawing false) (defScope s_need_drawing) (defBody s_need_drawing) = some d_need_drawing.body := by kernel_rfl
theorem sc_count_points : FnScope N_count_points ["drawing"] (defScope s_count_points) := ⟨rfl, rfl, rfl, by decide +kernel, rfl, by decide +kernel, by decide +kernel⟩
def d_count_points : Def := ⟨1, 1, (.seq (.expr (.call 11 (.cons (.var 0) .nil))) (.seq (.ret (.call 8 (.cons (.var 0) .nil))) .skip))⟩
theorem c_count_points : compBody (g.at N_count_points false) (defScope s_count_points) (defBody s_count_points) = some d_count_points.body := by kernel_rfl
theorem sc__law_drawn : FnScope N__law_drawn ["cell", "k"] (defScope s__law_drawn) := ⟨rfl, rfl, rfl, by decide +kernel, rfl, by decide +kernel, by decide +kernel⟩
def d__law_drawn : Def := ⟨3, 2, (.seq (.asg 2 (.op .mod (.op .add (.opB .mul ⟨0, none⟩ (.cst (.int 6364136223846793005))) (.op .mul (.opB .add ⟨1, none⟩ (.cst (.int 1))) (.cst (.int 1442695040888963407)))) (.cst (.int 340282366920938463463374607431768211507)))) (.seq (.asg 2 (.op .mod (.opB .mul ⟨2, none⟩ (.var 2)) (.cst (.int 340282366920938463463374607431768211297)))) (.seq (.asg 2 (.op .mul (.op .mul (.op .add (.opB .mod ⟨2, none⟩ (.cst (.int 18446744073709551557))) (.cst (.int 1))) (.op .add (.opB .fdiv ⟨2, none⟩ (.cst (.int 18446744073709551557))) (.cst (.int 1)))) (.var 2))) (.seq (.ret (.opB .mod ⟨2, none⟩ (.cst (.int 340282366920938463463374607431768211507)))) .skip))))⟩
theorem c__law_drawn : compBody (g.at N__law_drawn false) (defScope s__law_drawn) (defBody s__law_drawn) = some d__law_drawn.body := by kernel_rfl
theorem sc__law_roll : FnScope N__law_roll ["dice", "many"] (defScope s__law_roll) := ⟨rfl, rfl, rfl, by decide +kernel, rfl, by decide +kernel, by decide +kernel⟩
def d__law_roll : Def := ⟨3, 2, (.seq (.ife (.cmp .ge (.ixB ⟨0, none⟩ (.cst (.int 0))) (.op .pow (.cst (.int 10)) (.cst (.int 18)))) (.seq (.asg 2 (.op .mod (.ixB ⟨0, none⟩ (.cst (.int 0))) (.var 1))) (.seq (.setI ⟨0, none⟩ (.cst (.int 0)) (.op .fdiv (.ixB ⟨0, none⟩ (.cst (.int 0))) (.var 1))) (.seq (.ret (.var 2)) .skip))) .skip) (.seq (.setI ⟨0, none⟩ (.cst (.int 1)) (.op .add (.ixB ⟨0, none⟩ (.cst (.int 1))) (.cst (.int 1)))) (.seq (.ret (.op .mod (.op .fdiv (.call 13 (.cons (.ixB ⟨0, none⟩ (.cst (.int 0))) (.cons (.ixB ⟨0, none⟩ (.cst (.int 1))) .nil))) (.cst (.int 8))) (.var 1))) .skip)))⟩
theorem c__law_roll : compBody (g.at N__law_roll false) (defScope s__law_roll) (defBody s__law_roll) = some d__law_roll.body := by kernel_rfl
theorem sc__law_loop : FnScope N__law_loop ["dice", "far"] (defScope s__law_loop) := ⟨rfl, rfl, rfl, by decide +kernel, rfl, by decide +kernel, by decide +kernel⟩
def d__law_loop : Def := ⟨4, 2, (.seq (.asg 2 (.lst .nil)) (.seq (.forS (.nm 3) .range1 (.cons (.op .add (.cst (.int 3)) (.call 14 (.cons (.bor 0) (.cons (.cst (.int 3)) .nil)))) .nil) (.seq (.app ⟨2, none⟩ (.tup (.cons (.op .sub (.call 14 (.cons (.bor 0) (.cons (.op .add (.op .mul (.cst (.int 2)) (.var 1)) (.cst (.int 1))) .nil))) (.var 1)) (.cons (.op .sub (.call 14 (.cons (.bor 0) (.cons (.op .add (.op .mul (.cst (.int 2)) (.var 1)) (.cst (.int 1))) .nil))) (.var 1)) .nil)))) .skip)) (.seq (.ret (.bltB .tuple ⟨2, none⟩)) .skip)))⟩
theorem c__law_loop : compBody (g.at N__law_loop false) (defScope s__law_loop) (defBody s__law_loop) = some d__law_loop.body := by kernel_rfl
theorem sc__law_shape : FnScope N__law_shape ["dice", "far"] (defScope s__law_shape) := ⟨rfl, rfl, rfl, by decide +kernel, rfl, by decide +kernel, by decide +kernel⟩
def d__law_shape : Def := ⟨4, 2, (.seq (.asg 2 (.blt .tuple (.cons (.lc [1] [3] (.nm 3) .range1 (.cons (.op .add (.cst (.int 1)) (.op .fdiv (.call 14 (.cons (.bor 0) (.cons (.cst (.int 4)) .nil))) (.cst (.int 3)))) .nil) (.cst (.bool true)) (.call 15 (.cons (.bor 0) (.cons (.var 1) .nil)))) .nil))) (.seq (.ret (.tup (.cons (.ix (.lst (.cons (.cst (.str "odd")) (.cons (.cst (.str "turns")) .nil))) (.call 14 (.cons (.bor 0) (.cons (.cst (.int 2)) .nil)))) (.cons (.var 2) .nil)))) .skip))⟩
theorem c__law_shape : compBody (g.at N__law_shape false) (defScope s__law_shape) (defBody s__law_shape) = some d__law_shape.body := by kernel_rfl
theorem sc__law_opacity : FnScope N__law_opacity ["dice"] (defScope s__law_opacity) := ⟨rfl, rfl, rfl, by decide +kernel, rfl, by decide +kernel, by decide +kernel⟩
def d__law_opacity : Def := ⟨2, 1, (.seq (.asg 1 (.op .add (.cst (.int 1)) (.call 14 (.cons (.bor 0) (.cons (.cst (.int 4)) .nil))))) (.seq (.ret (.ife (.cmp .eq (.call 14 (.cons (.bor 0) (.cons (.cst (.int 2)) .nil))) (.cst (.int 0))) (.tup (.cons (.cst (.int 1)) (.cons (.cst (.int 1)) .nil))) (.tup (.cons (.op .add (.cst (.int 1)) (.call 14 (.cons (.bor 0) (.cons (.var 1) .nil)))) (.cons (.var 1) .nil))))) .skip))⟩
theorem c__law_opacity : compBody (g.at N__law_opacity false) (defScope s__law_opacity) (defBody s__law_opacity) = some d__law_opacity.body := by kernel_rfl
theorem sc__law_matrix : FnScope N__law_matrix ["dice"] (defScope s__law_matrix) := ⟨rfl, rfl, rfl, by decide +kernel, rfl, by decide +kernel, by decide +kernel⟩
def d__law_matrix : Def := ⟨2, 1, (.seq (.asg 1 (.lst (.cons (.tup (.cons (.cst (.int 1)) (.cons (.cst (.int 0)) (.cons (.cst (.int 0)) (.cons (.cst (.int 1)) .nil))))) (.cons (.tup (.cons (.cst (.int 0)) (.cons (.cst (.int 1)) (.cons (.neg (.cst (.int 1))) (.cons (.cst (.int 0)) .nil))))) (.cons (.tup (.cons (.neg (.cst (.int 1))) (.cons (.cst (.int 0)) (.cons (.cst (.int 0)) (.cons (.cst (.int 1)) .nil))))) (.cons (.tup (.cons (.cst (.int 1)) (.cons (.cst (.int 1)) (.cons (.cst (.int 0)) (.cons (.cst (.int 1)) .nil))))) (.cons (.tup (.cons (.cst (.int 2)) (.cons (.cst (.int 0)) (.cons (.cst (.int 0)) (.cons (.cst (.int 1)) .nil))))) (.cons (.tup (.cons (.cst (.int 1)) (.cons (.cst (.int 0)) (.cons (.cst (.int 1)) (.cons (.neg (.cst (.int 1))) .nil))))) (.cons (.tup (.cons (.cst (.int 1)) (.cons (.neg (.cst (.int 1))) (.cons (.cst (.int 1)) (.cons (.cst (.int 1)) .nil))))) .nil))))))))) (.seq (.ret (.op .add (.ixB ⟨1, none⟩ (.call 14 (.cons (.bor 0) (.cons (.cst (.int 7)) .nil)))) (.tup (.cons (.op .sub (.call 14 (.cons (.bor 0) (.cons (.cst (.int 7)) .nil))) (.cst (.int 3))) (.cons (.op .sub (.call 14 (.cons (.bor 0) (.cons (.cst (.int 7)) .nil))) (.cst (.int 3))) .nil))))) .skip))⟩
theorem c__law_matrix : compBody (g.at N__law_matrix false) (defScope s__law_matrix) (defBody s__law_matrix) = some d__law_matrix.body := by kernel_rfl
theorem sc__law_layer : FnScope N__law_layer ["dice", "far", "deep"] (defScope s__law_layer) := ⟨rfl, rfl, rfl, by decide +kernel, rfl, by decide +kernel, by decide +kernel⟩
def d__law_layer : Def := ⟨8, 3, (.seq (.asg 3 (.call 14 (.cons (.bor 0) (.cons (.cst (.int 6)) .nil)))) (.seq (.ife (.cmpL .eq ⟨3, none⟩ (.cst (.int 0))) (.seq (.ret (.tup (.cons (.cst (.str "rub")) (.cons (.call 16 (.cons (.bor 0) (.cons (.var 1) .nil))) (.cons (.call 17 (.cons (.bor 0) .nil)) .nil))))) .skip) .skip) (.seq (.ife (.and (.cmpL .eq ⟨3, none⟩ (.cst (.int 1))) (.cmpL .gt ⟨2, none⟩ (.cst (.int 0)))) (.seq (.asg 4 (.blt .tuple (.cons (.lc [1] [5] (.nm 5) .range1 (.cons (.call 14 (.cons (.bor 0) (.cons (.cst (.int 3)) .nil))) .nil) (.cst (.bool true)) (.call 19 (.cons (.bor 0) (.cons (.var 1) (.cons (.opB .sub ⟨2, none⟩ (.cst (.int 1))) .nil))))) .nil))) (.seq (.asg 6 (.ife (.cmp .eq (.call 14 (.cons (.bor 0) (.cons (.cst (.int 2)) .nil))) (.cst (.int 0))) (.call 16 (.cons (.bor 0) (.cons (.var 1) .nil))) (.cst .none))) (.seq (.ret (.tup (.cons (.cst (.str "group")) (.cons (.var 4) (.cons (.call 17 (.cons (.bor 0) .nil)) (.cons (.var 6) (.cons (.call 18 (.cons (.bor 0) .nil)) .nil))))))) .skip))) .skip) (.seq (.asg 7 (.tup (.cons (.call 14 (.cons (.bor 0) (.cons (.cst (.int 3)) .nil))) (.cons (.call 14 (.cons (.bor 0) (.cons (.cst (.int 2)) .nil))) (.cons (.op .mul (.call 14 (.cons (.bor 0) (.cons (.cst (.int 2)) .nil))) (.cst (.int 9))) .nil))))) (.seq (.ret (.tup (.cons (.cst (.str "fill")) (.cons (.call 16 (.cons (.bor 0) (.cons (.var 1) .nil))) (.cons (.var 7) (.cons (.call 17 (.cons (.bor 0) .nil)) .nil)))))) .skip)))))⟩
theorem c__law_layer : compBody (g.at N__law_layer false) (defScope s__law_layer) (defBody s__law_layer) = some d__law_layer.body := by kernel_rfl
theorem sc__law_drawing : FnScope N__law_drawing ["dice", "many", "far"] (defScope s__law_drawing) := ⟨rfl, rfl, rfl, by decide +kernel, rfl, by decide +kernel, by decide +kernel⟩
def d__law_drawing : Def := ⟨5, 3, (.seq (.asg 3 (.blt .tuple (.cons (.lc [2] [4] (.nm 4) .range1 (.cons (.call 14 (.cons (.bor 0) (.cons (.opB .add ⟨1, none⟩ (.cst (.int 1))) .nil))) .nil) (.cst (.bool true)) (.call 19 (.cons (.bor 0) (.cons (.var 2) (.cons (.cst (.int 1)) .nil))))) .nil))) (.seq (.whl (.cmp .gt (.call 21 (.cons (.var 3) .nil)) (.cst (.int 45))) (.seq (.asg 3 (.slcB false true ⟨3, none⟩ .nil (.neg (.cst (.int 1))))) .skip)) (.seq (.ret (.var 3)) .skip)))⟩
theorem c__law_drawing : compBody (g.at N__law_drawing false) (defScope s__law_drawing) (defBody s__law_drawing) = some d__law_drawing.body := by kernel_rfl
theorem sc__law_size : FnScope N__law_size ["layers"] (defScope s__law_size) := ⟨rfl, rfl, rfl, by decide +kernel, rfl, by decide +kernel, by decide +kernel⟩
def d__law_size : Def := ⟨5, 1, (.seq (.asg 1 (.cst (.int 0))) (.seq (.forS (.nm 2) .seq (.cons (.var 0) .nil) (.seq (.asg 3 (.ife (.cmp .eq (.ixB ⟨2, none⟩ (.cst (.int 0))) (.cst (.str "group"))) (.ixB ⟨2, none⟩ (.cst (.int 3))) (.ixB ⟨2, none⟩ (.cst (.int 1))))) (.seq (.ife (.cmp .eq (.ixB ⟨2, none⟩ (.cst (.int 0))) (.cst (.str "group"))) (.seq (.asg 1 (.opB .add ⟨1, none⟩ (.call 21 (.cons (.ixB ⟨2, none⟩ (.cst (.int 1))) .nil)))) .skip) .skip) (.seq (.ife (.cmpL .notN ⟨3, none⟩ (.cst .none)) (.seq (.asg 1 (.opB .add ⟨1, none⟩ (.blt .sum (.cons (.lc [] [4] (.nm 4) .seq (.cons (.ixB ⟨3, none⟩ (.cst (.int 1))) .nil) (.cst (.bool true)) (.bltB .len ⟨4, none⟩)) .nil)))) .skip) .skip) .skip)))) (.seq (.ret (.var 1)) .skip)))⟩
theorem c__law_size : compBody (g.at N__law_size false) (defScope s__law_size) (defBody s__law_size) = some d__law_size.body := by kernel_rfl
theorem sc__law_bad_layers : FnScope N__law_bad_layers ["shape"] (defScope s__law_bad_layers) := ⟨rfl, rfl, rfl, by decide +kernel, rfl, by decide +kernel, by decide +kernel⟩
def d__law_bad_layers : Def := ⟨6, 1, (.seq (.asg 1 (.lst (.cons (.cst .none) (.cons (.cst (.int 5)) (.cons (.tup .nil) (.cons (.tup (.cons (.cst (.str "fill")) (.cons (.var 0) (.cons (.tup (.cons (.cst (.int 1)) (.cons (.cst (.int 2)) (.cons (.cst (.int 3)) .nil)))) .nil)))) (.cons (.tup (.cons (.cst (.str "fill")) (.cons (.var 0) (.cons (.tup (.cons (.cst (.int 1)) (.cons (.cst (.int 2)) .nil))) (.cons (.tup (.cons (.cst (.int 1)) (.cons (.cst (.int 1)) .nil))) .nil))))) .nil))))))) (.seq (.asg 1 (.opB .add ⟨1, none⟩ (.lst (.cons (.tup (.cons (.cst (.str "fill")) (.cons (.var 0) (.cons (.tup (.cons (.cst (.int 1)) (.cons (.cst (.int 2)) (.cons (.cst (.int 10)) .nil)))) (.cons (.tup (.cons (.cst (.int 1)) (.cons (.cst (.int 1)) .nil))) .nil))))) .nil)))) (.seq (.asg 1 (.opB .add ⟨1, none⟩ (.lst (.cons (.tup (.cons (.cst (.str "fill")) (.cons (.var 0) (.cons (.tup (.cons (.cst (.int 1)) (.cons (.cst (.int 2)) (.cons (.cst (.int 3)) .nil)))) (.cons (.tup (.cons (.cst (.int 0)) (.cons (.cst (.int 1)) .nil))) .nil))))) (.cons (.tup (.cons (.cst (.str "fill")) (.cons (.var 0) (.cons (.tup (.cons (.cst (.int 1)) (.cons (.cst (.int 2)) (.cons (.cst (.int 3)) .nil)))) (.cons (.tup (.cons (.cst (.int 2)) (.cons (.cst (.int 1)) .nil))) .nil))))) .nil))))) (.seq (.asg 1 (.opB .add ⟨1, none⟩ (.lst (.cons (.tup (.cons (.cst (.str "fill")) (.cons (.var 0) (.cons (.tup (.cons (.cst (.int 1)) (.cons (.cst (.int 2)) (.cons (.cst (.int 3)) .nil)))) (.cons (.tup (.cons (.cst (.int 1)) (.cons (.cst (.int 7)) .nil))) .nil))))) .nil)))) (.seq (.asg 1 (.opB .add ⟨1, none⟩ (.lst (.cons (.tup (.cons (.cst (.str "rub")) (.cons (.var 0) .nil))) (.cons (.tup (.cons (.cst (.str "rub")) (.cons (.var 0) (.cons (.tup (.cons (.cst (.int 1)) (.cons (.cst (.int 1)) .nil))) (.cons (.cst (.int 0)) .nil))))) (.cons (.tup (.cons (.cst (.str "rub")) (.cons (.cst .none) (.cons (.tup (.cons (.cst (.int 1)) (.cons (.cst (.int 1)) .nil))) .nil)))) (.cons (.lst (.cons (.cst (.str "rub")) (.cons (.var 0) (.cons (.tup (.cons (.cst (.int 1)) (.cons (.cst (.int 1)) .nil))) .nil)))) .nil))))))) (.seq (.asg 1 (.opB .add ⟨1, none⟩ (.lst (.cons (.tup (.cons (.cst (.str "fill")) (.cons (.var 0) (.cons (.tup (.cons (.cst (.bool true)) (.cons (.cst (.int 2)) (.cons (.cst (.int 3)) .nil)))) (.cons (.tup (.cons (.cst (.int 1)) (.cons (.cst (.int 1)) .nil))) .nil))))) (.cons (.tup (.cons (.cst (.str "group")) (.cons (.tup .nil) (.cons (.tup (.cons (.cst (.int 1)) (.cons (.cst (.int 1)) .nil))) (.cons (.cst .none) .nil))))) .nil))))) (.seq (.asg 1 (.opB .add ⟨1, none⟩ (.lst (.cons (.tup (.cons (.cst (.str "lay")) (.cons (.var 0) (.cons (.tup (.cons (.cst (.int 1)) (.cons (.cst (.int 1)) .nil))) .nil)))) .nil)))) (.seq (.asg 2 (.lst (.cons (.tup (.cons (.cst (.int 1)) (.cons (.cst (.int 0)) (.cons (.cst (.int 0)) (.cons (.cst (.int 0)) (.cons (.cst (.int 0)) (.cons (.cst (.int 0)) .nil))))))) (.cons (.tup (.cons (.cst (.int 1)) (.cons (.cst (.int 1)) (.cons (.cst (.int 1)) (.cons (.cst (.int 1)) (.cons (.cst (.int 0)) (.cons (.cst (.int 0)) .nil))))))) (.cons (.tup (.cons (.cst (.int 3)) (.cons (.cst (.int 0)) (.cons (.cst (.int 0)) (.cons (.cst (.int 1)) (.cons (.cst (.int 0)) (.cons (.cst (.int 0)) .nil))))))) (.cons (.tup (.cons (.cst (.int 1)) (.cons (.cst (.int 0)) (.cons (.cst (.int 0)) (.cons (.cst (.int 1)) (.cons (.cst (.int 10)) (.cons (.cst (.int 0)) .nil))))))) .nil)))))) (.seq (.asg 2 (.opB .add ⟨2, none⟩ (.lst (.cons (.tup (.cons (.cst (.int 1)) (.cons (.cst (.int 0)) (.cons (.cst (.int 0)) (.cons (.cst (.int 1)) (.cons (.cst (.int 0)) .nil)))))) (.cons (.cst .none) .nil))))) (.seq (.forS (.nm 3) .seq (.cons (.var 2) .nil) (.seq (.app ⟨1, none⟩ (.tup (.cons (.cst (.str "group")) (.cons (.tup .nil) (.cons (.tup (.cons (.cst (.int 1)) (.cons (.cst (.int 1)) .nil))) (.cons (.cst .none) (.cons (.var 3) .nil))))))) .skip)) (.seq (.asg 4 (.tup (.cons (.cst (.str "group")) (.cons (.tup .nil) (.cons (.tup (.cons (.cst (.int 1)) (.cons (.cst (.int 1)) .nil))) (.cons (.cst .none) (.cons (.tup (.cons (.cst (.int 1)) (.cons (.cst (.int 0)) (.cons (.cst (.int 0)) (.cons (.cst (.int 1)) (.cons (.cst (.int 0)) (.cons (.cst (.int 0)) .nil))))))) .nil))))))) (.seq (.forS (.nm 5) .range1 (.cons (.cst (.int 2)) .nil) (.seq (.asg 4 (.tup (.cons (.cst (.str "group")) (.cons (.tup (.cons (.var 4) .nil)) (.cons (.tup (.cons (.cst (.int 1)) (.cons (.cst (.int 1)) .nil))) (.cons (.cst .none) (.cons (.tup (.cons (.cst (.int 1)) (.cons (.cst (.int 0)) (.cons (.cst (.int 0)) (.cons (.cst (.int 1)) (.cons (.cst (.int 0)) (.cons (.cst (.int 0)) .nil))))))) .nil))))))) .skip)) (.seq (.ret (.opB .add ⟨1, none⟩ (.lst (.cons (.var 4) (.cons (.tup (.cons (.cst (.str "group")) (.cons (.op .mul (.tup (.cons (.tup (.cons (.cst (.str "rub")) (.cons (.var 0) (.cons (.tup (.cons (.cst (.int 1)) (.cons (.cst (.int 1)) .nil))) .nil)))) .nil)) (.cst (.int 5))) (.cons (.tup (.cons (.cst (.int 1)) (.cons (.cst (.int 1)) .nil))) (.cons (.cst .none) (.cons (.tup (.cons (.cst (.int 1)) (.cons (.cst (.int 0)) (.cons (.cst (.int 0)) (.cons (.cst (.int 1)) (.cons (.cst (.int 0)) (.cons (.cst (.int 0)) .nil))))))) .nil)))))) .nil))))) .skip)))))))))))))⟩
theorem c__law_bad_layers : compBody (g.at N__law_bad_layers false) (defScope s__law_bad_layers) (defBody s__law_bad_layers) = some d__law_bad_layers.body := by kernel_rfl
def Γ : List Def := [d_is_whole, d_is_loop, d_is_shape, d_is_colour, d_is_opacity, d_is_matrix, d_is_layer_within, d_are_layers, d_points_in, d_is_drawing, d_is_layer, d_need_drawing, d_count_points, d__law_drawn, d__law_roll, d__law_loop, d__law_shape, d__law_opacity, d__law_matrix, d__law_layer, d__law_drawing, d__law_size, d__law_bad_layers]
theorem r_is_whole (k : Nat) : run Γ (k + 1) 0 = runDef (run Γ k) d_is_whole := run_at rfl k
theorem r_is_loop (k : Nat) : run Γ (k + 1) 1 = runDef (run Γ k) d_is_loop := run_at rfl k
theorem r_is_shape (k : Nat) : run Γ (k + 1) 2 = runDef (run Γ k) d_is_shape := run_at rfl k
theorem r_is_colour (k : Nat) : run Γ (k + 1) 3 = runDef (run Γ k) d_is_colour := run_at rfl k
theorem r_is_opacity (k : Nat) : run Γ (k + 1) 4 = runDef (run Γ k) d_is_opacity := run_at rfl k
theorem r_is_matrix (k : Nat) : run Γ (k + 1) 5 = runDef (run Γ k) d_is_matrix := run_at rfl k
theorem r_is_layer_within (k : Nat) : run Γ (k + 1) 6 = runDef (run Γ k) d_is_layer_within := run_at rfl k
theorem r_are_layers (k : Nat) : run Γ (k + 1) 7 = runDef (run Γ k) d_are_layers := run_at rfl k
theorem r_points_in (k : Nat) : run Γ (k + 1) 8 = runDef (run Γ k) d_points_in := run_at rfl k
theorem r_is_drawing (k : Nat) : run Γ (k + 1) 9 = runDef (run Γ k) d_is_drawing := run_at rfl k
theorem r_is_layer (k : Nat) : run Γ (k + 1) 10 = runDef (run Γ k) d_is_layer := run_at rfl k
theorem r_need_drawing (k : Nat) : run Γ (k + 1) 11 = runDef (run Γ k) d_need_drawing := run_at rfl k
theorem r_count_points (k : Nat) : run Γ (k + 1) 12 = runDef (run Γ k) d_count_points := run_at rfl k
theorem r__law_drawn (k : Nat) : run Γ (k + 1) 13 = runDef (run Γ k) d__law_drawn := run_at rfl k
theorem r__law_roll (k : Nat) : run Γ (k + 1) 14 = runDef (run Γ k) d__law_roll := run_at rfl k
theorem r__law_loop (k : Nat) : run Γ (k + 1) 15 = runDef (run Γ k) d__law_loop := run_at rfl k
theorem r__law_shape (k : Nat) : run Γ (k + 1) 16 = runDef (run Γ k) d__law_shape := run_at rfl k
theorem r__law_opacity (k : Nat) : run Γ (k + 1) 17 = runDef (run Γ k) d__law_opacity := run_at rfl k
theorem r__law_matrix (k : Nat) : run Γ (k + 1) 18 = runDef (run Γ k) d__law_matrix := run_at rfl k
theorem r__law_layer (k : Nat) : run Γ (k + 1) 19 = runDef (run Γ k) d__law_layer := run_at rfl k
theorem r__law_drawing (k : Nat) : run Γ (k + 1) 20 = runDef (run Γ k) d__law_drawing := run_at rfl k
theorem r__law_size (k : Nat) : run Γ (k + 1) 21 = runDef (run Γ k) d__law_size := run_at rfl k
theorem r__law_bad_layers (k : Nat) : run Γ (k + 1) 22 = runDef (run Γ k) d__law_bad_layers := run_at rfl k
def lawBody : IS := (.seq (.asg 2 (.call 20 (.cons (.bor 1) (.cons (.cst (.int 4)) (.cons (.cst (.int 9)) .nil))))) (.seq (.ife (.or (.not (.call 9 (.cons (.var 2) .nil))) (.cmp .ne (.call 12 (.cons (.var 2) .nil)) (.call 21 (.cons (.var 2) .nil)))) (.seq (.ret (.cst (.bool false))) .skip) .skip) (.seq (.ife (.not (.blt .all (.cons (.lc [3] [3] (.nm 3) .seq (.cons (.var 2) .nil) (.cst (.bool true)) (.call 10 (.cons (.var 3) .nil))) .nil))) (.seq (.ret (.cst (.bool false))) .skip) .skip) (.seq (.asg 4 (.call 16 (.cons (.bor 1) (.cons (.cst (.int 9)) .nil)))) (.seq (.forS (.nm 5) .seq (.cons (.call 22 (.cons (.var 4) .nil)) .nil) (.seq (.ife (.or (.call 10 (.cons (.var 5) .nil)) (.call 9 (.cons (.tup (.cons (.var 5) .nil)) .nil))) (.seq (.ret (.cst (.bool false))) .skip) .skip) (.seq (.ife (.cmp .ne (.told ["InvalidDrawing"] (.call 12 (.cons (.tup (.cons (.var 5) .nil)) .nil))) (.tup (.cons (.cst (.str "error")) (.cons (.cst (.str "InvalidDrawing")) .nil)))) (.seq (.ret (.cst (.bool false))) .skip) .skip) .skip))) (.seq (.asg 6 (.tup (.cons (.tup (.cons (.cst (.int 0)) (.cons (.cst (.int 0)) .nil))) (.cons (.tup (.cons (.cst (.int 9)) (.cons (.neg (.cst (.int 9))) .nil))) (.cons (.tup (.cons (.neg (.cst (.int 9))) (.cons (.cst (.int 9)) .nil))) (.cons (.tup (.cons (.cst (.int 0)) (.cons (.cst (.int 1)) .nil))) (.cons (.tup (.cons (.cst (.int 1)) (.cons (.cst (.int 0)) .nil))) (.cons (.tup (.cons (.cst (.int 2)) (.cons (.cst (.int 2)) .nil))) (.cons (.tup (.cons (.cst (.int 3)) (.cons (.cst (.int 3)) .nil))) (.cons (.tup (.cons (.cst (.int 4)) (.cons (.cst (.int 4)) .nil))) .nil)))))))))) (.seq (.asg 7 (.tup (.cons (.cst (.str "rub")) (.cons (.tup (.cons (.cst (.str "turns")) (.cons (.op .mul (.tup (.cons (.var 6) .nil)) (.cst (.int 3))) .nil))) (.cons (.tup (.cons (.cst (.int 6)) (.cons (.cst (.int 6)) .nil))) .nil))))) (.seq (.ife (.or (.not (.call 10 (.cons (.var 7) .nil))) (.or (.not (.call 9 (.cons (.tup (.cons (.var 7) (.cons (.var 7) .nil))) .nil))) (.call 9 (.cons (.tup (.cons (.var 7) (.cons (.var 7) (.cons (.var 7) .nil)))) .nil)))) (.seq (.ret (.cst (.bool false))) .skip) .skip) (.seq (.asg 8 (.tup (.cons (.cst (.str "rub")) (.cons (.tup (.cons (.cst (.str "odd")) (.cons (.tup (.cons (.slcB false true ⟨6, none⟩ .nil (.cst (.int 3))) .nil)) .nil))) (.cons (.tup (.cons (.cst (.int 1)) (.cons (.cst (.int 6)) .nil))) .nil))))) (.seq (.ife (.or (.not (.call 9 (.cons (.op .mul (.tup (.cons (.var 8) .nil)) (.cst (.int 4))) .nil))) (.or (.call 9 (.cons (.op .mul (.tup (.cons (.var 8) .nil)) (.cst (.int 5))) .nil)) (.call 9 (.cons (.lst (.cons (.var 8) .nil)) .nil)))) (.seq (.ret (.cst (.bool false))) .skip) .skip) (.seq (.asg 9 (.lst (.cons (.tup (.cons (.cst (.str "odd")) (.cons (.tup (.cons (.opB .add ⟨6, none⟩ (.slcB false true ⟨6, none⟩ .nil (.cst (.int 1)))) .nil)) .nil))) (.cons (.tup (.cons (.cst (.str "odd")) (.cons (.op .mul (.tup (.cons (.var 6) .nil)) (.cst (.int 4))) .nil))) (.cons (.tup (.cons (.cst (.str "odd")) (.cons (.tup (.cons (.slcB false true ⟨6, none⟩ .nil (.cst (.int 2))) .nil)) .nil))) .nil))))) (.seq (.asg 9 (.opB .add ⟨9, none⟩ (.lst (.cons (.tup (.cons (.cst (.str "odd")) (.cons (.var 6) .nil))) (.cons (.cst .none) (.cons (.tup (.cons (.cst (.str "odd")) .nil)) .nil)))))) (.seq (.forS (.nm 5) .seq (.cons (.var 9) .nil) (.seq (.ife (.or (.call 2 (.cons (.var 5) .nil)) (.call 10 (.cons (.tup (.cons (.cst (.str "rub")) (.cons (.var 5) (.cons (.tup (.cons (.cst (.int 1)) (.cons (.cst (.int 1)) .nil))) .nil)))) .nil))) (.seq (.ret (.cst (.bool false))) .skip) .skip) .skip)) (.seq (.ife (.or (.not (.call 2 (.cons (.var 4) .nil))) (.call 2 (.cons (.tup (.cons (.ixB ⟨4, none⟩ (.cst (.int 0))) (.cons (.blt .list (.cons (.ixB ⟨4, none⟩ (.cst (.int 1))) .nil)) .nil))) .nil))) (.seq (.ret (.cst (.bool false))) .skip) .skip) .skip))))))))))))))
abbrev lawTl : Bool := true
theorem c_law : compBody (g.at N_law true) (defScope s_law) (forBody (defBody s_law)) = some lawBody := by kernel_rfl
end Tb
set_option maxHeartbeats 4000000
namespace Tb
open PySem VL
open PySem.Spec PyProof.Rows L2
theorem sc_cell : FnScope ["script", "k"] ["script", "k"] (defScope s__law_cell) := ⟨rfl, rfl, rfl, by decide +kernel, rfl, by decide +kernel, by decide +kernel⟩
theorem sc_rounds : FnScope ["script", "most", "k"] ["script", "most"] (defScope s__law_rounds) := ⟨rfl, rfl, rfl, by decide +kernel, rfl, by decide +kernel, by decide +kernel⟩
theorem sc_law : FnScope N_law ["script"] (defScope s_law) := ⟨rfl, rfl, rfl, by decide +kernel, rfl, by decide +kernel, by decide +kernel⟩
section
variable {P : Program} {w : World} {K : PySem.W.Frag} {mg : Str → Option Value} {base : Heap}
theorem ok_cell {f : Addr} {fd : FuncData} {k : Nat} (F : Fun K "_law_cell" "_law_cell" s__law_cell f fd) (ml : mg "len" = none) : FnOk P w K mg base CX0 (k + 1) f fd ["script", "k"] (spCell K) := by
  refine F.ok sc_cell (fun vs H Q E h => ?_) (fun cdv A outer s H vs Q E hr h => ?_)
  · obtain ⟨a, ns, k, rfl, _⟩ := h
    rfl
  · obtain ⟨a, ns, k, rfl, hS, hlen, hk, q⟩ := h
    refine ⟨_, pss_cons (ps_if (pt_cmpR (op_eqD hr.units) (pv 0) (pe_lst pa_nil) (nomark _)) (pss_one (ps_ret (pe_op op_mul (pv 1) pe_int))) pss_nil)
      (pss_one (ps_ret (pe_op op_add (pe_ix ix_list (pv 0) (pe_op op_mod (pv 1) (pe_callB call_len_seq (by rfl) ml PySem.boot_len (pa_cons (pv 0) pa_nil))) (fun _ _ => rfl))
        (pe_op op_mul (pe_op op_fdiv (pv 1) (pe_callB call_len_seq (by rfl) ml PySem.boot_len (pa_cons (pv 0) pa_nil))) pe_int)))), ?_⟩
    refine ⟨.ref a, rfl, Nat.zero_le _, fun o no => ?_⟩
    have sm : Same H (upd H o (.lst [])) := HotL.sameU no
    have hS1 : SqL K (upd H o (.lst [])) a (ns.map V.int) := sm.seq hS
    refine ⟨.list (ns.map PyData.int), .list [], .lst hS1 (ints_dp ns), .lst (SqL.of upd_same) .nil, ints_shaped ns, rfl, _, rfl, ite2 (fun e => ?_) (fun e => ?_)⟩
    · exact ⟨.int k, rfl, k, 7919, rfl, rfl, .inr ⟨by decide, by decide⟩, q _ _ sm⟩
    · have hne : ns ≠ [] := fun z => by subst z; exact e rfl
      have hpos : 0 < (ns.map V.int).length := by rw [List.length_map]; exact List.length_pos_iff.mpr hne
      have hl63 : (ns.map V.int).length ≤ 63 := by rw [List.length_map]; exact hlen
      have h1 : 0 ≤ k % ((ns.map V.int).length : Int) := Int.emod_nonneg _ (by omega)
      have h2 : k % ((ns.map V.int).length : Int) < (ns.map V.int).length := Int.emod_lt_of_pos _ (by omega)
      obtain ⟨j, hj⟩ := Int.eq_ofNat_of_zero_le h1
      have hjl : j < ns.length := by rw [hj, List.length_map] at h2; omega
      have hat : atI (ns.map V.int) (k % ((ns.map V.int).length : Int)) = some (.int ns[j]) := by
        rw [hj]
        exact atI_nat (by rw [List.getElem?_map, List.getElem?_eq_getElem hjl]; rfl)
      refine ⟨.ref a, rfl, .int k, rfl, .ref a, rfl, a, _, rfl, .inl hS1, k, _, rfl, rfl, by omega, a, _, _, .int ns[j], rfl, rfl, hS1, hat, .int k, rfl, .ref a, rfl, a, _, rfl, .inl hS1, k, _, rfl, rfl, ⟨by omega, by omega⟩, _, 104729, rfl, rfl, .inr ⟨by decide, by decide⟩, _, _, rfl, rfl, q _ _ sm⟩
theorem ok_rounds {f fc : Addr} {fd fdc : FuncData} {k : Nat} (F : Fun K "_law_rounds" "_law_rounds" s__law_rounds f fd) (FC : Fun K "_law_cell" "_law_cell" s__law_cell fc fdc) (bC : Binds K fdc ["script", "k"] []) (gC : mg "_law_cell" = some (.ref fc)) (ml : mg "len" = none) (mx : mg "max" = none) (mn : mg "min" = none) (mr : mg "range" = none) :
    FnOk P w K mg base CX0 (k + 2) f fd ["script", "most"] (spRounds K) := by
  have GC : FnOk P w K mg base CX0 (k + 1) fc fdc ["script", "k"] (spCell K) := ok_cell FC ml
  refine F.ok sc_rounds (fun vs H Q E h => ?_) (fun cdv A outer s H vs Q E hr h => ?_)
  · obtain ⟨a, ns, m, rfl, _⟩ := h
    rfl
  · obtain ⟨a, ns, m, rfl, hS, hlen, hm0, hm, q⟩ := h
    refine ⟨_, pss_one (ps_ret (pe_lc (own := [("k", 2)]) (g := gName 2) (tt := tYes) rfl sc_rounds.nd
      (pi_range1 (by rfl) mr (pa_cons (pe_callB (call_max2 rfl) (by rfl) mx (by decide +kernel) (pa_cons pe_int (pa_cons (pe_callB (call_min2 rfl) (by rfl) mn (by decide +kernel) (pa_cons (pv 1) (pa_cons (pe_callB call_len_seq (by rfl) ml PySem.boot_len (pa_cons (pv 0) pa_nil)) pa_nil))) pa_nil))) pa_nil))
      (blkOk_by (N := ["script", "most", "k"]) (sc := defScope s__law_rounds) (by decide +kernel)) (fun _ _ _ _ _ => pg_name (i := 2) sc_rounds.nd rfl (Or.inl rfl)) (fun _ _ _ _ _ => pts_nil)
      (fun _ _ _ _ _ => pe_lst (pa_cons (pe_call GC hr (by rfl) gC FC.kp bC .nil pass0 (pa_cons (pv 0) (pa_cons (pv 2) pa_nil))) (pa_cons pe_int pa_nil))))), ?_⟩
    refine ⟨.int m, rfl, .ref a, rfl, a, _, rfl, .inl hS, m, _, rfl, 1, _, rfl, _, rfl, ?_, ?_, fun Dd nD => ?_⟩
    · rw [List.length_map]; split <;> (try split) <;> omega
    · rw [List.length_map]; split <;> (try split) <;> omega
    · generalize hn : (if (if ((ns.map V.int).length : Int) < m then ((ns.map V.int).length : Int) else m) > 1 then (if ((ns.map V.int).length : Int) < m then ((ns.map V.int).length : Int) else m) else 1) = nn
      have hnn : nn ≤ 63 := by
        rw [← hn, List.length_map]; split <;> (try split) <;> omega
      refine lc_range (lo := 0) (n := nn.toNat) (fun i H' => ∃ as : List Addr, Same H H' ∧ H' Dd = some (.lst (as.map V.ref)) ∧ as.length = i ∧ as.Nodup ∧ Dd ∉ as ∧ ∀ b ∈ as, H b = none ∧ ∃ c : Int, H' b = some (.lst [.int c, .int 0])) ?_ ?_ ?_
      · exact ⟨[], HotL.sameU nD, upd_same, rfl, List.nodup_nil, by simp, fun b hb => by cases hb⟩
      · rintro i Hi hi ⟨as, sm, hD, hl, nd, nm, hc⟩
        refine ⟨rfl, ?_⟩
        refine ⟨.ref a, rfl, .int (0 + i), rfl, a, ns, 0 + i, rfl, sm.seq hS, hlen, by omega, fun c H2 sm2 => ⟨by show 2 ≤ sizeLine; decide, fun p np => ?_⟩⟩
        have nDp : Dd ≠ p := ne_of_none (sm2 _ _ hD) np
        refine ⟨as.map V.ref, by rw [upd_ne nDp]; exact sm2 _ _ hD, ?_, as ++ [p], ?_, ?_, ?_, ?_, ?_, ?_⟩
        · rw [List.length_map, hl]; exact small1000 (by omega)
        · intro b o e
          have e1 := sm2 _ _ (sm _ _ e)
          rw [upd_ne (ne_of_none e nD), upd_ne (ne_of_none e1 np)]; exact e1
        · rw [upd_same, List.map_append]; rfl
        · rw [List.length_append, hl]; rfl
        · rw [List.nodup_append]
          refine ⟨nd, by simp, fun x hx y hy => ?_⟩
          have : y = p := by simpa using hy
          subst this
          obtain ⟨_, c', e⟩ := hc x hx
          exact ne_of_none (sm2 _ _ e) np
        · rw [List.mem_append]
          rintro (z | z)
          · exact nm z
          · exact nDp (by simpa using z)
        · intro b hb
          rcases List.mem_append.mp hb with hb | hb
          · obtain ⟨h0, c', e⟩ := hc b hb
            have e1 := sm2 _ _ e
            refine ⟨h0, c', ?_⟩
            rw [upd_ne (fun z => by subst z; exact nm hb), upd_ne (ne_of_none e1 np)]; exact e1
          · have : b = p := by simpa using hb
            subst this
            exact ⟨sm.free (sm2.free np), c, by rw [upd_ne nDp.symm, upd_same]⟩
      · rintro H' ⟨as, sm, hD, hl, nd, nm, hc⟩
        exact q Dd as H' sm ⟨hD, nd, nm, by omega, fun b hb => (hc b hb).2⟩
variable [Tabl]
theorem ok_law {f fr : Addr} {fd fdr : FuncData} {k : Nat} {cf : CF} (F : Fun K "law" "law" s_law f fd) (FR : Fun K "_law_rounds" "_law_rounds" s__law_rounds fr fdr) (bR : Binds K fdr ["script", "most"] []) (gR : mg "_law_rounds" = some (.ref fr))
    (GR : FnOk P w K mg base CX0 2 fr fdr ["script", "most"] (spRounds K)) (hT : lawTl = true → g.told = true ∧ LamOk base mg fd.code ("law" ++ ".<locals>." ++ "<lambda>")) (T : TabOk g P w K mg base cf k) (hall : ∀ c : Int, ∃ s', evS cf lawBody (roundS N_law.length 1 c) = .ok .next s' ∧ s'.length = N_law.length) :
    FnOk P w K mg base (L2N.CX P w) (k + 4) f fd ["script"] (spLaw K) := by
  refine okN F sc_law (fun vs H Q E h => ?_) (fun cdv hcd A outer s H vs Q E hr h => ?_)
  · obtain ⟨a, ns, rfl, _⟩ := h
    rfl
  · have ok : StOk (g.at N_law lawTl) cf (cxOf (L2N.CX P w) P w K mg base N_law "law" (defScope s_law) f cdv A outer s H E) (fun cls d _ H => E cls d H) k :=
      StOk.of T rfl rfl rfl rfl rfl rfl sc_law.nd rfl (L2N.takes_of rfl rfl rfl rfl) rfl rfl hr (passes_of rfl) (fun _ => rfl) (fun z => ⟨(hT z).1, by have := (hT z).2; rw [hcd] at this; exact this⟩)
    obtain ⟨a, ns, rfl, hS, hlen, hTb, q⟩ := h
    refine ⟨_, pss_cons (ps_for (passes_of rfl) rfl (pi_list (pe_call GR (hr.mono (by omega)) (by rfl) gR FR.kp bR .nil pass0 (pa_cons (pv 0) (pa_cons pe_int pa_nil)))) (pg_name (i := 1) sc_law.nd rfl (.inl rfl))
      (cSs_ok (compS_ok 40 40) ok rfl c_law)) (pss_one (ps_ret pe_bl)), ?_⟩
    exact ⟨.ref a, rfl, a, ns, _, rfl, hS, hlen, by decide, by decide, fun Dd as H' sm R => ⟨Dd, rfl, ⟨_, SqL.of R.1⟩, law_for hall R (hTb.ext sm) rfl (by decide +kernel) (fun σ' H' => q H')⟩⟩
end
end Tb
set_option maxHeartbeats 4000000
namespace Tb
open PySem VL
open PySem.Spec PyProof.Rows L2 L2H HotL
theorem sc_term : FnScope N__law_term ["e"] (defScope s__law_term) := ⟨rfl, rfl, rfl, by decide +kernel, rfl, by decide +kernel, by decide +kernel⟩
theorem term_walk {P : Program} {w : World} {K : PySem.W.Frag} {mg : Str → Option Value} {base : Heap} {A : Around} {outer : List Env} {s : Shared} {H : Hp} {p : Addr × Obj} {f D : Addr} {cdv : Value} {cs : Nat → Addr} {j : Nat} {Q : VK} (hot : Hot1 A p) (hj : j < 15)
    (C : ExcC K D) (hz : Zc (.ref D) none p.2) (hf : ∃ vs, p.2.data = .fields vs) (mi : mg "isinstance" = none) (ms : mg "sum" = none) (mt : mg "int" = none) (mv : mg "ValueError" = none)
    (m0 : mg "InvalidNumber" = some (.ref (cs 0)))
    (m1 : mg "InvalidPoint" = some (.ref (cs 1)))
    (m2 : mg "InvalidShape" = some (.ref (cs 2)))
    (m3 : mg "InvalidLayer" = some (.ref (cs 3)))
    (m4 : mg "InvalidDrawing" = some (.ref (cs 4)))
    (m5 : mg "InvalidRegion" = some (.ref (cs 5)))
    (m6 : mg "InvalidPlan" = some (.ref (cs 6)))
    (m7 : mg "InvalidIndex" = some (.ref (cs 7)))
    (m8 : mg "InvalidBox" = some (.ref (cs 8)))
    (m9 : mg "InvalidMove" = some (.ref (cs 9)))
    (m10 : mg "InvalidText" = some (.ref (cs 10)))
    (m11 : mg "OnEdge" = some (.ref (cs 11)))
    (m12 : mg "Blank" = some (.ref (cs 12)))
    (m13 : mg "TooMany" = some (.ref (cs 13)))
    (m14 : mg "NothingToUndo" = some (.ref (cs 14)))
    (hk : ∀ i, i < 15 → PySem.W.kitOne K (.ref D) (.ref (cs i)) = some (decide (i = j))) (hv : PySem.W.kitOne K (.ref D) (.type "ValueError") = some true)
    (hQ : ∀ (a : Addr) (H' : Hp), H a = none → Same H H' → H' a = some (.tup [.str "error", .str (termKinds.getD j "")]) → Q (.ref a) H') :
    ∃ t, PSs (cxH C8.CX0 P w K mg base N__law_term "_law_term" (defScope s__law_term) f cdv A outer s H C8.E0 p) (defBody s__law_term) t ∧ t { nx := fun _ H' => Q .non H', rt := Q } (L2.start N__law_term [.ref p.1]) H := by
  have hotC : HotC (cxH C8.CX0 P w K mg base N__law_term "_law_term" (defScope s__law_term) f cdv A outer s H C8.E0 p) := ⟨p, hot, List.mem_singleton.mpr rfl⟩
  have ia : ∀ (i : Nat) (x : Str) (p1 p2 p3 p4 : Pos), mg x = some (.ref (cs i)) → (x == ("__debug__" : Str)) = false → (defScope s__law_term).names.lookup x = some .globalImplicit →
      PE (cxH C8.CX0 P w K mg base N__law_term "_law_term" (defScope s__law_term) f cdv A outer s H C8.E0 p) (.Call (.Name "isinstance" p1) [.Name "e" p2, .Name x p3] [] p4) (tCB (rIsE K D p.1) (tCons (tVar 0) (tCons (tC (.ref (cs i))) tNil))) := fun i x p1 p2 p3 p4 hm hd hg =>
    pe_callB (call_isP (p := p) (List.mem_singleton.mpr rfl) C hz hf) (by rfl) mi (by decide +kernel) (pa_cons (pv 0) (pa_cons (pe_glob hg hm rfl hd) pa_nil))
  refine ⟨_, (pss_cons (ps_set (i := 1) sc_term.nd rfl (.inl rfl) (pe_lst (pa_cons (ia 0 _ _ _ _ _ m0 (by decide +kernel) (by rfl)) (pa_cons (ia 1 _ _ _ _ _ m1 (by decide +kernel) (by rfl)) (pa_cons (ia 2 _ _ _ _ _ m2 (by decide +kernel) (by rfl)) pa_nil)))))
    (pss_cons (ps_set (i := 1) sc_term.nd rfl (.inl rfl) (pe_op op_cat (pv 1) (pe_lst (pa_cons (ia 3 _ _ _ _ _ m3 (by decide +kernel) (by rfl)) (pa_cons (ia 4 _ _ _ _ _ m4 (by decide +kernel) (by rfl)) (pa_cons (ia 5 _ _ _ _ _ m5 (by decide +kernel) (by rfl)) pa_nil))))))
    (pss_cons (ps_set (i := 1) sc_term.nd rfl (.inl rfl) (pe_op op_cat (pv 1) (pe_lst (pa_cons (ia 6 _ _ _ _ _ m6 (by decide +kernel) (by rfl)) (pa_cons (ia 7 _ _ _ _ _ m7 (by decide +kernel) (by rfl)) (pa_cons (ia 8 _ _ _ _ _ m8 (by decide +kernel) (by rfl)) pa_nil))))))
    (pss_cons (ps_set (i := 1) sc_term.nd rfl (.inl rfl) (pe_op op_cat (pv 1) (pe_lst (pa_cons (ia 9 _ _ _ _ _ m9 (by decide +kernel) (by rfl)) (pa_cons (ia 10 _ _ _ _ _ m10 (by decide +kernel) (by rfl)) (pa_cons (ia 11 _ _ _ _ _ m11 (by decide +kernel) (by rfl)) pa_nil))))))
    (pss_cons (ps_set (i := 1) sc_term.nd rfl (.inl rfl) (pe_op op_cat (pv 1) (pe_lst (pa_cons (ia 12 _ _ _ _ _ m12 (by decide +kernel) (by rfl)) (pa_cons (ia 13 _ _ _ _ _ m13 (by decide +kernel) (by rfl)) (pa_cons (ia 14 _ _ _ _ _ m14 (by decide +kernel) (by rfl)) pa_nil))))))
    (pss_cons (ps_set (i := 2) sc_term.nd rfl (.inl rfl) (pe_lst (pa_cons pe_str (pa_cons pe_str (pa_cons pe_str (pa_cons pe_str (pa_cons pe_str (pa_cons pe_str pa_nil))))))))
    (pss_cons (ps_set (i := 2) sc_term.nd rfl (.inl rfl) (pe_op op_cat (pv 2) (pe_lst (pa_cons pe_str (pa_cons pe_str (pa_cons pe_str (pa_cons pe_str (pa_cons pe_str (pa_cons pe_str pa_nil)))))))))
    (pss_cons (ps_set (i := 2) sc_term.nd rfl (.inl rfl) (pe_op op_cat (pv 2) (pe_lst (pa_cons pe_str (pa_cons pe_str (pa_cons pe_str pa_nil))))))
    (pss_cons (ps_if (PW.pt (pw_or (pt_cmpR op_ne (pe_callB (cr_sumH hotC) (by rfl) ms (by decide +kernel) (pa_cons (pe_lcH (own := [("flag", 3)]) (g := gName 3) hotC sc_term.nd (pv 1) (blkOk_by (N := N__law_term) (sc := defScope s__law_term) (by decide +kernel)) (fun _ _ _ _ _ => pg_name (i := 3) sc_term.nd rfl (Or.inl rfl)) (fun _ _ _ _ _ => pe_callTy call_int1 (by rfl) mt (by decide +kernel) (pa_cons (pv 3) pa_nil))) pa_nil)) pe_int (nomark _)) (pw_or1 (pt_not (pt_val (pe_callB (call_isP (p := p) (List.mem_singleton.mpr rfl) C hz hf) (by rfl) mi (by decide +kernel) (pa_cons (pv 0) (pa_cons (pe_bltn (v := .ty "ValueError") (u := .type "ValueError") (by rfl) mv (by decide +kernel) rfl (by decide) (by decide)) pa_nil)))))))) (pss_one (ps_ret (pe_tup (pa_cons pe_str (pa_cons pe_str pa_nil))))) pss_nil)
    (pss_one (ps_ret (pe_tup (pa_cons pe_str (pa_cons (pe_ix ix_list (pv 2) (pe_bm PySem.F.plainAttrs_list PySem.F.slot_list_index PySem.F.type_list_index mt_index (pv 1) (pa_cons pe_bl pa_nil)) (fun _ _ => rfl)) pa_nil)))))))))))))), ?_⟩
  have is : ∀ (i : Nat), i < 15 → ∀ (σ : L2.St) (H' : Hp) (Q' : VK), σ[0]? = some (some (.ref p.1)) → Q' (.bl (decide (i = j))) H' → tCB (rIsE K D p.1) (tCons (tVar 0) (tCons (tC (.ref (cs i))) tNil)) σ H' Q' := fun i hi σ H' Q' h0 q =>
    ⟨.ref p.1, h0, .ref (cs i), .ref (cs i), decide (i = j), rfl, fun u r => r, hk i hi, q⟩
  have three : ∀ (a b c : Nat), a < 15 → b < 15 → c < 15 → ∀ (σ : L2.St) (H' : Hp) (Q' : VK), σ[0]? = some (some (.ref p.1)) → (∀ o, H' o = none → Q' (.ref o) (upd H' o (.lst [.bl (decide (a = j)), .bl (decide (b = j)), .bl (decide (c = j))]))) →
      tLst (tCons (tCB (rIsE K D p.1) (tCons (tVar 0) (tCons (tC (.ref (cs a))) tNil))) (tCons (tCB (rIsE K D p.1) (tCons (tVar 0) (tCons (tC (.ref (cs b))) tNil))) (tCons (tCB (rIsE K D p.1) (tCons (tVar 0) (tCons (tC (.ref (cs c))) tNil))) tNil))) σ H' Q' := fun a b c ha hb hc σ H' Q' h0 q =>
    is a ha σ H' _ h0 (is b hb σ H' _ h0 (is c hc σ H' _ h0 ⟨by show 3 ≤ sizeLine; decide, q⟩))
  have cat : ∀ (a b c : Nat), a < 15 → b < 15 → c < 15 → ∀ (σ : L2.St) (H' : Hp) (Q' : VK) (o : Addr) (L : List V), σ[0]? = some (some (.ref p.1)) → σ[1]? = some (some (.ref o)) → H' o = some (.lst L) → L.length ≤ 12 →
      (∀ o' H2, Same H' H2 → H2 o' = some (.lst (L ++ [.bl (decide (a = j)), .bl (decide (b = j)), .bl (decide (c = j))])) → Q' (.ref o') H2) →
      tOp rCat (tVar 1) (tLst (tCons (tCB (rIsE K D p.1) (tCons (tVar 0) (tCons (tC (.ref (cs a))) tNil))) (tCons (tCB (rIsE K D p.1) (tCons (tVar 0) (tCons (tC (.ref (cs b))) tNil))) (tCons (tCB (rIsE K D p.1) (tCons (tVar 0) (tCons (tC (.ref (cs c))) tNil))) tNil)))) σ H' Q' := fun a b c ha hb hc σ H' Q' o L h0 h1 hL hn q =>
    ⟨.ref o, h1, three a b c ha hb hc σ H' _ h0 fun o2 n2 => ⟨o, o2, L, _, rfl, rfl, by rw [upd_ne (ne_of_none hL n2)]; exact hL, upd_same, by show L.length + 3 ≤ sizeLine; rw [sizeLine_eq]; omega, fun o3 n3 => q o3 _ ((sameU n2).trans (sameU n3)) upd_same⟩⟩
  refine seq_asg (three 0 1 2 (by decide) (by decide) (by decide) _ _ _ rfl fun o1 n1 => ?_)
  refine seq_asg (cat 3 4 5 (by decide) (by decide) (by decide) _ _ _ o1 _ rfl rfl upd_same (by simp) fun o2 H2 s2 e2 => ?_)
  refine seq_asg (cat 6 7 8 (by decide) (by decide) (by decide) _ _ _ o2 _ rfl rfl e2 (by simp) fun o3 H3 s3 e3 => ?_)
  refine seq_asg (cat 9 10 11 (by decide) (by decide) (by decide) _ _ _ o3 _ rfl rfl e3 (by simp) fun o4 H4 s4 e4 => ?_)
  refine seq_asg (cat 12 13 14 (by decide) (by decide) (by decide) _ _ _ o4 _ rfl rfl e4 (by simp) fun o5 H5 s5 e5 => ?_)
  have S5 : Same H H5 := (((((sameU n1).trans s2).trans s3).trans s4).trans s5)
  refine seq_asg ⟨by show 6 ≤ sizeLine; decide, fun q1 z1 => ?_⟩
  have catS : ∀ (σ : L2.St) (H' : Hp) (Q' : VK) (o : Addr) (L M : List V) (t : TA), σ[2]? = some (some (.ref o)) → H' o = some (.lst L) → L.length + M.length ≤ 15 → (∀ (R : List V → Hp → Prop), R M H' → t σ H' R) →
      (∀ o' H2, Same H' H2 → H2 o' = some (.lst (L ++ M)) → Q' (.ref o') H2) → tOp rCat (tVar 2) (tLst t) σ H' Q' := fun σ H' Q' o L M t h1 hL hn ht q =>
    ⟨.ref o, h1, ht _ ⟨by rw [sizeLine_eq]; omega, fun o2 n2 => ⟨o, o2, L, M, rfl, rfl, by rw [upd_ne (ne_of_none hL n2)]; exact hL, upd_same, by rw [sizeLine_eq]; omega, fun o3 n3 => q o3 _ ((sameU n2).trans (sameU n3)) upd_same⟩⟩⟩
  refine seq_asg (catS _ _ _ q1 _ _ _ rfl upd_same (by decide) (fun R h => h) fun o6 H6 s6 e6 => ?_)
  refine seq_asg (catS _ _ _ o6 _ _ _ rfl e6 (by decide) (fun R h => h) fun o7 H7 s7 e7 => ?_)
  exact term_read hj rfl rfl rfl rfl (s7 _ _ (s6 _ _ (sameU z1 _ _ e5))) e7 hv ((S5.trans (sameU z1)).trans (s6.trans s7)) hQ
theorem term_run {P : Program} {w : World} {K : PySem.W.Frag} {mg : Str → Option Value} {base : Heap} {f CS : Addr} {fd : FuncData} {cs : Nat → Addr} (F : Fun K "_law_term" "_law_term" s__law_term f fd) (hb : L2.Binds K fd ["e"] []) (mi : mg "isinstance" = none) (ms : mg "sum" = none) (mt : mg "int" = none) (mv : mg "ValueError" = none)
    (m0 : mg "InvalidNumber" = some (.ref (cs 0)))
    (m1 : mg "InvalidPoint" = some (.ref (cs 1)))
    (m2 : mg "InvalidShape" = some (.ref (cs 2)))
    (m3 : mg "InvalidLayer" = some (.ref (cs 3)))
    (m4 : mg "InvalidDrawing" = some (.ref (cs 4)))
    (m5 : mg "InvalidRegion" = some (.ref (cs 5)))
    (m6 : mg "InvalidPlan" = some (.ref (cs 6)))
    (m7 : mg "InvalidIndex" = some (.ref (cs 7)))
    (m8 : mg "InvalidBox" = some (.ref (cs 8)))
    (m9 : mg "InvalidMove" = some (.ref (cs 9)))
    (m10 : mg "InvalidText" = some (.ref (cs 10)))
    (m11 : mg "OnEdge" = some (.ref (cs 11)))
    (m12 : mg "Blank" = some (.ref (cs 12)))
    (m13 : mg "TooMany" = some (.ref (cs 13)))
    (m14 : mg "NothingToUndo" = some (.ref (cs 14)))
    : TermRun P w K mg base cs CS f := by
  obtain ⟨oc, od, kV, doc, pm, an, cdv, ct, osl, rfl, lk, hcd⟩ := F.ex
  intro A outer s H p Q D j hr hot pin e0 kd hz hn
  have KX : K.In s.heap := e0.mod.kin.keeps fun b o e => (e0.bs b o e).1
  have b := hb s [.ref p.1] KX rfl
  obtain ⟨_, vs, hd, _⟩ := id hot
  exact runH_of (N := N__law_term) (ps := ["e"]) (us := [.ref p.1]) (vs := [.ref p.1]) (k := 0) lk hcd sc_term hr pin e0 b (.cons rfl .nil) rfl fun _ => term_walk hot kd.lt kd.exc hz ⟨vs, hd⟩ mi ms mt mv m0 m1 m2 m3 m4 m5 m6 m7 m8 m9 m10 m11 m12 m13 m14 kd.own kd.val hn
theorem sc_told : FnScope N__law_told ["deed"] (defScope s__law_told) := ⟨rfl, rfl, rfl, by decide +kernel, rfl, by decide +kernel, by decide +kernel⟩
theorem told_ok {P : Program} {w : World} {K : PySem.W.Frag} {mg : Str → Option Value} {base : Heap} {g ft CS : Addr} {fd : FuncData} {cs : Nat → Addr} (F : Fun K "_law_told" "_law_told" s__law_told g fd) (hb : L2.Binds K fd ["deed"] []) (hm : mg "_law_told" = some (.ref g)) (hp : mg "PictureError" = some (.ref CS)) (ht : mg "_law_term" = some (.ref ft)) (hk : PySem.W.keepIn K (.ref ft) = true) (T : TermRun P w K mg base cs CS ft) : ToldOk P w K mg base cs CS :=
  ⟨g, ft, fd, s__law_told, _, _, _, _, _, _, _, _, _, _, hm, F.kp, hb, F, sc_told, rfl, by rfl, by rfl, by rfl, by rfl, hp, ht, hk, T⟩
end Tb
set_option maxHeartbeats 4000000
namespace Tb
open PySem VL
local macro_rules | `(tactic| walk_at "pl") => `(tactic| try simp only [↓rb_ok, ↓rb_exc, ↓rb_stuck, ↓rb_bindM, ↓rb_pure, ↓rb_stuckM, ↓rb_some, ↓rb_none, ↓rb_one, ↓rb_one1, ↓td_d, ↓td_l, ↓tds0, ↓tdsS, ↓rb_asC, ↓rb_bt, ↓rb_bf, ↓rb_fn, ↓rb_fr, ↓rb_fb, ↓rb_fc, ↓rb_take, ↓rb_peek, ↓tk0, ↓tkS, ↓pk0, ↓pkS, ↓tk_d, ↓tk_o, ↓pk_d, ↓pk_o, ↓e_nil, ↓e_cons, ↓e_var, ↓e_bor, ↓e_cst, ↓e_glb, ↓gd0, ↓gd1, ↓gd2, ↓gd3, ↓gd4, ↓gd5, ↓gd6, ↓gd7, ↓gd8, ↓rb_guard, ↓e_tup, ↓e_lst, ↓e_op, ↓e_neg, ↓e_opB, ↓e_cmp, ↓e_cmpL, ↓e_cmpR, ↓e_chain, ↓e_not, ↓e_and, ↓e_or, ↓e_ife, ↓e_call, ↓cl0, ↓cl1, ↓cl2, ↓cl3, ↓cl4, ↓cl5, ↓rc0_ok, ↓rc0_exc, ↓rc0_if, ↓rc1_ok, ↓e_blt, ↓e_bltB, ↓e_isi, ↓e_ix, ↓e_ixB, ↓rb_partF, ↓rb_partT, ↓rb_part, ↓e_slc, ↓e_slcB, ↓rb_itM, ↓e_lc, ↓rb_lcU, ↓t_skip, ↓t_seq, ↓t_asg, ↓ts_d, ↓ts_o, ↓asgO_eq, ↓ag0, ↓agS, ↓ag_n, ↓ag_d, ↓ag_o, ↓tgO_eq, ↓tg0, ↓tgS, ↓tg_n, ↓tg_d, ↓tg_o, ↓tg_m, ↓ag_m, ↓t_ife, ↓t_for, ↓for_nil, ↓t_ret, ↓t_expr, ↓t_raise, ↓v_lt, ↓v_le, ↓v_gt, ↓v_ge, ↓v_eqI, ↓v_neI, ↓v_eqS, ↓v_neS, ↓v_isN, ↓v_notN, ↓v_inT, ↓v_notInT, ↓v_add, ↓v_sub, ↓v_mul, ↓v_fdiv, ↓v_mod, ↓v_pow, ↓v_addT, ↓v_addL, ↓v_neg, ↓v_lenL, ↓v_lenT, ↓v_abs, ↓v_tupL, ↓v_tupT, ↓v_all, ↓v_allE1, ↓v_allE2, ↓v_allE3, ↓v_allE4, ↓v_allE5, ↓v_allE6, ↓v_any, ↓v_sum, ↓v_ix0, ↓v_ix1, ↓v_ix2, ↓v_ix3, ↓v_ix4, ↓v_it, ↓v_itL, ↓v_slT, ↓v_slL, arg_d, arg_l, arg_b, isiB, isiD, Option.getD_some, Bool.not_true, Bool.not_false, reduceCtorEq, List.map_cons, List.map_nil, List.set_cons_zero, List.set_cons_succ])
def isWholeD (d : D) (lo hi : Int) : Bool := match d with
  | .int i => decide (lo ≤ i) && decide (i ≤ hi)
  | _ => false
theorem M_is_whole (k : Nat) (d : D) (lo hi : Int) : run Γ (k + 1) 0 [.d d, .d (.int lo), .d (.int hi)] = .ok (.bool (isWholeD d lo hi)) [] := by
  rw [r_is_whole]
  refine run_of (s := [some (.d d), some (.d (.int lo)), some (.d (.int hi))]) rfl rfl ?_
  unfold d_is_whole
  cases d with
  | int i =>
    walk_at "pl"
    unfold isWholeD
    by_cases h : lo ≤ i
    · simp only [h, decide_true, Bool.true_and]; walk_at "pl"; rfl
    · simp only [h, decide_false, Bool.false_and]; walk_at "pl"; rfl
  | _ => walk_at "pl"; rfl
def isPtD (d : D) : Bool := match d with
  | .tuple ps => (decide (ps.length = 2)) && ps.all fun x => isWholeD x (-9) 9
  | _ => false
theorem isPtD_t (ps : List D) : isPtD (.tuple ps) = ((decide (ps.length = 2)) && ps.all fun x => isWholeD x (-9) 9) := rfl
def isLoopD (d : D) : Bool := match d with
  | .tuple xs => decide (3 ≤ xs.length) && (decide (xs.length ≤ 8) && xs.all isPtD)
  | _ => false
theorem okLen_small {n : Nat} (h : n ≤ 100) : okLen n = true := decide_eq_true (by omega)
theorem M_is_loop (k : Nat) (d : D) : run Γ (k + 2) 1 [.d d] = .ok (.bool (isLoopD d)) [] := by
  rw [r_is_loop]
  refine run_of (s := [some (.d d), none, none]) rfl rfl ?_
  unfold d_is_loop
  cases d with
  | tuple xs =>
    walk_at "pl"
    unfold isLoopD
    by_cases h : 3 ≤ xs.length
    · have h' : (3 : Int) ≤ (xs.length : Int) := by omega
      simp only [h, h', decide_true, Bool.true_and]
      walk_at "pl"
      by_cases g : xs.length ≤ 8
      · have g' : (xs.length : Int) ≤ 8 := by omega
        have hl : okLen xs.length = true := okLen_small (by omega)
        simp only [g, g', decide_true, Bool.true_and]
        walk_at "pl"
        rw [v_it hl]
        walk_at "pl"
        obtain ⟨σ', ⟨o', rfl⟩, e⟩ := for_all (tg := .nm 1) (p := isPtD) (I := fun σ => ∃ o : Option D, σ = [some (.d (.tuple xs)), o.map SV.d, none]) (b := evS (run Γ (k + 1)) (.seq (.ife (.or (.not (.isi (.var 1) .tuple)) (.or (.cmp .ne (.bltB .len ⟨1, none⟩) (.cst (.int 2))) (.not (.blt .all (.cons (.lc [2] [2] (.nm 2) .seq (.cons (.var 1) .nil) (.cst (.bool true)) (.call 0 (.cons (.var 2) (.cons (.neg (.cst (.int 9))) (.cons (.cst (.int 9)) .nil))))) .nil))))) (.seq (.ret (.cst (.bool false))) .skip) .skip) .skip)) (fun x σ ⟨o, e⟩ => by
          subst e
          refine ⟨[some (.d (.tuple xs)), some (.d x), none], ⟨some x, rfl⟩, ?_⟩
          rw [← rb_self (R.bind _ _)]
          walk_at "pl"
          cases x with
          | tuple ps =>
            walk_at "pl"
            rw [isPtD_t]
            by_cases h2 : ps.length = 2
            · have h2' : ((ps.length : Int) == 2) = true := by rw [beq_iff_eq]; omega
              rw [decide_eq_true h2, Bool.true_and]; simp only [h2', Bool.not_true]
              walk_at "pl"
              rw [v_it (okLen_small (by omega))]
              rw [lcR_bool (fun y => isWholeD y (-9) 9) (fun y _ => by
                rw [← rb_self (lcU _ _ _ _ _)]
                refine ⟨_, by
                  show R.bind (lcU _ _ _ y [some (.d (.tuple xs)), some (.d (.tuple ps)), none]) _ = _
                  walk_at "pl"
                  rw [M_is_whole]
                  walk_at "pl"
                  rfl, rfl⟩)]
              walk_at "pl"
              rw [all_id]
              cases ps.all fun y => isWholeD y (-9) 9 <;> (simp only [Bool.not_true, Bool.not_false]; walk_at "pl"; rfl)
            · have h2' : ((ps.length : Int) == 2) = false := by rw [beq_eq_false_iff_ne]; omega
              rw [decide_eq_false h2, Bool.false_and]; simp only [h2', Bool.not_false]
              walk_at "pl"
              rfl
          | _ => walk_at "pl"; rfl) xs [some (.d (.tuple xs)), none, none] ⟨none, rfl⟩
        rw [e]
        cases xs.all isPtD <;> (simp only [if_true, if_false, Bool.false_eq_true]; walk_at "pl"; rfl)
      · have g' : ¬ (xs.length : Int) ≤ 8 := by omega
        simp only [g, g', decide_false, Bool.false_and]
        walk_at "pl"
        rfl
    · have h' : ¬ (3 : Int) ≤ (xs.length : Int) := by omega
      simp only [h, h', decide_false, Bool.false_and]
      walk_at "pl"
      rfl
  | _ => walk_at "pl"; rfl
def isRuleD (r : Str) : Bool := [PyData.str "odd", PyData.str "turns"].any fun z => PyData.eqv z (.str r)
def isShapeD (d : D) : Bool := match d with
  | .tuple [.str r, .tuple ls] => isRuleD r && (decide (1 ≤ ls.length) && (decide (ls.length ≤ 3) && ls.all isLoopD))
  | _ => false
theorem len3 {a b c : D} {r : List D} {n : Int} (h : n < 3) : (((a :: b :: c :: r).length : Int) == n) = false := by
  rw [beq_eq_false_iff_ne]; simp only [List.length_cons]; omega
theorem M_is_shape (k : Nat) (d : D) : run Γ (k + 3) 2 [.d d] = .ok (.bool (isShapeD d)) [] := by
  rw [r_is_shape]
  refine run_of (s := [some (.d d), none]) rfl rfl ?_
  unfold d_is_shape
  cases d with
  | tuple xs =>
    match xs with
    | [] => walk_at "pl"; rfl
    | [a] => walk_at "pl"; cases a <;> rfl
    | a :: b :: c :: r =>
      walk_at "pl"
      simp only [len3 (show (2 : Int) < 3 by decide), Bool.not_false]
      walk_at "pl"
      cases a <;> first | rfl | (cases b <;> rfl)
    | [a, b] =>
      cases a with
      | str r =>
        walk_at "pl"
        simp only [show ((([PyData.str r, b] : List D).length : Int) == 2) = true from rfl, Bool.not_true]
        walk_at "pl"
        rw [v_notInT rfl]
        change endRC _ (R.bind (bcase (!isRuleD r) _ _ _) _) = _
        cases b with
        | tuple ls =>
          show _ = RC.ok (.bool (isRuleD r && (decide (1 ≤ ls.length) && (decide (ls.length ≤ 3) && ls.all isLoopD)))) []
          cases isRuleD r with
          | false => walk_at "pl"; rfl
          | true =>
            walk_at "pl"
            by_cases h : 1 ≤ ls.length
            · have h' : (1 : Int) ≤ (ls.length : Int) := by omega
              simp only [h, h', decide_true, Bool.true_and]
              walk_at "pl"
              by_cases g : ls.length ≤ 3
              · have g' : (ls.length : Int) ≤ 3 := by omega
                simp only [g, g', decide_true, Bool.true_and]
                walk_at "pl"
                rw [v_it (okLen_small (by omega))]
                rw [lcR_bool isLoopD (fun y _ => by
                  rw [← rb_self (lcU _ _ _ _ _)]
                  refine ⟨_, by
                    show R.bind (lcU _ _ _ y [some (.d (.tuple [.str r, .tuple ls])), none]) _ = _
                    walk_at "pl"
                    rw [M_is_loop]
                    walk_at "pl"
                    rfl, rfl⟩)]
                walk_at "pl"
                rw [all_id]
                rfl
              · have g' : ¬ (ls.length : Int) ≤ 3 := by omega
                simp only [g, g', decide_false, Bool.false_and]
                walk_at "pl"
                rfl
            · have h' : ¬ (1 : Int) ≤ (ls.length : Int) := by omega
              simp only [h, h', decide_false, Bool.false_and]
              walk_at "pl"
              rfl
        | _ => cases isRuleD r <;> (walk_at "pl"; rfl)
      | _ => walk_at "pl"; rfl
  | _ => walk_at "pl"; rfl
def isColourD (d : D) : Bool := match d with
  | .tuple cs => decide (cs.length = 3) && cs.all fun x => isWholeD x 0 9
  | _ => false
theorem M_is_colour (k : Nat) (d : D) : run Γ (k + 2) 3 [.d d] = .ok (.bool (isColourD d)) [] := by
  rw [r_is_colour]
  refine run_of (s := [some (.d d), none]) rfl rfl ?_
  unfold d_is_colour
  cases d with
  | tuple cs =>
    walk_at "pl"
    show _ = RC.ok (.bool (decide (cs.length = 3) && cs.all fun x => isWholeD x 0 9)) []
    by_cases h : cs.length = 3
    · have h' : ((cs.length : Int) == 3) = true := by rw [beq_iff_eq]; omega
      rw [decide_eq_true h, Bool.true_and]
      simp only [h']
      walk_at "pl"
      rw [v_it (okLen_small (by omega))]
      rw [lcR_bool (fun x => isWholeD x 0 9) (fun y _ => by
        rw [← rb_self (lcU _ _ _ _ _)]
        refine ⟨_, by
          show R.bind (lcU _ _ _ y [some (.d (.tuple cs)), none]) _ = _
          walk_at "pl"
          rw [M_is_whole]
          walk_at "pl"
          rfl, rfl⟩)]
      walk_at "pl"
      rw [all_id]
      rfl
    · have h' : ((cs.length : Int) == 3) = false := by rw [beq_eq_false_iff_ne]; omega
      rw [decide_eq_false h, Bool.false_and]
      simp only [h']
      walk_at "pl"
      rfl
  | _ => walk_at "pl"; rfl
def isOpacityD (d : D) : Bool := match d with
  | .tuple [a, .int n] => isWholeD (.int n) 1 6 && isWholeD a 1 n
  | _ => false
theorem M_is_opacity (k : Nat) (d : D) : run Γ (k + 2) 4 [.d d] = .ok (.bool (isOpacityD d)) [] := by
  rw [r_is_opacity]
  refine run_of (s := [some (.d d)]) rfl rfl ?_
  unfold d_is_opacity
  cases d with
  | tuple xs =>
    match xs with
    | [] => walk_at "pl"; rfl
    | [a] => walk_at "pl"; rfl
    | a :: b :: c :: r =>
      walk_at "pl"
      simp only [len3 (show (2 : Int) < 3 by decide)]
      walk_at "pl"
      cases b <;> rfl
    | [a, b] =>
      walk_at "pl"
      simp only [show ((([a, b] : List D).length : Int) == 2) = true from rfl]
      walk_at "pl"
      rw [M_is_whole]
      walk_at "pl"
      cases b with
      | int n =>
        show _ = RC.ok (.bool (isWholeD (.int n) 1 6 && isWholeD a 1 n)) []
        cases isWholeD (.int n) 1 6 with
        | false => walk_at "pl"; rfl
        | true => walk_at "pl"; rw [M_is_whole]; walk_at "pl"; rfl
      | _ => simp only [isWholeD]; walk_at "pl"; rfl
  | _ => walk_at "pl"; rfl
end Tb
set_option maxHeartbeats 4000000
namespace Tb
open PySem VL
local macro_rules | `(tactic| walk_at "pl") => `(tactic| try simp only [↓rb_ok, ↓rb_exc, ↓rb_stuck, ↓rb_bindM, ↓rb_pure, ↓rb_stuckM, ↓rb_some, ↓rb_none, ↓rb_one, ↓rb_one1, ↓td_d, ↓td_l, ↓tds0, ↓tdsS, ↓rb_asC, ↓rb_bt, ↓rb_bf, ↓rb_fn, ↓rb_fr, ↓rb_fb, ↓rb_fc, ↓rb_take, ↓rb_peek, ↓tk0, ↓tkS, ↓pk0, ↓pkS, ↓tk_d, ↓tk_o, ↓pk_d, ↓pk_o, ↓e_nil, ↓e_cons, ↓e_var, ↓e_bor, ↓e_cst, ↓e_glb, ↓gd0, ↓gd1, ↓gd2, ↓gd3, ↓gd4, ↓gd5, ↓gd6, ↓gd7, ↓gd8, ↓rb_guard, ↓e_tup, ↓e_lst, ↓e_op, ↓e_neg, ↓e_opB, ↓e_cmp, ↓e_cmpL, ↓e_cmpR, ↓e_chain, ↓e_not, ↓e_and, ↓e_or, ↓e_ife, ↓e_call, ↓cl0, ↓cl1, ↓cl2, ↓cl3, ↓cl4, ↓cl5, ↓rc0_ok, ↓rc0_exc, ↓rc0_if, ↓rc1_ok, ↓e_blt, ↓e_bltB, ↓e_isi, ↓e_ix, ↓e_ixB, ↓rb_partF, ↓rb_partT, ↓rb_part, ↓e_slc, ↓e_slcB, ↓rb_itM, ↓e_lc, ↓rb_lcU, ↓t_skip, ↓t_seq, ↓t_asg, ↓ts_d, ↓ts_o, ↓asgO_eq, ↓ag0, ↓agS, ↓ag_n, ↓ag_d, ↓ag_o, ↓tgO_eq, ↓tg0, ↓tgS, ↓tg_n, ↓tg_d, ↓tg_o, ↓tg_m, ↓ag_m, ↓t_ife, ↓t_for, ↓for_nil, ↓t_ret, ↓t_expr, ↓t_raise, ↓v_lt, ↓v_le, ↓v_gt, ↓v_ge, ↓v_eqI, ↓v_neI, ↓v_eqS, ↓v_neS, ↓v_isN, ↓v_notN, ↓v_inT, ↓v_notInT, ↓v_add, ↓v_sub, ↓v_mul, ↓v_fdiv, ↓v_mod, ↓v_pow, ↓v_addT, ↓v_addL, ↓v_neg, ↓v_lenL, ↓v_lenT, ↓v_abs, ↓v_tupL, ↓v_tupT, ↓v_all, ↓v_allE1, ↓v_allE2, ↓v_allE3, ↓v_allE4, ↓v_allE5, ↓v_allE6, ↓v_any, ↓v_sum, ↓v_ix0, ↓v_ix1, ↓v_ix2, ↓v_ix3, ↓v_ix4, ↓v_it, ↓v_itL, ↓v_slT, ↓v_slL, arg_d, arg_l, arg_b, isiB, isiD, Option.getD_some, Bool.not_true, Bool.not_false, reduceCtorEq, List.map_cons, List.map_nil, List.set_cons_zero, List.set_cons_succ])
def ivD : D → Int
  | .int i => i
  | _ => 0
def isMatrixD (d : D) : Bool := match d with
  | .tuple [a, b, c, d, e, f] => [a, b, c, d].all (fun x => isWholeD x (-2) 2) && ([e, f].all (fun x => isWholeD x (-9) 9) && !(ivD a * ivD d == ivD b * ivD c))
  | _ => false
theorem isWholeD_int {d : D} {lo hi : Int} (h : isWholeD d lo hi = true) : ∃ i, d = .int i ∧ lo ≤ i ∧ i ≤ hi := by
  cases d with
  | int i =>
    have h : (decide (lo ≤ i) && decide (i ≤ hi)) = true := h
    rw [Bool.and_eq_true] at h
    exact ⟨i, rfl, of_decide_eq_true h.1, of_decide_eq_true h.2⟩
  | _ => cases h
theorem okMul_left {i j : Int} (h1 : -(2 ^ 64) < i) (h2 : i < 2 ^ 64) : okMul i j = true := by
  have h : ¬ (Builtin.Int.intBits i > shortFactorBits) := Nat.not_lt.mpr (intBits_le_64 h1 h2)
  unfold okMul
  rw [decide_eq_false h]; simp
theorem okMul_right {i j : Int} (h1 : -(2 ^ 64) < j) (h2 : j < 2 ^ 64) : okMul i j = true := by
  have h : ¬ (Builtin.Int.intBits j > shortFactorBits) := Nat.not_lt.mpr (intBits_le_64 h1 h2)
  unfold okMul
  rw [decide_eq_false h]; simp
theorem len7 {a b c d e f g : D} {r : List D} {n : Int} (h : n < 7) : (((a :: b :: c :: d :: e :: f :: g :: r).length : Int) == n) = false := by
  rw [beq_eq_false_iff_ne]; simp only [List.length_cons]; omega
theorem M_is_matrix (k : Nat) (d : D) : run Γ (k + 2) 5 [.d d] = .ok (.bool (isMatrixD d)) [] := by
  rw [r_is_matrix]
  refine run_of (s := [some (.d d), none]) rfl rfl ?_
  unfold d_is_matrix
  cases d with
  | tuple xs =>
    match xs with
    | [] => walk_at "pl"; rfl
    | [_] => walk_at "pl"; rfl
    | [_, _] => walk_at "pl"; rfl
    | [_, _, _] => walk_at "pl"; rfl
    | [_, _, _, _] => walk_at "pl"; rfl
    | [_, _, _, _, _] => walk_at "pl"; rfl
    | a :: b :: c :: d :: e :: f :: g :: r =>
      walk_at "pl"
      simp only [len7 (show (6 : Int) < 7 by decide), Bool.not_false]
      walk_at "pl"
      rfl
    | [a, b, c, d, e, f] =>
      walk_at "pl"
      simp only [show ((([a, b, c, d, e, f] : List D).length : Int) == 6) = true from rfl, Bool.not_true]
      walk_at "pl"
      rw [show cutL [a, b, c, d, e, f] none (some 4) = [a, b, c, d] from rfl, v_it (okLen_small (by simp))]
      rw [lcR_bool (fun x => isWholeD x (-2) 2) (fun y _ => by
        rw [← rb_self (lcU _ _ _ _ _)]
        refine ⟨_, by
          show R.bind (lcU _ _ _ y [some (.d (.tuple [a, b, c, d, e, f])), none]) _ = _
          walk_at "pl"
          rw [M_is_whole]
          walk_at "pl"
          rfl, rfl⟩)]
      rw [show frzAll [1] [some (.d (.tuple [a, b, c, d, e, f])), none] = [some (.d (.tuple [a, b, c, d, e, f])), none] from rfl]
      walk_at "pl"
      rw [show [isWholeD a (-2) 2, isWholeD b (-2) 2, isWholeD c (-2) 2, isWholeD d (-2) 2].all id = [a, b, c, d].all (fun x => isWholeD x (-2) 2) from rfl]
      show _ = RC.ok (.bool ([a, b, c, d].all (fun x => isWholeD x (-2) 2) && ([e, f].all (fun x => isWholeD x (-9) 9) && !(ivD a * ivD d == ivD b * ivD c)))) []
      cases h1 : [a, b, c, d].all (fun x => isWholeD x (-2) 2) with
      | false => simp only [Bool.false_and]; walk_at "pl"; rfl
      | true =>
        simp only [Bool.true_and]
        walk_at "pl"
        rw [show cutL [a, b, c, d, e, f] (some 4) none = [e, f] from rfl, v_it (okLen_small (by simp))]
        rw [lcR_bool (fun x => isWholeD x (-9) 9) (fun y _ => by
          rw [← rb_self (lcU _ _ _ _ _)]
          refine ⟨_, by
            show R.bind (lcU _ _ _ y [some (.d (.tuple [a, b, c, d, e, f])), none]) _ = _
            walk_at "pl"
            rw [M_is_whole]
            walk_at "pl"
            rfl, rfl⟩)]
        rw [show frzAll [1] [some (.d (.tuple [a, b, c, d, e, f])), none] = [some (.d (.tuple [a, b, c, d, e, f])), none] from rfl]
        walk_at "pl"
        rw [show [isWholeD e (-9) 9, isWholeD f (-9) 9].all id = [e, f].all (fun x => isWholeD x (-9) 9) from rfl]
        cases h2 : [e, f].all (fun x => isWholeD x (-9) 9) with
        | false => simp only [Bool.false_and]; walk_at "pl"; rfl
        | true =>
          simp only [Bool.true_and]
          simp only [List.all_cons, List.all_nil, Bool.and_true, Bool.and_eq_true] at h1
          obtain ⟨i, rfl, b1, b2⟩ := isWholeD_int h1.1
          obtain ⟨j, rfl, b3, b4⟩ := isWholeD_int h1.2.1
          obtain ⟨l, rfl, _, _⟩ := isWholeD_int h1.2.2.1
          obtain ⟨m, rfl, _, _⟩ := isWholeD_int h1.2.2.2
          walk_at "pl"
          rw [v_mul (okMul_left (by omega) (by omega))]
          walk_at "pl"
          rw [v_mul (okMul_left (by omega) (by omega))]
          walk_at "pl"
          rfl
  | _ => walk_at "pl"; rfl
def areD (f : D → Bool) (d : D) : Bool := match d with
  | .tuple xs => decide (xs.length ≤ 4) && xs.all f
  | _ => false
def fillOk (x1 x2 : D) : List D → Bool
  | [x3] => isShapeD x1 && (isColourD x2 && isOpacityD x3)
  | _ => false
def rubOk (x1 x2 : D) : List D → Bool
  | [] => isShapeD x1 && isOpacityD x2
  | _ => false
def grpOk (f : D → Bool) (x1 x2 : D) : List D → Bool
  | [x3, x4] => areD f x1 && (isOpacityD x2 && (isMatrixD x4 && (isNoneD x3 || isShapeD x3)))
  | _ => false
def layD (g : D → D → List D → Bool) (d : D) : Bool := match d with
  | .tuple (.str t :: x1 :: x2 :: r) => if t == "fill" then fillOk x1 x2 r else if t == "rub" then rubOk x1 x2 r else if t == "group" then g x1 x2 r else false
  | _ => false
def isLayerD : Nat → D → Bool
  | 0 => layD fun _ _ _ => false
  | n + 1 => layD (grpOk (isLayerD n))
theorem len4 {a b c d : D} {r : List D} {n : Int} (h : n < 4) : (((a :: b :: c :: d :: r).length : Int) == n) = false := by
  rw [beq_eq_false_iff_ne]; simp only [List.length_cons]; omega
theorem len5 {a b c d e : D} {r : List D} {n : Int} (h : n < 5) : (((a :: b :: c :: d :: e :: r).length : Int) == n) = false := by
  rw [beq_eq_false_iff_ne]; simp only [List.length_cons]; omega
theorem len6 {a b c d e f : D} {r : List D} {n : Int} (h : n < 6) : (((a :: b :: c :: d :: e :: f :: r).length : Int) == n) = false := by
  rw [beq_eq_false_iff_ne]; simp only [List.length_cons]; omega
theorem M_are_layers_of (n : Nat) (j : Nat) (hl : ∀ d, run Γ j 6 [.d d, .d (.int (n : Int))] = .ok (.bool (isLayerD n d)) []) (d : D) : run Γ (j + 1) 7 [.d d, .d (.int (n : Int))] = .ok (.bool (areD (isLayerD n) d)) [] := by
  rw [r_are_layers]
  refine run_of (s := [some (.d d), some (.d (.int n)), none]) rfl rfl ?_
  unfold d_are_layers
  cases d with
  | tuple xs =>
    walk_at "pl"
    show _ = RC.ok (.bool (decide (xs.length ≤ 4) && xs.all (isLayerD n))) []
    by_cases g : xs.length ≤ 4
    · have g' : (xs.length : Int) ≤ 4 := by omega
      simp only [g, g', decide_true, Bool.true_and]
      walk_at "pl"
      rw [v_it (okLen_small (by omega))]
      rw [lcR_bool (isLayerD n) (fun y _ => by
        rw [← rb_self (lcU _ _ _ _ _)]
        refine ⟨_, by
          show R.bind (lcU _ _ _ y [some (.d (.tuple xs)), some (.d (.int n)), none]) _ = _
          walk_at "pl"
          rw [hl]
          walk_at "pl"
          rfl, rfl⟩)]
      walk_at "pl"
      rw [all_id]
      rfl
    · have g' : ¬ (xs.length : Int) ≤ 4 := by omega
      simp only [g, g', decide_false, Bool.false_and]
      walk_at "pl"
      rfl
  | _ => walk_at "pl"; rfl
end Tb
set_option maxHeartbeats 4000000
namespace Tb
open PySem VL
local macro_rules | `(tactic| walk_at "pl") => `(tactic| try simp only [↓rb_ok, ↓rb_exc, ↓rb_stuck, ↓rb_bindM, ↓rb_pure, ↓rb_stuckM, ↓rb_some, ↓rb_none, ↓rb_one, ↓rb_one1, ↓td_d, ↓td_l, ↓tds0, ↓tdsS, ↓rb_asC, ↓rb_bt, ↓rb_bf, ↓rb_fn, ↓rb_fr, ↓rb_fb, ↓rb_fc, ↓rb_take, ↓rb_peek, ↓tk0, ↓tkS, ↓pk0, ↓pkS, ↓tk_d, ↓tk_o, ↓pk_d, ↓pk_o, ↓e_nil, ↓e_cons, ↓e_var, ↓e_bor, ↓e_cst, ↓e_glb, ↓gd0, ↓gd1, ↓gd2, ↓gd3, ↓gd4, ↓gd5, ↓gd6, ↓gd7, ↓gd8, ↓rb_guard, ↓e_tup, ↓e_lst, ↓e_op, ↓e_neg, ↓e_opB, ↓e_cmp, ↓e_cmpL, ↓e_cmpR, ↓e_chain, ↓e_not, ↓e_and, ↓e_or, ↓e_ife, ↓e_call, ↓cl0, ↓cl1, ↓cl2, ↓cl3, ↓cl4, ↓cl5, ↓rc0_ok, ↓rc0_exc, ↓rc0_if, ↓rc1_ok, ↓e_blt, ↓e_bltB, ↓e_isi, ↓e_ix, ↓e_ixB, ↓rb_partF, ↓rb_partT, ↓rb_part, ↓e_slc, ↓e_slcB, ↓rb_itM, ↓e_lc, ↓rb_lcU, ↓t_skip, ↓t_seq, ↓t_asg, ↓ts_d, ↓ts_o, ↓asgO_eq, ↓ag0, ↓agS, ↓ag_n, ↓ag_d, ↓ag_o, ↓tgO_eq, ↓tg0, ↓tgS, ↓tg_n, ↓tg_d, ↓tg_o, ↓tg_m, ↓ag_m, ↓t_ife, ↓t_for, ↓for_nil, ↓t_ret, ↓t_expr, ↓t_raise, ↓v_lt, ↓v_le, ↓v_gt, ↓v_ge, ↓v_eqI, ↓v_neI, ↓v_eqS, ↓v_neS, ↓v_isN, ↓v_notN, ↓v_inT, ↓v_notInT, ↓v_add, ↓v_sub, ↓v_mul, ↓v_fdiv, ↓v_mod, ↓v_pow, ↓v_addT, ↓v_addL, ↓v_neg, ↓v_lenL, ↓v_lenT, ↓v_abs, ↓v_tupL, ↓v_tupT, ↓v_all, ↓v_allE1, ↓v_allE2, ↓v_allE3, ↓v_allE4, ↓v_allE5, ↓v_allE6, ↓v_any, ↓v_sum, ↓v_ix0, ↓v_ix1, ↓v_ix2, ↓v_ix3, ↓v_ix4, ↓v_it, ↓v_itL, ↓v_slT, ↓v_slL, arg_d, arg_l, arg_b, isiB, isiD, Option.getD_some, Bool.not_true, Bool.not_false, reduceCtorEq, List.map_cons, List.map_nil, List.set_cons_zero, List.set_cons_succ])
theorem notlt3 {a b c : D} {r : List D} : decide ((((a :: b :: c :: r).length : Nat) : Int) < 3) = false := by
  rw [decide_eq_false_iff_not]; simp only [List.length_cons]; omega
def gOf : Nat → D → D → List D → Bool
  | 0 => fun _ _ _ => false
  | n + 1 => grpOk (isLayerD n)
theorem isLayerD_of (n : Nat) (d : D) : isLayerD n d = layD (gOf n) d := by cases n <;> rfl
theorem layD1 (g : D → D → List D → Bool) (a : D) : layD g (.tuple [a]) = false := by cases a <;> rfl
theorem layD2 (g : D → D → List D → Bool) (a b : D) : layD g (.tuple [a, b]) = false := by cases a <;> rfl
theorem fillO (x1 x2 : D) : ∀ r : List D, r.length ≠ 1 → fillOk x1 x2 r = false
  | [], _ => rfl
  | [_], h => absurd rfl h
  | _ :: _ :: _, _ => rfl
theorem rubO (x1 x2 : D) : ∀ r : List D, r.length ≠ 0 → rubOk x1 x2 r = false
  | [], h => absurd rfl h
  | _ :: _, _ => rfl
theorem grpO (f : D → Bool) (x1 x2 : D) : ∀ r : List D, r.length ≠ 2 → grpOk f x1 x2 r = false
  | [], _ => rfl
  | [_], _ => rfl
  | [_, _], h => absurd rfl h
  | _ :: _ :: _ :: _, _ => rfl
theorem lenIs {a b c : D} {r : List D} {n : Int} (m : Nat) (h : (m : Int) + 3 = n) : (((a :: b :: c :: r).length : Int) == n) = decide (r.length = m) := by
  by_cases e : r.length = m
  · rw [decide_eq_true e, beq_iff_eq]; simp only [List.length_cons]; omega
  · rw [decide_eq_false e, beq_eq_false_iff_ne]; simp only [List.length_cons]; omega
theorem one_of : ∀ {r : List D}, r.length = 1 → ∃ a, r = [a]
  | [a], _ => ⟨a, rfl⟩
theorem two_of : ∀ {r : List D}, r.length = 2 → ∃ a b, r = [a, b]
  | [a, b], _ => ⟨a, b, rfl⟩
theorem M_is_layer_step (n j : Nat)
    (hg : ∀ m x, n = m + 1 → run Γ (j + 3) 7 [.d x, .d (.int ((n : Int) - 1))] = .ok (.bool (areD (isLayerD m) x)) [])
    (d : D) : run Γ (j + 4) 6 [.d d, .d (.int (n : Int))] = .ok (.bool (isLayerD n d)) [] := by
  rw [r_is_layer_within, isLayerD_of]
  refine run_of (s := [some (.d d), some (.d (.int n))]) rfl rfl ?_
  unfold d_is_layer_within
  cases d with
  | tuple xs =>
    match xs with
    | [] => walk_at "pl"; rfl
    | [a] => rw [layD1]; walk_at "pl"; rfl
    | [a, b] => rw [layD2]; walk_at "pl"; rfl
    | a :: x1 :: x2 :: r =>
      walk_at "pl"
      simp only [notlt3]
      walk_at "pl"
      cases a with
      | str t =>
        walk_at "pl"
        show _ = RC.ok (.bool (if t == "fill" then fillOk x1 x2 r else if t == "rub" then rubOk x1 x2 r else if t == "group" then gOf n x1 x2 r else false)) []
        cases h1 : (t == "fill") with
        | true =>
          walk_at "pl"
          rw [lenIs (n := 4) 1 rfl, if_pos trivial]
          by_cases e : r.length = 1
          · rw [decide_eq_true e]
            obtain ⟨x3, rfl⟩ := one_of e
            show _ = RC.ok (.bool (isShapeD x1 && (isColourD x2 && isOpacityD x3))) []
            walk_at "pl"
            rw [M_is_shape]; walk_at "pl"
            cases isShapeD x1 with
            | false => walk_at "pl"; rfl
            | true =>
              walk_at "pl"
              rw [M_is_colour]; walk_at "pl"
              cases isColourD x2 with
              | false => walk_at "pl"; rfl
              | true =>
                walk_at "pl"
                rw [M_is_opacity]; walk_at "pl"
                rfl
          · rw [decide_eq_false e, fillO x1 x2 r e]
            walk_at "pl"; rfl
        | false =>
          walk_at "pl"
          rw [if_neg id]
          cases h2 : (t == "rub") with
          | true =>
            walk_at "pl"
            rw [lenIs (n := 3) 0 rfl, if_pos trivial]
            by_cases e : r.length = 0
            · rw [decide_eq_true e]
              obtain rfl := List.length_eq_zero_iff.mp e
              show _ = RC.ok (.bool (isShapeD x1 && isOpacityD x2)) []
              walk_at "pl"
              rw [M_is_shape]; walk_at "pl"
              cases isShapeD x1 with
              | false => walk_at "pl"; rfl
              | true =>
                walk_at "pl"
                rw [M_is_opacity]; walk_at "pl"
                rfl
            · rw [decide_eq_false e, rubO x1 x2 r e]
              walk_at "pl"; rfl
          | false =>
            walk_at "pl"
            rw [if_neg id]
            cases h3 : (t == "group") with
            | false => walk_at "pl"; rfl
            | true =>
              walk_at "pl"
              rw [lenIs (n := 5) 2 rfl, if_pos trivial]
              by_cases e : r.length = 2
              · rw [decide_eq_true e]
                obtain ⟨x3, x4, rfl⟩ := two_of e
                cases n with
                | zero => walk_at "pl"; rfl
                | succ m =>
                  have z : (((m + 1 : Nat) : Int) == 0) = false := by rw [beq_eq_false_iff_ne]; omega
                  walk_at "pl"
                  simp only [z]
                  show _ = RC.ok (.bool (areD (isLayerD m) x1 && (isOpacityD x2 && (isMatrixD x4 && (isNoneD x3 || isShapeD x3))))) []
                  walk_at "pl"
                  rw [hg m x1 rfl]; walk_at "pl"
                  cases areD (isLayerD m) x1 with
                  | false => walk_at "pl"; rfl
                  | true =>
                    walk_at "pl"
                    rw [M_is_opacity]; walk_at "pl"
                    cases isOpacityD x2 with
                    | false => walk_at "pl"; rfl
                    | true =>
                      walk_at "pl"
                      rw [M_is_matrix]; walk_at "pl"
                      cases isMatrixD x4 with
                      | false => walk_at "pl"; rfl
                      | true =>
                        walk_at "pl"
                        cases isNoneD x3 with
                        | true => walk_at "pl"; rfl
                        | false =>
                          walk_at "pl"
                          rw [M_is_shape]; walk_at "pl"
                          rfl
              · rw [decide_eq_false e, show gOf n x1 x2 r = false from by cases n with | zero => rfl | succ m => exact grpO _ x1 x2 r e]
                walk_at "pl"; rfl
      | _ => walk_at "pl"; rfl
  | _ => walk_at "pl"; rfl
theorem M_is_layer_within : ∀ (n k : Nat) (d : D), run Γ (k + 2 * n + 4) 6 [.d d, .d (.int (n : Int))] = .ok (.bool (isLayerD n d)) []
  | 0, k, d => M_is_layer_step 0 k (fun _ _ e => by cases e) d
  | n + 1, k, d => M_is_layer_step (n + 1) (k + 2 * n + 2) (fun m x e => by
      obtain rfl : n = m := Nat.succ.inj e
      rw [show (((n + 1 : Nat) : Int) - 1) = (n : Int) by omega]
      exact M_are_layers_of n (k + 2 * n + 4) (M_is_layer_within n k) x) d
theorem M_are_layers (n k : Nat) (d : D) : run Γ (k + 2 * n + 5) 7 [.d d, .d (.int (n : Int))] = .ok (.bool (areD (isLayerD n) d)) [] :=
  M_are_layers_of n (k + 2 * n + 4) (M_is_layer_within n k) d
end Tb
set_option maxHeartbeats 4000000
namespace Tb
open PySem VL
local macro_rules | `(tactic| walk_at "pl") => `(tactic| try simp only [↓rb_ok, ↓rb_exc, ↓rb_stuck, ↓rb_bindM, ↓rb_pure, ↓rb_stuckM, ↓rb_some, ↓rb_none, ↓rb_one, ↓rb_one1, ↓td_d, ↓td_l, ↓tds0, ↓tdsS, ↓rb_asC, ↓rb_bt, ↓rb_bf, ↓rb_fn, ↓rb_fr, ↓rb_fb, ↓rb_fc, ↓rb_take, ↓rb_peek, ↓tk0, ↓tkS, ↓pk0, ↓pkS, ↓tk_d, ↓tk_o, ↓pk_d, ↓pk_o, ↓e_nil, ↓e_cons, ↓e_var, ↓e_bor, ↓e_cst, ↓e_glb, ↓gd0, ↓gd1, ↓gd2, ↓gd3, ↓gd4, ↓gd5, ↓gd6, ↓gd7, ↓gd8, ↓rb_guard, ↓e_tup, ↓e_lst, ↓e_op, ↓e_neg, ↓e_opB, ↓e_cmp, ↓e_cmpL, ↓e_cmpR, ↓e_chain, ↓e_not, ↓e_and, ↓e_or, ↓e_ife, ↓e_call, ↓cl0, ↓cl1, ↓cl2, ↓cl3, ↓cl4, ↓cl5, ↓rc0_ok, ↓rc0_exc, ↓rc0_if, ↓rc1_ok, ↓e_blt, ↓e_bltB, ↓e_isi, ↓e_ix, ↓e_ixB, ↓rb_partF, ↓rb_partT, ↓rb_part, ↓e_slc, ↓e_slcB, ↓rb_itM, ↓e_lc, ↓rb_lcU, ↓t_skip, ↓t_seq, ↓t_asg, ↓ts_d, ↓ts_o, ↓asgO_eq, ↓ag0, ↓agS, ↓ag_n, ↓ag_d, ↓ag_o, ↓tgO_eq, ↓tg0, ↓tgS, ↓tg_n, ↓tg_d, ↓tg_o, ↓tg_m, ↓ag_m, ↓t_ife, ↓t_for, ↓for_nil, ↓t_ret, ↓t_expr, ↓t_raise, ↓v_lt, ↓v_le, ↓v_gt, ↓v_ge, ↓v_eqI, ↓v_neI, ↓v_eqS, ↓v_neS, ↓v_isN, ↓v_notN, ↓v_inT, ↓v_notInT, ↓v_add, ↓v_sub, ↓v_mul, ↓v_fdiv, ↓v_mod, ↓v_pow, ↓v_addT, ↓v_addL, ↓v_neg, ↓v_lenL, ↓v_lenT, ↓v_abs, ↓v_tupL, ↓v_tupT, ↓v_all, ↓v_allE1, ↓v_allE2, ↓v_allE3, ↓v_allE4, ↓v_allE5, ↓v_allE6, ↓v_any, ↓v_sum, ↓v_ix0, ↓v_ix1, ↓v_ix2, ↓v_ix3, ↓v_ix4, ↓v_it, ↓v_itL, ↓v_slT, ↓v_slL, arg_d, arg_l, arg_b, isiB, isiD, Option.getD_some, Bool.not_true, Bool.not_false, reduceCtorEq, List.map_cons, List.map_nil, List.set_cons_zero, List.set_cons_succ])
theorem for_run {A : Type} {tg : Tg} {b : M Fl} {I : A → S → Prop} (F : A → D → A) : ∀ (xs : List D), (∀ x ∈ xs, ∀ a σ, I a σ → ∃ σ', I (F a x) σ' ∧ R.bind (setTg tg x σ) (fun _ s => b s) = .ok .next σ') →
    ∀ (a : A) (σ : S), I a σ → ∃ σ', I (xs.foldl F a) σ' ∧ forM tg b xs σ = .ok .next σ'
  | [], _, a, σ, hI => ⟨σ, hI, rfl⟩
  | x :: xs, h, a, σ, hI => by
    obtain ⟨σ1, h1, e1⟩ := h x List.mem_cons_self a σ hI
    obtain ⟨σ2, h2, e2⟩ := for_run F xs (fun y hy => h y (List.mem_cons_of_mem _ hy)) (F a x) σ1 h1
    refine ⟨σ2, h2, ?_⟩
    have e0 : forM tg b (x :: xs) σ = R.bind (R.bind (setTg tg x σ) fun _ s => b s) fun f => match f with | .next => forM tg b xs | .cont => forM tg b xs | .brk => pureM .next | .ret d => pureM (.ret d) := by
      show bindM (setTg tg x) (fun _ => bindM b fun f => match f with | .next => forM tg b xs | .cont => forM tg b xs | .brk => pureM .next | .ret d => pureM (.ret d)) σ = _
      unfold bindM R.bind
      cases setTg tg x σ <;> rfl
    rw [e0, e1]
    exact e2
def lenD : D → Int
  | .tuple ps => ps.length
  | _ => 0
def shN (d : D) : Int := match d with
  | .tuple [_, .tuple ls] => (ls.map lenD).sum
  | _ => 0
def sumD (f : D → Int) (d : D) : Int := match d with
  | .tuple xs => xs.foldl (fun a x => a + f x) 0
  | _ => 0
def ptsG : (D → Int) → D → Int := fun f d => match d with
  | .tuple [.str _, x1, _, x3, _] => sumD f x1 + shN x3
  | .tuple (.str _ :: x1 :: _) => shN x1
  | _ => 0
def ptsD : Nat → D → Int
  | 0 => ptsG fun _ => 0
  | n + 1 => ptsG (ptsD n)
theorem and_l {a b : Bool} (h : (a && b) = true) : a = true := by cases a; cases h; rfl
theorem and_r {a b : Bool} (h : (a && b) = true) : b = true := by cases a; cases h; exact h
theorem loop_cases {d : D} (h : isLoopD d = true) : ∃ ps, d = .tuple ps ∧ ps.length ≤ 8 := by
  cases d with
  | tuple ps => exact ⟨ps, rfl, of_decide_eq_true (and_l (and_r h))⟩
  | _ => cases h
theorem shape_cases {d : D} (h : isShapeD d = true) : ∃ r ls, d = .tuple [.str r, .tuple ls] ∧ ls.length ≤ 3 ∧ ∀ l ∈ ls, isLoopD l = true := by
  unfold isShapeD at h
  split at h
  · rename_i r ls
    exact ⟨r, ls, rfl, of_decide_eq_true (and_l (and_r (and_r h))), List.all_eq_true.mp (and_r (and_r (and_r h)))⟩
  · cases h
theorem lay_cases {n : Nat} {d : D} (h : isLayerD n d = true) : (∃ x1 x2 x3, d = .tuple [.str "fill", x1, x2, x3] ∧ isShapeD x1 = true) ∨ (∃ x1 x2, d = .tuple [.str "rub", x1, x2] ∧ isShapeD x1 = true) ∨
    ∃ m x1 x2 x3 x4, n = m + 1 ∧ d = .tuple [.str "group", x1, x2, x3, x4] ∧ areD (isLayerD m) x1 = true ∧ (isNoneD x3 || isShapeD x3) = true := by
  rw [isLayerD_of] at h
  unfold layD at h
  split at h
  · rename_i t x1 x2 r
    split at h
    · rename_i e
      obtain rfl := eq_of_beq e
      match r, h with
      | [x3], h => exact .inl ⟨x1, x2, x3, rfl, and_l h⟩
    · split at h
      · rename_i e
        obtain rfl := eq_of_beq e
        match r, h with
        | [], h => exact .inr (.inl ⟨x1, x2, rfl, and_l h⟩)
      · split at h
        · rename_i e
          obtain rfl := eq_of_beq e
          match n, r, h with
          | m + 1, [x3, x4], h => exact .inr (.inr ⟨m, x1, x2, x3, x4, rfl, rfl, and_l h, and_r (and_r (and_r h))⟩)
        · cases h
  · cases h
theorem nfg : (Str.ofString "fill" == Str.ofString "group") = false := by decide +kernel
theorem nrg : (Str.ofString "rub" == Str.ofString "group") = false := by decide +kernel
theorem ygg : (Str.ofString "group" == Str.ofString "group") = true := by decide +kernel
theorem nnT (l : List D) : isNoneD (.tuple l) = false := rfl
theorem none_of {x : D} (h : isNoneD x = true) : x = .none := by cases x <;> first | rfl | cases h
theorem M_pts_step (n j : Nat) (hg : ∀ m x, n = m + 1 → areD (isLayerD m) x = true → run Γ j 8 [.d x] = .ok (.int (sumD (ptsD m) x)) [])
    (d : D) (hd : areD (isLayerD n) d = true) : run Γ (j + 1) 8 [.d d] = .ok (.int (sumD (ptsD n) d)) [] := by
  rw [r_points_in]
  refine run_of (s := [some (.d d), none, none, none, none]) rfl rfl ?_
  unfold d_points_in
  cases d with
  | tuple xs =>
    have hx := List.all_eq_true.mp (and_r hd)
    have hn : xs.length ≤ 4 := of_decide_eq_true (and_l hd)
    walk_at "pl"
    rw [v_it (okLen_small (by omega))]
    generalize hb : evS (run Γ j) (.seq (.asg 3 _) _) = b
    obtain ⟨σ', ⟨o2, o3, hI⟩, e⟩ := for_run (tg := .nm 2) (b := b) (I := fun a σ => ∃ o2 o3 : Option D, σ = [some (.d (.tuple xs)), some (.d (.int a)), o2.map SV.d, o3.map SV.d, none]) (fun a x => a + ptsD n x) xs (fun x hxx a σ ⟨o2, o3, e⟩ => by
      subst e hb
      rw [← rb_self (R.bind _ _)]
      walk_at "pl"
      have lcx : ∀ (a0 a1 a2 a3 : D) (ls : List D) (kl : List RV → M Fl), (∀ l ∈ ls, isLoopD l = true) → R.bind (lcR [] [4] (.nm 4) (bindM (ev (run Γ j) (.cst (.bool true))) asC) (ev (run Γ j) (.bltB .len ⟨4, none⟩)) ls [some (.d a0), some (.d a1), some (.d a2), some (.d a3), none]) kl = kl [.ob (.lst ((ls.map lenD).map PyData.int))] [some (.d a0), some (.d a1), some (.d a2), some (.d a3), none] := by
        intro a0 a1 a2 a3 ls kl hls
        rw [lcR_int lenD (fun y hy => by
          obtain ⟨ps, rfl, _⟩ := loop_cases (hls y hy)
          rw [← rb_self (lcU _ _ _ _ _)]
          refine ⟨_, by
            show R.bind (lcU _ _ _ _ [some (.d a0), some (.d a1), some (.d a2), some (.d a3), none]) _ = _
            walk_at "pl"
            rfl, rfl⟩)]
        rfl
      rcases lay_cases (hx x hxx) with ⟨x1, x2, x3, rfl, h1⟩ | ⟨x1, x2, rfl, h1⟩ | ⟨m, x1, x2, x3, x4, hm, rfl, h1, h2⟩
      · obtain ⟨r, ls, rfl, hl, hls⟩ := shape_cases h1
        walk_at "pl"
        simp only [nfg]
        walk_at "pl"
        simp only [nfg]
        walk_at "pl"
        simp only [nnT, Bool.not_false]
        walk_at "pl"
        rw [v_it (okLen_small (by omega)), lcx _ _ _ _ _ _ hls]
        walk_at "pl"
        exact ⟨_, ⟨some _, some _, by cases n <;> rfl⟩, rfl⟩
      · obtain ⟨r, ls, rfl, hl, hls⟩ := shape_cases h1
        walk_at "pl"
        simp only [nrg]
        walk_at "pl"
        simp only [nrg]
        walk_at "pl"
        simp only [nnT, Bool.not_false]
        walk_at "pl"
        rw [v_it (okLen_small (by omega)), lcx _ _ _ _ _ _ hls]
        walk_at "pl"
        exact ⟨_, ⟨some _, some _, by cases n <;> rfl⟩, rfl⟩
      · subst hm
        walk_at "pl"
        simp only [ygg]
        walk_at "pl"
        simp only [ygg]
        walk_at "pl"
        rw [hg m _ rfl h1]
        walk_at "pl"
        cases h3 : isNoneD x3 with
        | true =>
          obtain rfl := none_of h3
          walk_at "pl"
          exact ⟨_, ⟨some _, some _, by
            show _ = [_, some (SV.d (PyData.int (a + (sumD (ptsD m) x1 + 0)))), _, _, _]
            rw [Int.add_zero]; rfl⟩, rfl⟩
        | false =>
          rw [h3, Bool.false_or] at h2
          obtain ⟨r, ls, rfl, hl, hls⟩ := shape_cases h2
          walk_at "pl"
          rw [v_it (okLen_small (by omega)), lcx _ _ _ _ _ _ hls]
          walk_at "pl"
          exact ⟨_, ⟨some _, some _, by
            show _ = [_, some (SV.d (PyData.int (a + (sumD (ptsD m) x1 + (ls.map lenD).sum)))), _, _, _]
            rw [← Int.add_assoc]; rfl⟩, rfl⟩) 0 [some (.d (.tuple xs)), some (.d (.int 0)), none, none, none] ⟨none, none, rfl⟩
    rw [e, hI]
    walk_at "pl"
    rfl
  | _ => cases hd
theorem M_points_in : ∀ (n k : Nat) (d : D), areD (isLayerD n) d = true → run Γ (k + n + 1) 8 [.d d] = .ok (.int (sumD (ptsD n) d)) []
  | 0, k, d, h => M_pts_step 0 k (fun _ _ e => by cases e) d h
  | n + 1, k, d, h => M_pts_step (n + 1) (k + n + 1) (fun m x e hx => by
      obtain rfl : n = m := Nat.succ.inj e
      exact M_points_in n k x hx) d h
def isDrawingD (d : D) : Bool := areD (isLayerD 2) d && decide (sumD (ptsD 2) d ≤ 60)
def isLayD (d : D) : Bool := isLayerD 2 d && decide (sumD (ptsD 2) (.tuple [d]) ≤ 60)
theorem M_is_drawing (k : Nat) (d : D) : run Γ (k + 10) 9 [.d d] = .ok (.bool (isDrawingD d)) [] := by
  rw [r_is_drawing]
  refine run_of (s := [some (.d d)]) rfl rfl ?_
  unfold d_is_drawing isDrawingD
  walk_at "pl"
  rw [show run Γ (k + 9) 7 [.d d, .d (.int 2)] = .ok (.bool (areD (isLayerD 2) d)) [] from M_are_layers 2 k d]
  walk_at "pl"
  cases h : areD (isLayerD 2) d with
  | false => walk_at "pl"; rfl
  | true =>
    walk_at "pl"
    rw [show run Γ (k + 9) 8 [.d d] = .ok (.int (sumD (ptsD 2) d)) [] from M_points_in 2 (k + 6) d h]
    walk_at "pl"
    rfl
theorem M_is_layer (k : Nat) (d : D) : run Γ (k + 9) 10 [.d d] = .ok (.bool (isLayD d)) [] := by
  rw [r_is_layer]
  refine run_of (s := [some (.d d)]) rfl rfl ?_
  unfold d_is_layer isLayD
  walk_at "pl"
  rw [show run Γ (k + 8) 6 [.d d, .d (.int 2)] = .ok (.bool (isLayerD 2 d)) [] from M_is_layer_within 2 k d]
  walk_at "pl"
  cases h : isLayerD 2 d with
  | false => walk_at "pl"; rfl
  | true =>
    walk_at "pl"
    rw [show run Γ (k + 8) 8 [.d (.tuple [d])] = .ok (.int (sumD (ptsD 2) (.tuple [d]))) [] from M_points_in 2 (k + 5) _ (by show (true && (isLayerD 2 d && true)) = true; rw [h]; rfl)]
    walk_at "pl"
    rfl
theorem M_need_drawing (k : Nat) (d : D) (h : isDrawingD d = true) : run Γ (k + 11) 11 [.d d] = .ok .none [] := by
  rw [r_need_drawing]
  refine run_of (s := [some (.d d)]) rfl rfl ?_
  unfold d_need_drawing
  walk_at "pl"
  rw [M_is_drawing, h]
  walk_at "pl"
  rfl
theorem M_need_drawing_no (k : Nat) (d : D) (h : isDrawingD d = false) : run Γ (k + 11) 11 [.d d] = .exc "InvalidDrawing" [] := by
  rw [r_need_drawing]
  refine run_of (s := [some (.d d)]) rfl rfl ?_
  unfold d_need_drawing
  walk_at "pl"
  rw [M_is_drawing, h]
  walk_at "pl"
  rfl
theorem M_count_points (k : Nat) (d : D) (h : isDrawingD d = true) : run Γ (k + 12) 12 [.d d] = .ok (.int (sumD (ptsD 2) d)) [] := by
  rw [r_count_points]
  refine run_of (s := [some (.d d)]) rfl rfl ?_
  unfold d_count_points
  walk_at "pl"
  rw [M_need_drawing k d h]
  walk_at "pl"
  rw [show run Γ (k + 11) 8 [.d d] = .ok (.int (sumD (ptsD 2) d)) [] from M_points_in 2 (k + 8) d (and_l h)]
  walk_at "pl"
  rfl
end Tb
set_option maxHeartbeats 4000000
namespace Tb
open PySem VL
local macro_rules | `(tactic| walk_at "pl") => `(tactic| try simp only [↓rb_ok, ↓rb_exc, ↓rb_stuck, ↓rb_bindM, ↓rb_pure, ↓rb_stuckM, ↓rb_some, ↓rb_none, ↓rb_one, ↓rb_one1, ↓td_d, ↓td_l, ↓tds0, ↓tdsS, ↓rb_asC, ↓rb_bt, ↓rb_bf, ↓rb_fn, ↓rb_fr, ↓rb_fb, ↓rb_fc, ↓rb_take, ↓rb_peek, ↓tk0, ↓tkS, ↓pk0, ↓pkS, ↓tk_d, ↓tk_o, ↓pk_d, ↓pk_o, ↓e_nil, ↓e_cons, ↓e_var, ↓e_bor, ↓e_cst, ↓e_glb, ↓gd0, ↓gd1, ↓gd2, ↓gd3, ↓gd4, ↓gd5, ↓gd6, ↓gd7, ↓gd8, ↓rb_guard, ↓e_tup, ↓e_lst, ↓e_op, ↓e_neg, ↓e_opB, ↓e_cmp, ↓e_cmpL, ↓e_cmpR, ↓e_chain, ↓e_not, ↓e_and, ↓e_or, ↓e_ife, ↓e_call, ↓cl0, ↓cl1, ↓cl2, ↓cl3, ↓cl4, ↓cl5, ↓rc0_ok, ↓rc0_exc, ↓rc0_if, ↓rc1_ok, ↓e_blt, ↓e_bltB, ↓e_isi, ↓e_ix, ↓e_ixB, ↓rb_partF, ↓rb_partT, ↓rb_part, ↓e_slc, ↓e_slcB, ↓rb_itM, ↓e_lc, ↓rb_lcU, ↓t_skip, ↓t_seq, ↓t_asg, ↓ts_d, ↓ts_o, ↓asgO_eq, ↓ag0, ↓agS, ↓ag_n, ↓ag_d, ↓ag_o, ↓tgO_eq, ↓tg0, ↓tgS, ↓tg_n, ↓tg_d, ↓tg_o, ↓tg_m, ↓ag_m, ↓t_ife, ↓t_for, ↓for_nil, ↓t_ret, ↓t_expr, ↓t_raise, ↓t_setI, ↓il0, ↓sd0, ↓sd1, ↓t_app, ↓bo0, ↓bo1, ↓cb0, ↓cb1, ↓cb2, ↓cb3, ↓dc0, ↓dc1, ↓dc2, ↓dc3, ↓v_ixL0, ↓v_ixL1, ↓v_lt, ↓v_le, ↓v_gt, ↓v_ge, ↓v_eqI, ↓v_neI, ↓v_eqS, ↓v_neS, ↓v_isN, ↓v_notN, ↓v_inT, ↓v_notInT, ↓v_add, ↓v_sub, ↓v_mul, ↓v_fdiv, ↓v_mod, ↓v_pow, ↓v_addT, ↓v_addL, ↓v_neg, ↓v_lenL, ↓v_lenT, ↓v_abs, ↓v_tupL, ↓v_tupT, ↓v_all, ↓v_allE1, ↓v_allE2, ↓v_allE3, ↓v_allE4, ↓v_allE5, ↓v_allE6, ↓v_any, ↓v_sum, ↓v_ix0, ↓v_ix1, ↓v_ix2, ↓v_ix3, ↓v_ix4, ↓v_it, ↓v_itL, ↓v_slT, ↓v_slL, arg_d, arg_l, arg_b, isiB, isiD, Option.getD_some, Bool.not_true, Bool.not_false, reduceCtorEq, List.map_cons, List.map_nil, List.set_cons_zero, List.set_cons_succ])
theorem M_drawn (k : Nat) (c n : Int) : ∃ t, run Γ (k + 1) 13 [.d (.int c), .d (.int n)] = .ok (.int t) [] := by
  rw [r__law_drawn]
  suffices h : ∃ t, endRC [.d (.int c), .d (.int n)] (R.bind (evS (run Γ k) d__law_drawn.body [some (.d (.int c)), some (.d (.int n)), none]) fun a s => .ok a s) = .ok (.int t) [] by
    obtain ⟨t, e⟩ := h
    exact ⟨t, run_of (s := [some (.d (.int c)), some (.d (.int n)), none]) rfl rfl e⟩
  unfold d__law_drawn
  walk_at "pl"
  rw [v_mul (okMulR (by decide) (by decide))]
  walk_at "pl"
  rw [v_mul (okMulR (by decide) (by decide))]
  walk_at "pl"
  rw [v_mod (by decide)]
  have a1 := fm_lo (i := c * 6364136223846793005 + (n + 1) * 1442695040888963407) (j := 340282366920938463463374607431768211507) (by decide)
  have a2 := fm_hi (i := c * 6364136223846793005 + (n + 1) * 1442695040888963407) (j := 340282366920938463463374607431768211507) (by decide)
  generalize (c * 6364136223846793005 + (n + 1) * 1442695040888963407).fmod 340282366920938463463374607431768211507 = m1 at a1 a2 ⊢
  walk_at "pl"
  rw [v_mul (okMul_bits (by omega) (by omega))]
  walk_at "pl"
  rw [v_mod (by decide)]
  have b1 := fm_lo (i := m1 * m1) (j := 340282366920938463463374607431768211297) (by decide)
  have b2 := fm_hi (i := m1 * m1) (j := 340282366920938463463374607431768211297) (by decide)
  generalize (m1 * m1).fmod 340282366920938463463374607431768211297 = m2 at b1 b2 ⊢
  walk_at "pl"
  rw [v_mod (by decide)]
  have c1 := fm_lo (i := m2) (j := 18446744073709551557) (by decide)
  have c2 := fm_hi (i := m2) (j := 18446744073709551557) (by decide)
  generalize m2.fmod 18446744073709551557 = m3 at c1 c2 ⊢
  walk_at "pl"
  rw [v_fdiv (okDiv_small (by decide) (by decide)), Int.fdiv_eq_ediv_of_nonneg _ (by decide)]
  walk_at "pl"
  rw [v_mul (okMul_bits (by omega) (by omega))]
  walk_at "pl"
  have e1 : ((m3 + 1) * (m2 / 18446744073709551557 + 1)).natAbs < 2 ^ 200 := by
    rw [Int.natAbs_mul]
    have x1 : (m3 + 1).natAbs < 2 ^ 65 := by omega
    have x2 : (m2 / 18446744073709551557 + 1).natAbs < 2 ^ 65 := by omega
    exact Nat.lt_trans (Nat.mul_lt_mul'' x1 x2) (by decide)
  rw [v_mul (okMul_bits e1 (by omega))]
  walk_at "pl"
  rw [v_mod (by decide)]
  walk_at "pl"
  exact ⟨_, rfl⟩
theorem M_roll (k : Nat) (m c n : Int) (h0 : 0 < m) (h1 : m < 2 ^ 64) : ∃ t c' n', run Γ (k + 2) 14 [.o (dice c n), .d (.int m)] = .ok (.int t) [dice c' n'] ∧ 0 ≤ t ∧ t < m := by
  rw [r__law_roll]
  suffices h : ∃ t c' n', endRC [.o (dice c n), .d (.int m)] (R.bind (evS (run Γ (k + 1)) d__law_roll.body [some (.ob false (.lst [.int c, .int n])), some (.d (.int m)), none]) fun a s => .ok a s) = .ok (.int t) [dice c' n'] ∧ 0 ≤ t ∧ t < m by
    obtain ⟨t, c', n', e, r⟩ := h
    exact ⟨t, c', n', run_of rfl rfl e, r⟩
  unfold d__law_roll
  walk_at "pl"
  rw [v_pow (by decide)]
  walk_at "pl"
  by_cases g : (10 : Int) ^ (18 : Int).toNat ≤ c
  · rw [decide_eq_true g]
    walk_at "pl"
    rw [v_mod (by omega)]
    walk_at "pl"
    rw [v_fdiv (okDiv_small (by omega) (by omega))]
    walk_at "pl"
    exact ⟨_, _, _, rfl, fm_lo h0, fm_hi h0⟩
  · rw [decide_eq_false g]
    walk_at "pl"
    obtain ⟨t, e⟩ := M_drawn k c (n + 1)
    rw [e]
    walk_at "pl"
    rw [v_fdiv (okDiv_small (by decide) (by decide))]
    walk_at "pl"
    rw [v_mod (by omega)]
    walk_at "pl"
    exact ⟨_, _, _, rfl, fm_lo h0, fm_hi h0⟩
end Tb
set_option maxHeartbeats 4000000
namespace Tb
open PySem VL
local macro_rules | `(tactic| walk_at "pl") => `(tactic| try simp only [↓rb_ok, ↓rb_exc, ↓rb_stuck, ↓rb_bindM, ↓rb_pure, ↓rb_stuckM, ↓rb_some, ↓rb_none, ↓rb_one, ↓rb_one1, ↓td_d, ↓td_l, ↓tds0, ↓tdsS, ↓rb_asC, ↓rb_bt, ↓rb_bf, ↓rb_fn, ↓rb_fr, ↓rb_fb, ↓rb_fc, ↓rb_take, ↓rb_peek, ↓tk0, ↓tkS, ↓pk0, ↓pkS, ↓tk_d, ↓tk_o, ↓pk_d, ↓pk_o, ↓e_nil, ↓e_cons, ↓e_var, ↓e_bor, ↓e_cst, ↓e_glb, ↓gd0, ↓gd1, ↓gd2, ↓gd3, ↓gd4, ↓gd5, ↓gd6, ↓gd7, ↓gd8, ↓rb_guard, ↓e_tup, ↓e_lst, ↓e_op, ↓e_neg, ↓e_opB, ↓e_cmp, ↓e_cmpL, ↓e_cmpR, ↓e_chain, ↓e_not, ↓e_and, ↓e_or, ↓e_ife, ↓e_call, ↓cl0, ↓cl1, ↓cl2, ↓cl3, ↓cl4, ↓cl5, ↓rc0_ok, ↓rc0_exc, ↓rc0_if, ↓rc1_ok, ↓e_blt, ↓e_bltB, ↓e_isi, ↓e_ix, ↓e_ixB, ↓rb_partF, ↓rb_partT, ↓rb_part, ↓e_slc, ↓e_slcB, ↓rb_itM, ↓e_lc, ↓rb_lcU, ↓t_skip, ↓t_seq, ↓t_asg, ↓ts_d, ↓ts_o, ↓asgO_eq, ↓ag0, ↓agS, ↓ag_n, ↓ag_d, ↓ag_o, ↓tgO_eq, ↓tg0, ↓tgS, ↓tg_n, ↓tg_d, ↓tg_o, ↓tg_m, ↓ag_m, ↓t_ife, ↓t_for, ↓for_nil, ↓t_ret, ↓t_expr, ↓t_raise, ↓t_setI, ↓il0, ↓sd0, ↓sd1, ↓t_app, ↓bo0, ↓bo1, ↓cb0, ↓cb1, ↓cb2, ↓cb3, ↓dc0, ↓dc1, ↓dc2, ↓dc3, ↓v_ixL0, ↓v_ixL1, ↓v_lt, ↓v_le, ↓v_gt, ↓v_ge, ↓v_eqI, ↓v_neI, ↓v_eqS, ↓v_neS, ↓v_isN, ↓v_notN, ↓v_inT, ↓v_notInT, ↓v_add, ↓v_sub, ↓v_mul, ↓v_fdiv, ↓v_mod, ↓v_pow, ↓v_addT, ↓v_addL, ↓v_neg, ↓v_lenL, ↓v_lenT, ↓v_abs, ↓v_tupL, ↓v_tupT, ↓v_all, ↓v_allE1, ↓v_allE2, ↓v_allE3, ↓v_allE4, ↓v_allE5, ↓v_allE6, ↓v_any, ↓v_sum, ↓v_ix0, ↓v_ix1, ↓v_ix2, ↓v_ix3, ↓v_ix4, ↓v_it, ↓v_itL, ↓v_slT, ↓v_slL, arg_d, arg_l, arg_b, isiB, isiD, Option.getD_some, Bool.not_true, Bool.not_false, reduceCtorEq, List.map_cons, List.map_nil, List.set_cons_zero, List.set_cons_succ])
theorem rollE (k : Nat) (m c n : Int) (h0 : 0 < m) (h1 : m < 2 ^ 64) : ∃ t c' n', run Γ (k + 2) 14 [.o (.lst [.int c, .int n]), .d (.int m)] = .ok (.int t) [.lst [.int c', .int n']] ∧ 0 ≤ t ∧ t < m := M_roll k m c n h0 h1
theorem isPt_mk {x y : Int} (h1 : -9 ≤ x) (h2 : x ≤ 9) (h3 : -9 ≤ y) (h4 : y ≤ 9) : isPtD (.tuple [.int x, .int y]) = true := by
  simp [isPtD, isWholeD, h1, h2, h3, h4]
theorem M_loop (k : Nat) (far c n : Int) (h0 : 0 ≤ far) (h1 : far ≤ 9) : ∃ d c' n', run Γ (k + 3) 15 [.o (dice c n), .d (.int far)] = .ok d [dice c' n'] ∧ isLoopD d = true := by
  rw [r__law_loop]
  suffices h : ∃ d c' n', endRC [.o (dice c n), .d (.int far)] (R.bind (evS (run Γ (k + 2)) d__law_loop.body [some (.ob false (.lst [.int c, .int n])), some (.d (.int far)), none, none]) fun a s => .ok a s) = .ok d [dice c' n'] ∧ isLoopD d = true by
    obtain ⟨t, c', n', e, r⟩ := h
    exact ⟨t, c', n', run_of rfl rfl e, r⟩
  unfold d__law_loop
  walk_at "pl"
  obtain ⟨t, c1, n1, e, t0, t1⟩ := rollE k 3 c n (by decide) (by decide)
  rw [e]
  walk_at "pl"
  rw [v_range1 (by omega)]
  generalize hxs : ((List.range (3 + t).toNat).map fun (i : Nat) => PyData.int (i : Int)) = xs
  have hl : xs.length = (3 + t).toNat := by rw [← hxs]; simp
  generalize hb : evS (run Γ (k + 2)) (.seq (.app _ _) _) = b
  obtain ⟨s', ⟨c2, n2, ps, o, rfl, p1, p2⟩, e2⟩ := for_inv (tg := .nm 3) (b := b) (I := fun j s => ∃ (c n : Int) (ps : List D) (o : Option D), s = [some (.ob false (.lst [.int c, .int n])), some (.d (.int far)), some (.ob true (.lst ps)), o.map SV.d] ∧ ps.length = j ∧ ps.all isPtD = true) xs 0 [some (.ob false (.lst [.int c1, .int n1])), some (.d (.int far)), some (.ob true (.lst [])), none] (fun m x s hm ⟨c, n, ps, o, e, q1, q2⟩ => by
    subst e hb
    have hm' : m < xs.length := (List.getElem?_eq_some_iff.mp hm).1
    rw [← rb_self (R.bind _ _)]
    walk_at "pl"
    rw [ilS (i := 2) rfl]
    walk_at "pl"
    rw [v_mul (okMulL (by decide) (by decide))]
    walk_at "pl"
    obtain ⟨t1, c1, n1, e1, a1, a2⟩ := rollE k (2 * far + 1) c n (by omega) (by omega)
    rw [e1]
    walk_at "pl"
    rw [v_mul (okMulL (by decide) (by decide))]
    walk_at "pl"
    obtain ⟨t2, c2, n2, e2, b1, b2⟩ := rollE k (2 * far + 1) c1 n1 (by omega) (by omega)
    rw [e2]
    walk_at "pl"
    rw [app_ok (i := 2) rfl (okLen_small (by omega))]
    walk_at "pl"
    refine ⟨_, ⟨c2, n2, ps ++ [.tuple [.int (t1 - far), .int (t2 - far)]], some x, rfl, by rw [List.length_append, q1]; rfl, ?_⟩, rfl⟩
    rw [List.all_append, q2, Bool.true_and, List.all_cons, isPt_mk (by omega) (by omega) (by omega) (by omega)]; rfl) ⟨c1, n1, [], none, rfl, rfl, rfl⟩
  rw [e2]
  walk_at "pl"
  refine ⟨.tuple ps, c2, n2, rfl, ?_⟩
  show (decide (3 ≤ ps.length) && (decide (ps.length ≤ 8) && ps.all isPtD)) = true
  rw [p2, decide_eq_true (by omega), decide_eq_true (by omega)]; rfl
theorem loopE (k : Nat) (far c n : Int) (h0 : 0 ≤ far) (h1 : far ≤ 9) : ∃ d c' n', run Γ (k + 3) 15 [.o (.lst [.int c, .int n]), .d (.int far)] = .ok d [.lst [.int c', .int n']] ∧ isLoopD d = true := M_loop k far c n h0 h1
theorem all_loops {zs : List D} (h : ∀ z ∈ zs, isLoopD z = true) : zs.all isLoopD = true := List.all_eq_true.mpr h
theorem M_shape (k : Nat) (far c n : Int) (h0 : 0 ≤ far) (h1 : far ≤ 9) : ∃ d c' n', run Γ (k + 4) 16 [.o (dice c n), .d (.int far)] = .ok d [dice c' n'] ∧ isShapeD d = true := by
  rw [r__law_shape]
  suffices h : ∃ d c' n', endRC [.o (dice c n), .d (.int far)] (R.bind (evS (run Γ (k + 3)) d__law_shape.body [some (.ob false (.lst [.int c, .int n])), some (.d (.int far)), none, none]) fun a s => .ok a s) = .ok d [dice c' n'] ∧ isShapeD d = true by
    obtain ⟨t, c', n', e, r⟩ := h
    exact ⟨t, c', n', run_of rfl rfl e, r⟩
  unfold d__law_shape
  walk_at "pl"
  obtain ⟨t, c1, n1, e, t0, t1⟩ := rollE (k + 1) 4 c n (by decide) (by decide)
  rw [e]
  walk_at "pl"
  rw [v_fdiv (okDiv_small (by decide) (by decide)), Int.fdiv_eq_ediv_of_nonneg _ (by decide)]
  walk_at "pl"
  rw [v_range1 (by omega)]
  generalize hxs : ((List.range (1 + t / 3).toNat).map fun (i : Nat) => PyData.int (i : Int)) = xs
  have hl : xs.length = (1 + t / 3).toNat := by rw [← hxs]; simp
  obtain ⟨zs, s', e1, ⟨c2, n2, rfl⟩, z1, z2⟩ := lcR_inv (I := fun s => ∃ c n : Int, s = [some (.ob false (.lst [.int c, .int n])), some (.d (.int far)), none, none]) (p := fun d => isLoopD d = true) (fz := [1]) (vs := [3]) (tg := .nm 3) (ys := xs) (c := bindM (ev (run Γ (k + 3)) (.cst (.bool true))) asC) (e := ev (run Γ (k + 3)) (.call 15 (.cons (.bor 0) (.cons (.var 1) .nil)))) (s := [some (.ob false (.lst [.int c1, .int n1])), some (.d (.int far)), none, none]) (fun y hy s ⟨c, n, e⟩ => by
    subst e
    obtain ⟨d, c1, n1, e1, q⟩ := loopE k far c n h0 h1
    refine ⟨d, [some (.ob false (.lst [.int c1, .int n1])), some (.d (.int far)), none, some (.d y)], ?_, q, c1, n1, rfl⟩
    rw [← rb_self (lcU _ _ _ _ _)]
    show R.bind (lcU _ _ _ y [some (.ob false (.lst [.int c, .int n])), some (.d (.int far)), none, none]) _ = _
    walk_at "pl"
    rw [e1]
    walk_at "pl") ⟨c1, n1, rfl⟩
  rw [e1]
  walk_at "pl"
  obtain ⟨t2, c3, n3, e2, u0, u1⟩ := rollE (k + 1) 2 c2 n2 (by decide) (by decide)
  rw [e2]
  have ht : t2 = 0 ∨ t2 = 1 := by omega
  have hr : isLoopD (.tuple []) = false := rfl
  have hsh : ∀ r : Str, isRuleD r = true → isShapeD (.tuple [.str r, .tuple zs]) = true := fun r hr => by
    show (isRuleD r && (decide (1 ≤ zs.length) && (decide (zs.length ≤ 3) && zs.all isLoopD))) = true
    rw [hr, all_loops z2, decide_eq_true (by omega), decide_eq_true (by omega)]; rfl
  rcases ht with rfl | rfl
  · walk_at "pl"
    exact ⟨_, _, _, rfl, hsh _ rfl⟩
  · walk_at "pl"
    exact ⟨_, _, _, rfl, hsh _ rfl⟩
end Tb
set_option maxHeartbeats 4000000
namespace Tb
open PySem VL
local macro_rules | `(tactic| walk_at "pl") => `(tactic| try simp only [↓rb_ok, ↓rb_exc, ↓rb_stuck, ↓rb_bindM, ↓rb_pure, ↓rb_stuckM, ↓rb_some, ↓rb_none, ↓rb_one, ↓rb_one1, ↓td_d, ↓td_l, ↓tds0, ↓tdsS, ↓rb_asC, ↓rb_bt, ↓rb_bf, ↓rb_fn, ↓rb_fr, ↓rb_fb, ↓rb_fc, ↓rb_take, ↓rb_peek, ↓tk0, ↓tkS, ↓pk0, ↓pkS, ↓tk_d, ↓tk_o, ↓pk_d, ↓pk_o, ↓e_nil, ↓e_cons, ↓e_var, ↓e_bor, ↓e_cst, ↓e_glb, ↓gd0, ↓gd1, ↓gd2, ↓gd3, ↓gd4, ↓gd5, ↓gd6, ↓gd7, ↓gd8, ↓rb_guard, ↓e_tup, ↓e_lst, ↓e_op, ↓e_neg, ↓e_opB, ↓e_cmp, ↓e_cmpL, ↓e_cmpR, ↓e_chain, ↓e_not, ↓e_and, ↓e_or, ↓e_ife, ↓e_call, ↓cl0, ↓cl1, ↓cl2, ↓cl3, ↓cl4, ↓cl5, ↓rc0_ok, ↓rc0_exc, ↓rc0_if, ↓rc1_ok, ↓e_blt, ↓e_bltB, ↓e_isi, ↓e_ix, ↓e_ixB, ↓rb_partF, ↓rb_partT, ↓rb_part, ↓e_slc, ↓e_slcB, ↓rb_itM, ↓e_lc, ↓rb_lcU, ↓t_skip, ↓t_seq, ↓t_asg, ↓ts_d, ↓ts_o, ↓asgO_eq, ↓ag0, ↓agS, ↓ag_n, ↓ag_d, ↓ag_o, ↓tgO_eq, ↓tg0, ↓tgS, ↓tg_n, ↓tg_d, ↓tg_o, ↓tg_m, ↓ag_m, ↓t_ife, ↓t_for, ↓for_nil, ↓t_ret, ↓t_expr, ↓t_raise, ↓t_setI, ↓il0, ↓sd0, ↓sd1, ↓t_app, ↓bo0, ↓bo1, ↓cb0, ↓cb1, ↓cb2, ↓cb3, ↓dc0, ↓dc1, ↓dc2, ↓dc3, ↓v_ixL0, ↓v_ixL1, ↓v_lt, ↓v_le, ↓v_gt, ↓v_ge, ↓v_eqI, ↓v_neI, ↓v_eqS, ↓v_neS, ↓v_isN, ↓v_notN, ↓v_inT, ↓v_notInT, ↓v_add, ↓v_sub, ↓v_mul, ↓v_fdiv, ↓v_mod, ↓v_pow, ↓v_addT, ↓v_addL, ↓v_neg, ↓v_lenL, ↓v_lenT, ↓v_abs, ↓v_tupL, ↓v_tupT, ↓v_all, ↓v_allE1, ↓v_allE2, ↓v_allE3, ↓v_allE4, ↓v_allE5, ↓v_allE6, ↓v_any, ↓v_sum, ↓v_ix0, ↓v_ix1, ↓v_ix2, ↓v_ix3, ↓v_ix4, ↓v_it, ↓v_itL, ↓v_slT, ↓v_slL, arg_d, arg_l, arg_b, isiB, isiD, Option.getD_some, Bool.not_true, Bool.not_false, reduceCtorEq, List.map_cons, List.map_nil, List.set_cons_zero, List.set_cons_succ])
theorem isOp_mk {a b : Int} (h1 : 1 ≤ a) (h2 : a ≤ b) (h3 : 1 ≤ b) (h4 : b ≤ 6) : isOpacityD (.tuple [.int a, .int b]) = true := by
  simp [isOpacityD, isWholeD, h1, h2, h3, h4]
theorem M_opacity (k : Nat) (c n : Int) : ∃ d c' n', run Γ (k + 3) 17 [.o (dice c n)] = .ok d [dice c' n'] ∧ isOpacityD d = true := by
  rw [r__law_opacity]
  suffices h : ∃ d c' n', endRC [.o (dice c n)] (R.bind (evS (run Γ (k + 2)) d__law_opacity.body [some (.ob false (.lst [.int c, .int n])), none]) fun a s => .ok a s) = .ok d [dice c' n'] ∧ isOpacityD d = true by
    obtain ⟨t, c', n', e, r⟩ := h
    exact ⟨t, c', n', run_of rfl rfl e, r⟩
  unfold d__law_opacity
  walk_at "pl"
  obtain ⟨t, c1, n1, e, t0, t1⟩ := rollE k 4 c n (by decide) (by decide)
  rw [e]
  walk_at "pl"
  obtain ⟨t2, c2, n2, e2, u0, u1⟩ := rollE k 2 c1 n1 (by decide) (by decide)
  rw [e2]
  walk_at "pl"
  by_cases h : t2 = 0
  · rw [show (t2 == 0) = true from beq_iff_eq.mpr h]
    walk_at "pl"
    exact ⟨_, _, _, rfl, rfl⟩
  · rw [show (t2 == 0) = false from beq_eq_false_iff_ne.mpr h]
    walk_at "pl"
    obtain ⟨t3, c3, n3, e3, v0, v1⟩ := rollE k (1 + t) c2 n2 (by omega) (by omega)
    rw [e3]
    walk_at "pl"
    exact ⟨_, _, _, rfl, isOp_mk (by omega) (by omega) (by omega) (by omega)⟩
theorem M_matrix (k : Nat) (c n : Int) : ∃ d c' n', run Γ (k + 3) 18 [.o (dice c n)] = .ok d [dice c' n'] ∧ isMatrixD d = true := by
  rw [r__law_matrix]
  suffices h : ∃ d c' n', endRC [.o (dice c n)] (R.bind (evS (run Γ (k + 2)) d__law_matrix.body [some (.ob false (.lst [.int c, .int n])), none]) fun a s => .ok a s) = .ok d [dice c' n'] ∧ isMatrixD d = true by
    obtain ⟨t, c', n', e, r⟩ := h
    exact ⟨t, c', n', run_of rfl rfl e, r⟩
  unfold d__law_matrix
  walk_at "pl"
  obtain ⟨t, c1, n1, e, t0, t1⟩ := rollE k 7 c n (by decide) (by decide)
  rw [e]
  walk_at "pl"
  have key : ∀ m : Fin 7, ∃ a b c d : Int, ([.tuple [.int 1, .int 0, .int 0, .int 1], .tuple [.int 0, .int 1, .int (-1), .int 0], .tuple [.int (-1), .int 0, .int 0, .int 1], .tuple [.int 1, .int 1, .int 0, .int 1], .tuple [.int 2, .int 0, .int 0, .int 1], .tuple [.int 1, .int 0, .int 1, .int (-1)], .tuple [.int 1, .int (-1), .int 1, .int 1]] : List D)[m.val]? = some (.tuple [.int a, .int b, .int c, .int d]) ∧
      [PyData.int a, .int b, .int c, .int d].all (fun x => isWholeD x (-2) 2) = true ∧ (a * d == b * c) = false := fun m =>
    match m with
    | 0 => ⟨_, _, _, _, rfl, by decide, by decide⟩
    | 1 => ⟨_, _, _, _, rfl, by decide, by decide⟩
    | 2 => ⟨_, _, _, _, rfl, by decide, by decide⟩
    | 3 => ⟨_, _, _, _, rfl, by decide, by decide⟩
    | 4 => ⟨_, _, _, _, rfl, by decide, by decide⟩
    | 5 => ⟨_, _, _, _, rfl, by decide, by decide⟩
    | 6 => ⟨_, _, _, _, rfl, by decide, by decide⟩
  obtain ⟨ma, mb, mc, md, k1, k2, k3⟩ := key ⟨t.toNat, by omega⟩
  rw [show t = ((t.toNat : Nat) : Int) by omega, v_ixLn k1]
  walk_at "pl"
  obtain ⟨t2, c2, n2, e2, u0, u1⟩ := rollE k 7 c1 n1 (by decide) (by decide)
  rw [e2]
  walk_at "pl"
  obtain ⟨t3, c3, n3, e3, v0, v1⟩ := rollE k 7 c2 n2 (by decide) (by decide)
  rw [e3]
  walk_at "pl"
  rw [v_addT rfl]
  walk_at "pl"
  refine ⟨_, _, _, rfl, ?_⟩
  show ([PyData.int ma, .int mb, .int mc, .int md].all (fun x => isWholeD x (-2) 2) && ([PyData.int (t2 - 3), .int (t3 - 3)].all (fun x => isWholeD x (-9) 9) && !(ma * md == mb * mc))) = true
  rw [k2, k3]
  simp [isWholeD]
  omega
end Tb
set_option maxHeartbeats 4000000
namespace Tb
open PySem VL
local macro_rules | `(tactic| walk_at "pl") => `(tactic| try simp only [↓rb_ok, ↓rb_exc, ↓rb_stuck, ↓rb_bindM, ↓rb_pure, ↓rb_stuckM, ↓rb_some, ↓rb_none, ↓rb_one, ↓rb_one1, ↓td_d, ↓td_l, ↓tds0, ↓tdsS, ↓rb_asC, ↓rb_bt, ↓rb_bf, ↓rb_fn, ↓rb_fr, ↓rb_fb, ↓rb_fc, ↓rb_take, ↓rb_peek, ↓tk0, ↓tkS, ↓pk0, ↓pkS, ↓tk_d, ↓tk_o, ↓pk_d, ↓pk_o, ↓e_nil, ↓e_cons, ↓e_var, ↓e_bor, ↓e_cst, ↓e_glb, ↓gd0, ↓gd1, ↓gd2, ↓gd3, ↓gd4, ↓gd5, ↓gd6, ↓gd7, ↓gd8, ↓rb_guard, ↓e_tup, ↓e_lst, ↓e_op, ↓e_neg, ↓e_opB, ↓e_cmp, ↓e_cmpL, ↓e_cmpR, ↓e_chain, ↓e_not, ↓e_and, ↓e_or, ↓e_ife, ↓e_call, ↓cl0, ↓cl1, ↓cl2, ↓cl3, ↓cl4, ↓cl5, ↓rc0_ok, ↓rc0_exc, ↓rc0_if, ↓rc1_ok, ↓e_blt, ↓e_bltB, ↓e_isi, ↓e_ix, ↓e_ixB, ↓rb_partF, ↓rb_partT, ↓rb_part, ↓e_slc, ↓e_slcB, ↓rb_itM, ↓e_lc, ↓rb_lcU, ↓t_skip, ↓t_seq, ↓t_asg, ↓ts_d, ↓ts_o, ↓asgO_eq, ↓ag0, ↓agS, ↓ag_n, ↓ag_d, ↓ag_o, ↓tgO_eq, ↓tg0, ↓tgS, ↓tg_n, ↓tg_d, ↓tg_o, ↓tg_m, ↓ag_m, ↓t_ife, ↓t_for, ↓for_nil, ↓t_ret, ↓t_expr, ↓t_raise, ↓t_setI, ↓il0, ↓sd0, ↓sd1, ↓t_app, ↓bo0, ↓bo1, ↓cb0, ↓cb1, ↓cb2, ↓cb3, ↓dc0, ↓dc1, ↓dc2, ↓dc3, ↓v_ixL0, ↓v_ixL1, ↓v_lt, ↓v_le, ↓v_gt, ↓v_ge, ↓v_eqI, ↓v_neI, ↓v_eqS, ↓v_neS, ↓v_isN, ↓v_notN, ↓v_inT, ↓v_notInT, ↓v_add, ↓v_sub, ↓v_mul, ↓v_fdiv, ↓v_mod, ↓v_pow, ↓v_addT, ↓v_addL, ↓v_neg, ↓v_lenL, ↓v_lenT, ↓v_abs, ↓v_tupL, ↓v_tupT, ↓v_all, ↓v_allE1, ↓v_allE2, ↓v_allE3, ↓v_allE4, ↓v_allE5, ↓v_allE6, ↓v_any, ↓v_sum, ↓v_ix0, ↓v_ix1, ↓v_ix2, ↓v_ix3, ↓v_ix4, ↓v_it, ↓v_itL, ↓v_slT, ↓v_slL, arg_d, arg_l, arg_b, isiB, isiD, Option.getD_some, Bool.not_true, Bool.not_false, reduceCtorEq, List.map_cons, List.map_nil, List.set_cons_zero, List.set_cons_succ])
theorem shapeE (k : Nat) (far c n : Int) (h0 : 0 ≤ far) (h1 : far ≤ 9) : ∃ d c' n', run Γ (k + 4) 16 [.o (.lst [.int c, .int n]), .d (.int far)] = .ok d [.lst [.int c', .int n']] ∧ isShapeD d = true := M_shape k far c n h0 h1
theorem opacityE (k : Nat) (c n : Int) : ∃ d c' n', run Γ (k + 3) 17 [.o (.lst [.int c, .int n])] = .ok d [.lst [.int c', .int n']] ∧ isOpacityD d = true := M_opacity k c n
theorem matrixE (k : Nat) (c n : Int) : ∃ d c' n', run Γ (k + 3) 18 [.o (.lst [.int c, .int n])] = .ok d [.lst [.int c', .int n']] ∧ isMatrixD d = true := M_matrix k c n
theorem layD_if (g : D → D → List D → Bool) (t : Str) (a b : D) (r : List D) : layD g (.tuple (.str t :: a :: b :: r)) = if t == "fill" then fillOk a b r else if t == "rub" then rubOk a b r else if t == "group" then g a b r else false := rfl
theorem lay_fill (n : Nat) {a b c : D} (h1 : isShapeD a = true) (h2 : isColourD b = true) (h3 : isOpacityD c = true) : isLayerD n (.tuple [.str "fill", a, b, c]) = true := by
  have h : fillOk a b [c] = true := by show (isShapeD a && (isColourD b && isOpacityD c)) = true; rw [h1, h2, h3]; rfl
  cases n <;> (unfold isLayerD; rw [layD_if, if_pos (by decide +kernel)]; exact h)
theorem lay_rub (n : Nat) {a b : D} (h1 : isShapeD a = true) (h3 : isOpacityD b = true) : isLayerD n (.tuple [.str "rub", a, b]) = true := by
  have h : rubOk a b [] = true := by show (isShapeD a && isOpacityD b) = true; rw [h1, h3]; rfl
  cases n <;> (unfold isLayerD; rw [layD_if, if_neg (by decide +kernel), if_pos (by decide +kernel)]; exact h)
theorem lay_group (n : Nat) {a b c d : D} (h1 : areD (isLayerD n) a = true) (h2 : isOpacityD b = true) (h3 : (isNoneD c || isShapeD c) = true) (h4 : isMatrixD d = true) : isLayerD (n + 1) (.tuple [.str "group", a, b, c, d]) = true := by
  unfold isLayerD
  rw [layD_if, if_neg (by decide +kernel), if_neg (by decide +kernel), if_pos (by decide +kernel)]
  show (areD (isLayerD n) a && (isOpacityD b && (isMatrixD d && (isNoneD c || isShapeD c)))) = true
  rw [h1, h2, h3, h4]; rfl
theorem isCol_mk {a b c : Int} (h1 : 0 ≤ a) (h2 : a ≤ 9) (h3 : 0 ≤ b) (h4 : b ≤ 9) (h5 : 0 ≤ c) (h6 : c ≤ 9) : isColourD (.tuple [.int a, .int b, .int c]) = true := by
  simp [isColourD, isWholeD, h1, h2, h3, h4, h5, h6]
theorem M_layer_step (n k : Nat) (far : Int) (h0 : 0 ≤ far) (h1 : far ≤ 9) (hg : ∀ m, n = m + 1 → ∀ c q : Int, ∃ d c' n', run Γ (k + 4) 19 [.o (.lst [.int c, .int q]), .d (.int far), .d (.int ((n : Int) - 1))] = .ok d [.lst [.int c', .int n']] ∧ isLayerD m d = true) (c q : Int) :
    ∃ d c' n', run Γ (k + 5) 19 [.o (dice c q), .d (.int far), .d (.int (n : Int))] = .ok d [dice c' n'] ∧ isLayerD n d = true := by
  rw [r__law_layer]
  suffices h : ∃ d c' n', endRC [.o (dice c q), .d (.int far), .d (.int (n : Int))] (R.bind (evS (run Γ (k + 4)) d__law_layer.body [some (.ob false (.lst [.int c, .int q])), some (.d (.int far)), some (.d (.int (n : Int))), none, none, none, none, none]) fun a s => .ok a s) = .ok d [dice c' n'] ∧ isLayerD n d = true by
    obtain ⟨t, c', n', e, r⟩ := h
    exact ⟨t, c', n', run_of rfl rfl e, r⟩
  unfold d__law_layer
  walk_at "pl"
  obtain ⟨t, c1, n1, e, t0, t1⟩ := rollE (k + 2) 6 c q (by decide) (by decide)
  rw [e]
  walk_at "pl"
  by_cases g0 : t = 0
  · rw [show (t == 0) = true from beq_iff_eq.mpr g0]
    walk_at "pl"
    obtain ⟨sh, c2, n2, e2, q2⟩ := shapeE k far c1 n1 h0 h1
    rw [e2]
    walk_at "pl"
    obtain ⟨op, c3, n3, e3, q3⟩ := opacityE (k + 1) c2 n2
    rw [e3]
    walk_at "pl"
    exact ⟨_, _, _, rfl, lay_rub n q2 q3⟩
  · rw [show (t == 0) = false from beq_eq_false_iff_ne.mpr g0]
    walk_at "pl"
    by_cases g1 : t = 1 ∧ 0 < n
    · obtain ⟨g1, g2⟩ := g1
      obtain ⟨m, rfl⟩ : ∃ m, n = m + 1 := ⟨n - 1, by omega⟩
      rw [show (t == 1) = true from beq_iff_eq.mpr g1]
      walk_at "pl"
      rw [decide_eq_true (show (0 : Int) < ((m + 1 : Nat) : Int) by omega)]
      walk_at "pl"
      obtain ⟨t2, c2, n2, e2, u0, u1⟩ := rollE (k + 2) 3 c1 n1 (by decide) (by decide)
      rw [e2]
      walk_at "pl"
      rw [v_range1 (by omega)]
      generalize hxs : ((List.range t2.toNat).map fun (i : Nat) => PyData.int (i : Int)) = xs
      have hl : xs.length = t2.toNat := by rw [← hxs]; simp
      obtain ⟨zs, s', e1, ⟨c3, n3, rfl⟩, z1, z2⟩ := lcR_inv (I := fun s => ∃ c n : Int, s = [some (.ob false (.lst [.int c, .int n])), some (.d (.int far)), some (.d (.int ((m + 1 : Nat) : Int))), some (.d (.int t)), none, none, none, none]) (p := fun d => isLayerD m d = true) (fz := [1]) (vs := [5]) (tg := .nm 5) (ys := xs) (c := bindM (ev (run Γ (k + 4)) (.cst (.bool true))) asC) (e := ev (run Γ (k + 4)) (.call 19 (.cons (.bor 0) (.cons (.var 1) (.cons (.opB .sub ⟨2, none⟩ (.cst (.int 1))) .nil))))) (s := [some (.ob false (.lst [.int c2, .int n2])), some (.d (.int far)), some (.d (.int ((m + 1 : Nat) : Int))), some (.d (.int t)), none, none, none, none]) (fun y hy s ⟨c, n, e⟩ => by
        subst e
        obtain ⟨d, c1, n1, e1, q⟩ := hg m rfl c n
        refine ⟨d, [some (.ob false (.lst [.int c1, .int n1])), some (.d (.int far)), some (.d (.int ((m + 1 : Nat) : Int))), some (.d (.int t)), none, some (.d y), none, none], ?_, q, c1, n1, rfl⟩
        rw [← rb_self (lcU _ _ _ _ _)]
        show R.bind (lcU _ _ _ y [some (.ob false (.lst [.int c, .int n])), some (.d (.int far)), some (.d (.int ((m + 1 : Nat) : Int))), some (.d (.int t)), none, none, none, none]) _ = _
        walk_at "pl"
        rw [e1]
        walk_at "pl") ⟨c2, n2, rfl⟩
      rw [e1]
      walk_at "pl"
      have hz : areD (isLayerD m) (.tuple zs) = true := by
        show (decide (zs.length ≤ 4) && zs.all (isLayerD m)) = true
        rw [decide_eq_true (by omega), List.all_eq_true.mpr z2]; rfl
      obtain ⟨t3, c4, n4, e4, v0, v1⟩ := rollE (k + 2) 2 c3 n3 (by decide) (by decide)
      rw [e4]
      walk_at "pl"
      by_cases g3 : t3 = 0
      · rw [show (t3 == 0) = true from beq_iff_eq.mpr g3]
        walk_at "pl"
        obtain ⟨sh, c5, n5, e5, q5⟩ := shapeE k far c4 n4 h0 h1
        rw [e5]
        walk_at "pl"
        obtain ⟨op, c6, n6, e6, q6⟩ := opacityE (k + 1) c5 n5
        rw [e6]
        walk_at "pl"
        obtain ⟨ma, c7, n7, e7, q7⟩ := matrixE (k + 1) c6 n6
        rw [e7]
        walk_at "pl"
        exact ⟨_, _, _, rfl, lay_group m hz q6 (by rw [q5, Bool.or_true]) q7⟩
      · rw [show (t3 == 0) = false from beq_eq_false_iff_ne.mpr g3]
        walk_at "pl"
        obtain ⟨op, c6, n6, e6, q6⟩ := opacityE (k + 1) c4 n4
        rw [e6]
        walk_at "pl"
        obtain ⟨ma, c7, n7, e7, q7⟩ := matrixE (k + 1) c6 n6
        rw [e7]
        walk_at "pl"
        exact ⟨_, _, _, rfl, lay_group m hz q6 rfl q7⟩
    · have hsk : ∀ (x y : M (List RV)) (s : S) (kl : List RV → M Fl), R.bind (bcase (t == 1) (ev (run Γ (k + 4)) (.cmpL .gt ⟨2, none⟩ (.cst (.int 0)))) (pureM [.d (.bool false)]) [some (.ob false (.lst [.int c1, .int n1])), some (.d (.int far)), some (.d (.int (n : Int))), some (.d (.int t)), none, none, none, none]) kl = kl [.d (.bool false)] [some (.ob false (.lst [.int c1, .int n1])), some (.d (.int far)), some (.d (.int (n : Int))), some (.d (.int t)), none, none, none, none] := fun _ _ _ kl => by
        by_cases g : t = 1
        · have hn : n = 0 := by
            by_cases h : 0 < n
            · exact absurd ⟨g, h⟩ g1
            · omega
          subst hn
          rw [show (t == 1) = true from beq_iff_eq.mpr g]
          walk_at "pl"
          rfl
        · rw [show (t == 1) = false from beq_eq_false_iff_ne.mpr g]
          walk_at "pl"
      rw [hsk (pureM []) (pureM []) []]
      walk_at "pl"
      obtain ⟨r1, c2, n2, e2, u0, u1⟩ := rollE (k + 2) 3 c1 n1 (by decide) (by decide)
      rw [e2]
      walk_at "pl"
      obtain ⟨r2, c3, n3, e3, v0, v1⟩ := rollE (k + 2) 2 c2 n2 (by decide) (by decide)
      rw [e3]
      walk_at "pl"
      obtain ⟨r3, c4, n4, e4, w0, w1⟩ := rollE (k + 2) 2 c3 n3 (by decide) (by decide)
      rw [e4]
      walk_at "pl"
      rw [v_mul (okMulR (by decide) (by decide))]
      walk_at "pl"
      obtain ⟨sh, c5, n5, e5, q5⟩ := shapeE k far c4 n4 h0 h1
      rw [e5]
      walk_at "pl"
      obtain ⟨op, c6, n6, e6, q6⟩ := opacityE (k + 1) c5 n5
      rw [e6]
      walk_at "pl"
      exact ⟨_, _, _, rfl, lay_fill n q5 (isCol_mk (by omega) (by omega) (by omega) (by omega) (by omega) (by omega)) q6⟩
theorem M_layer : ∀ (n k : Nat) (far : Int), 0 ≤ far → far ≤ 9 → ∀ c q : Int, ∃ d c' n', run Γ (k + n + 5) 19 [.o (dice c q), .d (.int far), .d (.int (n : Int))] = .ok d [dice c' n'] ∧ isLayerD n d = true
  | 0, k, far, h0, h1, c, q => M_layer_step 0 k far h0 h1 (fun _ e => by cases e) c q
  | n + 1, k, far, h0, h1, c, q => M_layer_step (n + 1) (k + n + 1) far h0 h1 (fun m e c q => by
      cases e
      rw [show (((n + 1 : Nat) : Int) - 1) = (n : Int) by omega]
      exact M_layer n k far h0 h1 c q) c q
end Tb
set_option maxHeartbeats 4000000
namespace Tb
open PySem VL
local macro_rules | `(tactic| walk_at "pl") => `(tactic| try simp only [↓rb_ok, ↓rb_exc, ↓rb_stuck, ↓rb_bindM, ↓rb_pure, ↓rb_stuckM, ↓rb_some, ↓rb_none, ↓rb_one, ↓rb_one1, ↓td_d, ↓td_l, ↓tds0, ↓tdsS, ↓rb_asC, ↓rb_bt, ↓rb_bf, ↓rb_fn, ↓rb_fr, ↓rb_fb, ↓rb_fc, ↓rb_take, ↓rb_peek, ↓tk0, ↓tkS, ↓pk0, ↓pkS, ↓tk_d, ↓tk_o, ↓pk_d, ↓pk_o, ↓e_nil, ↓e_cons, ↓e_var, ↓e_bor, ↓e_cst, ↓e_glb, ↓gd0, ↓gd1, ↓gd2, ↓gd3, ↓gd4, ↓gd5, ↓gd6, ↓gd7, ↓gd8, ↓rb_guard, ↓e_tup, ↓e_lst, ↓e_op, ↓e_neg, ↓e_opB, ↓e_cmp, ↓e_cmpL, ↓e_cmpR, ↓e_chain, ↓e_not, ↓e_and, ↓e_or, ↓e_ife, ↓e_call, ↓cl0, ↓cl1, ↓cl2, ↓cl3, ↓cl4, ↓cl5, ↓rc0_ok, ↓rc0_exc, ↓rc0_if, ↓rc1_ok, ↓e_blt, ↓e_bltB, ↓e_isi, ↓e_ix, ↓e_ixB, ↓rb_partF, ↓rb_partT, ↓rb_part, ↓e_slc, ↓e_slcB, ↓rb_itM, ↓e_lc, ↓rb_lcU, ↓t_skip, ↓t_seq, ↓t_asg, ↓ts_d, ↓ts_o, ↓asgO_eq, ↓ag0, ↓agS, ↓ag_n, ↓ag_d, ↓ag_o, ↓tgO_eq, ↓tg0, ↓tgS, ↓tg_n, ↓tg_d, ↓tg_o, ↓tg_m, ↓ag_m, ↓t_ife, ↓t_for, ↓for_nil, ↓t_ret, ↓t_expr, ↓t_raise, ↓t_setI, ↓il0, ↓sd0, ↓sd1, ↓t_app, ↓bo0, ↓bo1, ↓cb0, ↓cb1, ↓cb2, ↓cb3, ↓dc0, ↓dc1, ↓dc2, ↓dc3, ↓v_ixL0, ↓v_ixL1, ↓v_lt, ↓v_le, ↓v_gt, ↓v_ge, ↓v_eqI, ↓v_neI, ↓v_eqS, ↓v_neS, ↓v_isN, ↓v_notN, ↓v_inT, ↓v_notInT, ↓v_add, ↓v_sub, ↓v_mul, ↓v_fdiv, ↓v_mod, ↓v_pow, ↓v_addT, ↓v_addL, ↓v_neg, ↓v_lenL, ↓v_lenT, ↓v_abs, ↓v_tupL, ↓v_tupT, ↓v_all, ↓v_allE1, ↓v_allE2, ↓v_allE3, ↓v_allE4, ↓v_allE5, ↓v_allE6, ↓v_any, ↓v_sum, ↓v_ix0, ↓v_ix1, ↓v_ix2, ↓v_ix3, ↓v_ix4, ↓v_it, ↓v_itL, ↓v_slT, ↓v_slL, arg_d, arg_l, arg_b, isiB, isiD, Option.getD_some, Bool.not_true, Bool.not_false, reduceCtorEq, List.map_cons, List.map_nil, List.set_cons_zero, List.set_cons_succ])
theorem M_size_step (n j : Nat) (hg : ∀ m x, n = m + 1 → areD (isLayerD m) x = true → run Γ j 21 [.d x] = .ok (.int (sumD (ptsD m) x)) [])
    (d : D) (hd : areD (isLayerD n) d = true) : run Γ (j + 1) 21 [.d d] = .ok (.int (sumD (ptsD n) d)) [] := by
  rw [r__law_size]
  refine run_of (s := [some (.d d), none, none, none, none]) rfl rfl ?_
  unfold d__law_size
  cases d with
  | tuple xs =>
    have hx := List.all_eq_true.mp (and_r hd)
    have hn : xs.length ≤ 4 := of_decide_eq_true (and_l hd)
    walk_at "pl"
    rw [v_it (okLen_small (by omega))]
    generalize hb : evS (run Γ j) (.seq (.asg 3 _) _) = b
    obtain ⟨σ', ⟨o2, o3, hI⟩, e⟩ := for_run (tg := .nm 2) (b := b) (I := fun a σ => ∃ o2 o3 : Option D, σ = [some (.d (.tuple xs)), some (.d (.int a)), o2.map SV.d, o3.map SV.d, none]) (fun a x => a + ptsD n x) xs (fun x hxx a σ ⟨o2, o3, e⟩ => by
      subst e hb
      rw [← rb_self (R.bind _ _)]
      walk_at "pl"
      have lcx : ∀ (a0 a1 a2 a3 : D) (ls : List D) (kl : List RV → M Fl), (∀ l ∈ ls, isLoopD l = true) → R.bind (lcR [] [4] (.nm 4) (bindM (ev (run Γ j) (.cst (.bool true))) asC) (ev (run Γ j) (.bltB .len ⟨4, none⟩)) ls [some (.d a0), some (.d a1), some (.d a2), some (.d a3), none]) kl = kl [.ob (.lst ((ls.map lenD).map PyData.int))] [some (.d a0), some (.d a1), some (.d a2), some (.d a3), none] := by
        intro a0 a1 a2 a3 ls kl hls
        rw [lcR_int lenD (fun y hy => by
          obtain ⟨ps, rfl, _⟩ := loop_cases (hls y hy)
          rw [← rb_self (lcU _ _ _ _ _)]
          refine ⟨_, by
            show R.bind (lcU _ _ _ _ [some (.d a0), some (.d a1), some (.d a2), some (.d a3), none]) _ = _
            walk_at "pl"
            rfl, rfl⟩)]
        rfl
      rcases lay_cases (hx x hxx) with ⟨x1, x2, x3, rfl, h1⟩ | ⟨x1, x2, rfl, h1⟩ | ⟨m, x1, x2, x3, x4, hm, rfl, h1, h2⟩
      · obtain ⟨r, ls, rfl, hl, hls⟩ := shape_cases h1
        walk_at "pl"
        simp only [nfg]
        walk_at "pl"
        simp only [nfg]
        walk_at "pl"
        simp only [nnT, Bool.not_false]
        walk_at "pl"
        rw [v_it (okLen_small (by omega)), lcx _ _ _ _ _ _ hls]
        walk_at "pl"
        exact ⟨_, ⟨some _, some _, by cases n <;> rfl⟩, rfl⟩
      · obtain ⟨r, ls, rfl, hl, hls⟩ := shape_cases h1
        walk_at "pl"
        simp only [nrg]
        walk_at "pl"
        simp only [nrg]
        walk_at "pl"
        simp only [nnT, Bool.not_false]
        walk_at "pl"
        rw [v_it (okLen_small (by omega)), lcx _ _ _ _ _ _ hls]
        walk_at "pl"
        exact ⟨_, ⟨some _, some _, by cases n <;> rfl⟩, rfl⟩
      · subst hm
        walk_at "pl"
        simp only [ygg]
        walk_at "pl"
        simp only [ygg]
        walk_at "pl"
        rw [hg m _ rfl h1]
        walk_at "pl"
        cases h3 : isNoneD x3 with
        | true =>
          obtain rfl := none_of h3
          walk_at "pl"
          exact ⟨_, ⟨some _, some _, by
            show _ = [_, some (SV.d (PyData.int (a + (sumD (ptsD m) x1 + 0)))), _, _, _]
            rw [Int.add_zero]; rfl⟩, rfl⟩
        | false =>
          rw [h3, Bool.false_or] at h2
          obtain ⟨r, ls, rfl, hl, hls⟩ := shape_cases h2
          walk_at "pl"
          rw [v_it (okLen_small (by omega)), lcx _ _ _ _ _ _ hls]
          walk_at "pl"
          exact ⟨_, ⟨some _, some _, by
            show _ = [_, some (SV.d (PyData.int (a + (sumD (ptsD m) x1 + (ls.map lenD).sum)))), _, _, _]
            rw [← Int.add_assoc]; rfl⟩, rfl⟩) 0 [some (.d (.tuple xs)), some (.d (.int 0)), none, none, none] ⟨none, none, rfl⟩
    rw [e, hI]
    walk_at "pl"
    rfl
  | _ => cases hd
theorem M_size : ∀ (n k : Nat) (d : D), areD (isLayerD n) d = true → run Γ (k + n + 1) 21 [.d d] = .ok (.int (sumD (ptsD n) d)) []
  | 0, k, d, h => M_size_step 0 k (fun _ _ e => by cases e) d h
  | n + 1, k, d, h => M_size_step (n + 1) (k + n + 1) (fun m x e hx => by
      obtain rfl : n = m := Nat.succ.inj e
      exact M_size n k x hx) d h
theorem layD_mono {g g' : D → D → List D → Bool} (h : ∀ a b r, g a b r = true → g' a b r = true) {d : D} (e : layD g d = true) : layD g' d = true := by
  unfold layD at e ⊢
  split at e
  · split at e
    · rename_i q; rw [if_pos q]; exact e
    · rename_i q
      rw [if_neg q]
      split at e
      · rename_i q; rw [if_pos q]; exact e
      · rename_i q
        rw [if_neg q]
        split at e
        · rename_i q; rw [if_pos q]; exact h _ _ _ e
        · cases e
  · cases e
theorem areD_mono {f f' : D → Bool} (h : ∀ d, f d = true → f' d = true) {d : D} (e : areD f d = true) : areD f' d = true := by
  cases d with
  | tuple xs =>
    show (decide (xs.length ≤ 4) && xs.all f') = true
    rw [and_l e, List.all_eq_true.mpr fun x hx => h x (List.all_eq_true.mp (and_r e) x hx)]; rfl
  | _ => cases e
theorem lay_up : ∀ (n : Nat) {d : D}, isLayerD n d = true → isLayerD (n + 1) d = true
  | 0, d, e => layD_mono (fun _ _ _ z => by cases z) e
  | n + 1, d, e => layD_mono (fun a b r z => by
      unfold grpOk at z ⊢
      split at z
      · rw [areD_mono (fun d => lay_up n) (and_l z)]
        exact and_r z
      · cases z) e
end Tb
set_option maxHeartbeats 4000000
namespace Tb
open PySem VL
local macro_rules | `(tactic| walk_at "pl") => `(tactic| try simp only [↓rb_ok, ↓rb_exc, ↓rb_stuck, ↓rb_bindM, ↓rb_pure, ↓rb_stuckM, ↓rb_some, ↓rb_none, ↓rb_one, ↓rb_one1, ↓td_d, ↓td_l, ↓tds0, ↓tdsS, ↓rb_asC, ↓rb_bt, ↓rb_bf, ↓rb_fn, ↓rb_fr, ↓rb_fb, ↓rb_fc, ↓rb_take, ↓rb_peek, ↓tk0, ↓tkS, ↓pk0, ↓pkS, ↓tk_d, ↓tk_o, ↓pk_d, ↓pk_o, ↓e_nil, ↓e_cons, ↓e_var, ↓e_bor, ↓e_cst, ↓e_glb, ↓gd0, ↓gd1, ↓gd2, ↓gd3, ↓gd4, ↓gd5, ↓gd6, ↓gd7, ↓gd8, ↓rb_guard, ↓e_tup, ↓e_lst, ↓e_op, ↓e_neg, ↓e_opB, ↓e_cmp, ↓e_cmpL, ↓e_cmpR, ↓e_chain, ↓e_not, ↓e_and, ↓e_or, ↓e_ife, ↓e_call, ↓cl0, ↓cl1, ↓cl2, ↓cl3, ↓cl4, ↓cl5, ↓rc0_ok, ↓rc0_exc, ↓rc0_if, ↓rc1_ok, ↓e_blt, ↓e_bltB, ↓e_isi, ↓e_ix, ↓e_ixB, ↓rb_partF, ↓rb_partT, ↓rb_part, ↓e_slc, ↓e_slcB, ↓rb_itM, ↓e_lc, ↓rb_lcU, ↓t_skip, ↓t_seq, ↓t_asg, ↓ts_d, ↓ts_o, ↓asgO_eq, ↓ag0, ↓agS, ↓ag_n, ↓ag_d, ↓ag_o, ↓tgO_eq, ↓tg0, ↓tgS, ↓tg_n, ↓tg_d, ↓tg_o, ↓tg_m, ↓ag_m, ↓t_ife, ↓t_for, ↓for_nil, ↓t_ret, ↓t_expr, ↓t_raise, ↓t_setI, ↓il0, ↓sd0, ↓sd1, ↓t_app, ↓bo0, ↓bo1, ↓cb0, ↓cb1, ↓cb2, ↓cb3, ↓dc0, ↓dc1, ↓dc2, ↓dc3, ↓v_ixL0, ↓v_ixL1, ↓v_lt, ↓v_le, ↓v_gt, ↓v_ge, ↓v_eqI, ↓v_neI, ↓v_eqS, ↓v_neS, ↓v_isN, ↓v_notN, ↓v_inT, ↓v_notInT, ↓v_add, ↓v_sub, ↓v_mul, ↓v_fdiv, ↓v_mod, ↓v_pow, ↓v_addT, ↓v_addL, ↓v_neg, ↓v_lenL, ↓v_lenT, ↓v_abs, ↓v_tupL, ↓v_tupT, ↓v_all, ↓v_allE1, ↓v_allE2, ↓v_allE3, ↓v_allE4, ↓v_allE5, ↓v_allE6, ↓v_any, ↓v_sum, ↓v_ix0, ↓v_ix1, ↓v_ix2, ↓v_ix3, ↓v_ix4, ↓v_it, ↓v_itL, ↓v_slT, ↓v_slL, arg_d, arg_l, arg_b, isiB, isiD, Option.getD_some, Bool.not_true, Bool.not_false, reduceCtorEq, List.map_cons, List.map_nil, List.set_cons_zero, List.set_cons_succ])
theorem layerE (k : Nat) (far : Int) (h0 : 0 ≤ far) (h1 : far ≤ 9) (c q : Int) : ∃ d c' n', run Γ (k + 6) 19 [.o (.lst [.int c, .int q]), .d (.int far), .d (.int 1)] = .ok d [.lst [.int c', .int n']] ∧ isLayerD 2 d = true := by
  obtain ⟨d, c', n', e, h⟩ := M_layer 1 k far h0 h1 c q
  exact ⟨d, c', n', e, lay_up 1 h⟩
theorem t_whl {cf : CF} {s : S} {β : Type} {kf : Fl → M β} {t : IE} {b : IS} : R.bind (evS cf (.whl t b) s) kf = R.bind (whlM (bindM (ev cf t) asC) (evS cf b) whlFuel s) kf := rfl
theorem cut_last (x : D) (xs : List D) : cutL (x :: xs) none (some (-1)) = (x :: xs).take xs.length := by
  unfold cutL HT.sIx
  simp
  omega
theorem M_trim (k : Nat) (A B C E : Option SV) : ∀ (m : Nat) (zs : List D), zs.length = m → zs.length ≤ 4 → (∀ z ∈ zs, isLayerD 2 z = true) → ∀ f, m < f → ∃ ys, whlM (bindM (ev (run Γ (k + 3)) (.cmp .gt (.call 21 (.cons (.var 3) .nil)) (.cst (.int 45)))) asC) (evS (run Γ (k + 3)) (.seq (.asg 3 (.slcB false true ⟨3, none⟩ .nil (.neg (.cst (.int 1))))) .skip)) f [A, B, C, some (.d (.tuple zs)), E] = .ok .next [A, B, C, some (.d (.tuple ys)), E] ∧ ys.length ≤ 4 ∧ (∀ z ∈ ys, isLayerD 2 z = true) ∧ sumD (ptsD 2) (.tuple ys) ≤ 45
  | m, zs, hm, hl, hz, 0, hf => by omega
  | m, zs, hm, hl, hz, f + 1, hf => by
    have ha : areD (isLayerD 2) (.tuple zs) = true := by
      show (decide (zs.length ≤ 4) && zs.all (isLayerD 2)) = true
      rw [decide_eq_true hl, List.all_eq_true.mpr hz]; rfl
    have hs := M_size 2 k (.tuple zs) ha
    show ∃ ys, R.bind (bindM (ev (run Γ (k + 3)) (.cmp .gt (.call 21 (.cons (.var 3) .nil)) (.cst (.int 45)))) asC [A, B, C, some (.d (.tuple zs)), E]) _ = _ ∧ _
    walk_at "pl"
    rw [hs]
    walk_at "pl"
    by_cases g : 45 < sumD (ptsD 2) (.tuple zs)
    · rw [decide_eq_true g]
      match zs, m, hm, hz, ha, g with
      | [], _, _, _, _, g => exact absurd g (by decide)
      | x :: xs, m, hm, hz, ha, g =>
        obtain ⟨ys, e, y1, y2, y3⟩ := M_trim k A B C E (m - 1) ((x :: xs).take xs.length) (by rw [List.length_take, ← hm]; simp) (by rw [List.length_take]; simp only [List.length_cons] at hl ⊢; omega) (fun z hz' => hz z (List.mem_of_mem_take hz')) f (by simp only [List.length_cons] at hm; omega)
        refine ⟨ys, ?_, y1, y2, y3⟩
        rw [← e]
        show R.bind (evS (run Γ (k + 3)) (.seq (.asg 3 (.slcB false true ⟨3, none⟩ .nil (.neg (.cst (.int 1))))) .skip) [A, B, C, some (.d (.tuple (x :: xs))), E]) _ = _
        walk_at "pl"
        rw [cut_last]
    · rw [decide_eq_false g]
      exact ⟨zs, rfl, hl, hz, by omega⟩
theorem M_drawing (k : Nat) (many far c q : Int) (h0 : 0 ≤ far) (h1 : far ≤ 9) (m0 : 0 ≤ many) (m1 : many ≤ 4) : ∃ d c' n', run Γ (k + 7) 20 [.o (dice c q), .d (.int many), .d (.int far)] = .ok d [dice c' n'] ∧ areD (isLayerD 2) d = true ∧ sumD (ptsD 2) d ≤ 45 := by
  rw [r__law_drawing]
  suffices h : ∃ d c' n', endRC [.o (dice c q), .d (.int many), .d (.int far)] (R.bind (evS (run Γ (k + 6)) d__law_drawing.body [some (.ob false (.lst [.int c, .int q])), some (.d (.int many)), some (.d (.int far)), none, none]) fun a s => .ok a s) = .ok d [dice c' n'] ∧ areD (isLayerD 2) d = true ∧ sumD (ptsD 2) d ≤ 45 by
    obtain ⟨t, c', n', e, r⟩ := h
    exact ⟨t, c', n', run_of rfl rfl e, r⟩
  unfold d__law_drawing
  walk_at "pl"
  obtain ⟨t, c1, n1, e, t0, t1⟩ := rollE (k + 4) (many + 1) c q (by omega) (by omega)
  rw [e]
  walk_at "pl"
  rw [v_range1 (by omega)]
  generalize hxs : ((List.range t.toNat).map fun (i : Nat) => PyData.int (i : Int)) = xs
  have hl : xs.length = t.toNat := by rw [← hxs]; simp
  obtain ⟨zs, s', e1, ⟨c3, n3, rfl⟩, z1, z2⟩ := lcR_inv (I := fun s => ∃ c n : Int, s = [some (.ob false (.lst [.int c, .int n])), some (.d (.int many)), some (.d (.int far)), none, none]) (p := fun d => isLayerD 2 d = true) (fz := [2]) (vs := [4]) (tg := .nm 4) (ys := xs) (c := bindM (ev (run Γ (k + 6)) (.cst (.bool true))) asC) (e := ev (run Γ (k + 6)) (.call 19 (.cons (.bor 0) (.cons (.var 2) (.cons (.cst (.int 1)) .nil))))) (s := [some (.ob false (.lst [.int c1, .int n1])), some (.d (.int many)), some (.d (.int far)), none, none]) (fun y hy s ⟨c, n, e⟩ => by
    subst e
    obtain ⟨d, c1, n1, e1, q⟩ := layerE k far h0 h1 c n
    refine ⟨d, [some (.ob false (.lst [.int c1, .int n1])), some (.d (.int many)), some (.d (.int far)), none, some (.d y)], ?_, q, c1, n1, rfl⟩
    rw [← rb_self (lcU _ _ _ _ _)]
    show R.bind (lcU _ _ _ y [some (.ob false (.lst [.int c, .int n])), some (.d (.int many)), some (.d (.int far)), none, none]) _ = _
    walk_at "pl"
    rw [e1]
    walk_at "pl") ⟨c1, n1, rfl⟩
  rw [e1]
  walk_at "pl"
  have hz4 : zs.length ≤ 4 := by omega
  obtain ⟨ys, e2, y1, y2, y3⟩ := M_trim (k + 3) (some (.ob false (.lst [.int c3, .int n3]))) (some (.d (.int many))) (some (.d (.int far))) none zs.length zs rfl hz4 z2 whlFuel (Nat.lt_of_le_of_lt hz4 (by decide))
  rw [t_whl, e2]
  walk_at "pl"
  refine ⟨.tuple ys, c3, n3, rfl, ?_, y3⟩
  show (decide (ys.length ≤ 4) && ys.all (isLayerD 2)) = true
  rw [decide_eq_true y1, List.all_eq_true.mpr y2]; rfl
end Tb
set_option maxHeartbeats 4000000
namespace Tb
open PySem VL
local macro_rules | `(tactic| walk_at "pl") => `(tactic| try simp only [↓rb_ok, ↓rb_exc, ↓rb_stuck, ↓rb_bindM, ↓rb_pure, ↓rb_stuckM, ↓rb_some, ↓rb_none, ↓rb_one, ↓rb_one1, ↓td_d, ↓td_l, ↓tds0, ↓tdsS, ↓rb_asC, ↓rb_bt, ↓rb_bf, ↓rb_fn, ↓rb_fr, ↓rb_fb, ↓rb_fc, ↓rb_take, ↓rb_peek, ↓tk0, ↓tkS, ↓pk0, ↓pkS, ↓tk_d, ↓tk_o, ↓pk_d, ↓pk_o, ↓e_nil, ↓e_cons, ↓e_var, ↓e_bor, ↓e_cst, ↓e_glb, ↓gd0, ↓gd1, ↓gd2, ↓gd3, ↓gd4, ↓gd5, ↓gd6, ↓gd7, ↓gd8, ↓rb_guard, ↓e_tup, ↓e_lst, ↓e_op, ↓e_neg, ↓e_opB, ↓e_cmp, ↓e_cmpL, ↓e_cmpR, ↓e_chain, ↓e_not, ↓e_and, ↓e_or, ↓e_ife, ↓e_call, ↓cl0, ↓cl1, ↓cl2, ↓cl3, ↓cl4, ↓cl5, ↓rc0_ok, ↓rc0_exc, ↓rc0_if, ↓rc1_ok, ↓e_blt, ↓e_bltB, ↓e_isi, ↓e_ix, ↓e_ixB, ↓rb_partF, ↓rb_partT, ↓rb_part, ↓e_slc, ↓e_slcB, ↓rb_itM, ↓e_lc, ↓rb_lcU, ↓t_skip, ↓t_seq, ↓t_asg, ↓ts_d, ↓ts_o, ↓asgO_eq, ↓ag0, ↓agS, ↓ag_n, ↓ag_d, ↓ag_o, ↓tgO_eq, ↓tg0, ↓tgS, ↓tg_n, ↓tg_d, ↓tg_o, ↓tg_m, ↓ag_m, ↓t_ife, ↓t_for, ↓for_nil, ↓t_ret, ↓t_expr, ↓t_raise, ↓t_setI, ↓il0, ↓sd0, ↓sd1, ↓t_app, ↓bo0, ↓bo1, ↓cb0, ↓cb1, ↓cb2, ↓cb3, ↓dc0, ↓dc1, ↓dc2, ↓dc3, ↓v_ixL0, ↓v_ixL1, ↓v_lt, ↓v_le, ↓v_gt, ↓v_ge, ↓v_eqI, ↓v_neI, ↓v_eqS, ↓v_neS, ↓v_isN, ↓v_notN, ↓v_inT, ↓v_notInT, ↓v_add, ↓v_sub, ↓v_mul, ↓v_fdiv, ↓v_mod, ↓v_pow, ↓v_addT, ↓v_addL, ↓v_neg, ↓v_lenL, ↓v_lenT, ↓v_abs, ↓v_tupL, ↓v_tupT, ↓v_all, ↓v_allE1, ↓v_allE2, ↓v_allE3, ↓v_allE4, ↓v_allE5, ↓v_allE6, ↓v_any, ↓v_sum, ↓v_ix0, ↓v_ix1, ↓v_ix2, ↓v_ix3, ↓v_ix4, ↓v_it, ↓v_itL, ↓v_slT, ↓v_slL, arg_d, arg_l, arg_b, isiB, isiD, Option.getD_some, Bool.not_true, Bool.not_false, reduceCtorEq, List.map_cons, List.map_nil, List.set_cons_zero, List.set_cons_succ])
def badL (sh : D) : List D := [.none,
  (.int 5),
  (.tuple []),
  (.tuple [(.str "fill"), sh, (.tuple [(.int 1), (.int 2), (.int 3)])]),
  (.tuple [(.str "fill"), sh, (.tuple [(.int 1), (.int 2)]), (.tuple [(.int 1), (.int 1)])]),
  (.tuple [(.str "fill"), sh, (.tuple [(.int 1), (.int 2), (.int 10)]), (.tuple [(.int 1), (.int 1)])]),
  (.tuple [(.str "fill"), sh, (.tuple [(.int 1), (.int 2), (.int 3)]), (.tuple [(.int 0), (.int 1)])]),
  (.tuple [(.str "fill"), sh, (.tuple [(.int 1), (.int 2), (.int 3)]), (.tuple [(.int 2), (.int 1)])]),
  (.tuple [(.str "fill"), sh, (.tuple [(.int 1), (.int 2), (.int 3)]), (.tuple [(.int 1), (.int 7)])]),
  (.tuple [(.str "rub"), sh]),
  (.tuple [(.str "rub"), sh, (.tuple [(.int 1), (.int 1)]), (.int 0)]),
  (.tuple [(.str "rub"), .none, (.tuple [(.int 1), (.int 1)])]),
  (.list [(.str "rub"), sh, (.tuple [(.int 1), (.int 1)])]),
  (.tuple [(.str "fill"), sh, (.tuple [(.bool true), (.int 2), (.int 3)]), (.tuple [(.int 1), (.int 1)])]),
  (.tuple [(.str "group"), (.tuple []), (.tuple [(.int 1), (.int 1)]), .none]),
  (.tuple [(.str "lay"), sh, (.tuple [(.int 1), (.int 1)])]),
  (.tuple [(.str "group"), (.tuple []), (.tuple [(.int 1), (.int 1)]), .none, (.tuple [(.int 1), (.int 0), (.int 0), (.int 0), (.int 0), (.int 0)])]),
  (.tuple [(.str "group"), (.tuple []), (.tuple [(.int 1), (.int 1)]), .none, (.tuple [(.int 1), (.int 1), (.int 1), (.int 1), (.int 0), (.int 0)])]),
  (.tuple [(.str "group"), (.tuple []), (.tuple [(.int 1), (.int 1)]), .none, (.tuple [(.int 3), (.int 0), (.int 0), (.int 1), (.int 0), (.int 0)])]),
  (.tuple [(.str "group"), (.tuple []), (.tuple [(.int 1), (.int 1)]), .none, (.tuple [(.int 1), (.int 0), (.int 0), (.int 1), (.int 10), (.int 0)])]),
  (.tuple [(.str "group"), (.tuple []), (.tuple [(.int 1), (.int 1)]), .none, (.tuple [(.int 1), (.int 0), (.int 0), (.int 1), (.int 0)])]),
  (.tuple [(.str "group"), (.tuple []), (.tuple [(.int 1), (.int 1)]), .none, .none]),
  (.tuple [(.str "group"), (.tuple [(.tuple [(.str "group"), (.tuple [(.tuple [(.str "group"), (.tuple []), (.tuple [(.int 1), (.int 1)]), .none, (.tuple [(.int 1), (.int 0), (.int 0), (.int 1), (.int 0), (.int 0)])])]), (.tuple [(.int 1), (.int 1)]), .none, (.tuple [(.int 1), (.int 0), (.int 0), (.int 1), (.int 0), (.int 0)])])]), (.tuple [(.int 1), (.int 1)]), .none, (.tuple [(.int 1), (.int 0), (.int 0), (.int 1), (.int 0), (.int 0)])]),
  (.tuple [(.str "group"), (.tuple [(.tuple [(.str "rub"), sh, (.tuple [(.int 1), (.int 1)])]), (.tuple [(.str "rub"), sh, (.tuple [(.int 1), (.int 1)])]), (.tuple [(.str "rub"), sh, (.tuple [(.int 1), (.int 1)])]), (.tuple [(.str "rub"), sh, (.tuple [(.int 1), (.int 1)])]), (.tuple [(.str "rub"), sh, (.tuple [(.int 1), (.int 1)])])]), (.tuple [(.int 1), (.int 1)]), .none, (.tuple [(.int 1), (.int 0), (.int 0), (.int 1), (.int 0), (.int 0)])])]
theorem M_bad (k : Nat) (sh : D) : run Γ (k + 1) 22 [.d sh] = .ok (.list (badL sh)) [] := by kernel_rfl
theorem fill_no {a b c : D} (h : (isColourD b && isOpacityD c) = false) : isLayerD 2 (.tuple [.str "fill", a, b, c]) = false := by
  unfold isLayerD
  rw [layD_if, if_pos (by decide +kernel)]
  show (isShapeD a && (isColourD b && isOpacityD c)) = false
  rw [h, Bool.and_false]
theorem bad_no (sh : D) : ∀ x ∈ badL sh, isLayerD 2 x = false := by
  have key : (badL sh).all (fun x => !isLayerD 2 x) = true := by
    unfold badL
    simp only [List.all_cons, List.all_nil, Bool.and_true, Bool.and_eq_true, Bool.not_eq_true']
    refine ⟨?_, ?_, ?_, ?_, ?_, ?_, ?_, ?_, ?_, ?_, ?_, ?_, ?_, ?_, ?_, ?_, ?_, ?_, ?_, ?_, ?_, ?_, ?_, ?_⟩
    all_goals first | exact fill_no (by decide) | kernel_rfl
  intro x hx
  have := List.all_eq_true.mp key x hx
  simpa using this
theorem bad_drawing {x : D} (h : isLayerD 2 x = false) : isDrawingD (.tuple [x]) = false := by
  show ((decide (1 ≤ 4) && (isLayerD 2 x && true)) && _) = false
  rw [h]; rfl
theorem bad_layer {x : D} (h : isLayerD 2 x = false) : isLayD x = false := by
  unfold isLayD
  rw [h]; rfl
end Tb
set_option maxHeartbeats 4000000
namespace Tb
open PySem VL
local macro_rules | `(tactic| walk_at "pl") => `(tactic| try simp only [↓rb_ok, ↓rb_exc, ↓rb_stuck, ↓rb_bindM, ↓rb_pure, ↓rb_stuckM, ↓rb_some, ↓rb_none, ↓rb_one, ↓rb_one1, ↓td_d, ↓td_l, ↓tds0, ↓tdsS, ↓rb_asC, ↓rb_bt, ↓rb_bf, ↓rb_fn, ↓rb_fr, ↓rb_fb, ↓rb_fc, ↓rb_take, ↓rb_peek, ↓tk0, ↓tkS, ↓pk0, ↓pkS, ↓tk_d, ↓tk_o, ↓pk_d, ↓pk_o, ↓e_nil, ↓e_cons, ↓e_var, ↓e_bor, ↓e_cst, ↓e_glb, ↓gd0, ↓gd1, ↓gd2, ↓gd3, ↓gd4, ↓gd5, ↓gd6, ↓gd7, ↓gd8, ↓rb_guard, ↓e_tup, ↓e_lst, ↓e_op, ↓e_neg, ↓e_opB, ↓e_cmp, ↓e_cmpL, ↓e_cmpR, ↓e_chain, ↓e_not, ↓e_and, ↓e_or, ↓e_ife, ↓e_call, ↓cl0, ↓cl1, ↓cl2, ↓cl3, ↓cl4, ↓cl5, ↓rc0_ok, ↓rc0_exc, ↓rc0_if, ↓rc1_ok, ↓e_blt, ↓e_bltB, ↓e_isi, ↓e_ix, ↓e_ixB, ↓rb_partF, ↓rb_partT, ↓rb_part, ↓e_slc, ↓e_slcB, ↓rb_itM, ↓e_lc, ↓rb_lcU, ↓t_skip, ↓t_seq, ↓t_asg, ↓ts_d, ↓ts_o, ↓asgO_eq, ↓ag0, ↓agS, ↓ag_n, ↓ag_d, ↓ag_o, ↓tgO_eq, ↓tg0, ↓tgS, ↓tg_n, ↓tg_d, ↓tg_o, ↓tg_m, ↓ag_m, ↓t_ife, ↓t_for, ↓for_nil, ↓t_ret, ↓t_expr, ↓t_raise, ↓t_setI, ↓il0, ↓sd0, ↓sd1, ↓t_app, ↓bo0, ↓bo1, ↓cb0, ↓cb1, ↓cb2, ↓cb3, ↓dc0, ↓dc1, ↓dc2, ↓dc3, ↓v_ixL0, ↓v_ixL1, ↓v_lt, ↓v_le, ↓v_gt, ↓v_ge, ↓v_eqI, ↓v_neI, ↓v_eqS, ↓v_neS, ↓v_isN, ↓v_notN, ↓v_inT, ↓v_notInT, ↓v_add, ↓v_sub, ↓v_mul, ↓v_fdiv, ↓v_mod, ↓v_pow, ↓v_addT, ↓v_addL, ↓v_neg, ↓v_lenL, ↓v_lenT, ↓v_abs, ↓v_tupL, ↓v_tupT, ↓v_all, ↓v_allE1, ↓v_allE2, ↓v_allE3, ↓v_allE4, ↓v_allE5, ↓v_allE6, ↓v_any, ↓v_sum, ↓v_ix0, ↓v_ix1, ↓v_ix2, ↓v_ix3, ↓v_ix4, ↓v_it, ↓v_itL, ↓v_slT, ↓v_slL, arg_d, arg_l, arg_b, isiB, isiD, Option.getD_some, Bool.not_true, Bool.not_false, reduceCtorEq, List.map_cons, List.map_nil, List.set_cons_zero, List.set_cons_succ])
section
variable {β : Type} {cf : CF} {s : S} {kl : List RV → M β}
theorem e_told {ks : List Str} {a : IE} : R.bind (ev cf (.told ks a) s) kl = R.bind (toldEnd ks (R.bind (one1 (ev cf a) s) fun d s => .ok d s)) kl := by rw [rb_self]; rfl
theorem te_exc {ks : List Str} {c : Str} (h : c ∈ ks) : R.bind (toldEnd ks (.exc c s)) kl = kl [.d (.tuple [.str "error", .str c])] s := by
  unfold toldEnd
  dsimp only
  rw [if_pos h]; rfl
end
theorem M_count_no (k : Nat) (d : D) (h : isDrawingD d = false) : run Γ (k + 12) 12 [.d d] = .exc "InvalidDrawing" [] := by
  rw [r_count_points]
  refine run_of (s := [some (.d d)]) rfl rfl ?_
  unfold d_count_points
  walk_at "pl"
  rw [M_need_drawing_no k d h]
  walk_at "pl"
  rfl
theorem bad_loop (sh : D) (v0 v1 v2 v3 v6 v7 v8 v9 : Option SV) : ∃ o : Option D, forM (.nm 5) (evS (run Γ 20) (.seq (.ife (.or (.call 10 (.cons (.var 5) .nil)) (.call 9 (.cons (.tup (.cons (.var 5) .nil)) .nil))) (.seq (.ret (.cst (.bool false))) .skip) .skip) (.seq (.ife (.cmp .ne (.told ["InvalidDrawing"] (.call 12 (.cons (.tup (.cons (.var 5) .nil)) .nil))) (.tup (.cons (.cst (.str "error")) (.cons (.cst (.str "InvalidDrawing")) .nil)))) (.seq (.ret (.cst (.bool false))) .skip) .skip) .skip))) (badL sh) [v0, v1, v2, v3, some (.d sh), none, v6, v7, v8, v9] = .ok .next [v0, v1, v2, v3, some (.d sh), o.map SV.d, v6, v7, v8, v9] := by
  obtain ⟨s', ⟨o, rfl⟩, e⟩ := for_inv (tg := .nm 5) (b := evS (run Γ 20) (.seq (.ife (.or (.call 10 (.cons (.var 5) .nil)) (.call 9 (.cons (.tup (.cons (.var 5) .nil)) .nil))) (.seq (.ret (.cst (.bool false))) .skip) .skip) (.seq (.ife (.cmp .ne (.told ["InvalidDrawing"] (.call 12 (.cons (.tup (.cons (.var 5) .nil)) .nil))) (.tup (.cons (.cst (.str "error")) (.cons (.cst (.str "InvalidDrawing")) .nil)))) (.seq (.ret (.cst (.bool false))) .skip) .skip) .skip))) (I := fun _ s => ∃ o : Option D, s = [v0, v1, v2, v3, some (.d sh), o.map SV.d, v6, v7, v8, v9]) (badL sh) 0 [v0, v1, v2, v3, some (.d sh), none, v6, v7, v8, v9] (fun m x s hm ⟨o, e⟩ => by
    subst e
    have hx := bad_no sh x (List.mem_of_getElem? hm)
    have h1 : run Γ 20 10 [.d x] = .ok (.bool false) [] := by rw [show run Γ 20 10 [.d x] = .ok (.bool (isLayD x)) [] from M_is_layer 11 x, bad_layer hx]
    have h2 : run Γ 20 9 [.d (.tuple [x])] = .ok (.bool false) [] := by rw [show run Γ 20 9 [.d (.tuple [x])] = .ok (.bool (isDrawingD (.tuple [x]))) [] from M_is_drawing 10 _, bad_drawing hx]
    have h3 : run Γ 20 12 [.d (.tuple [x])] = .exc "InvalidDrawing" [] := M_count_no 8 _ (bad_drawing hx)
    refine ⟨[v0, v1, v2, v3, some (.d sh), some (.d x), v6, v7, v8, v9], ⟨some x, rfl⟩, ?_⟩
    rw [← rb_self (R.bind _ _)]
    walk_at "pl"
    rw [h1]
    walk_at "pl"
    rw [h2]
    walk_at "pl"
    rw [e_told]
    walk_at "pl"
    rw [h3]
    walk_at "pl"
    rw [te_exc (by simp)]
    walk_at "pl"
    rw [show cop .ne (.tuple [.str "error", .str "InvalidDrawing"]) (.tuple [.str "error", .str "InvalidDrawing"]) = some false from by kernel_rfl]
    walk_at "pl") ⟨none, rfl⟩
  exact ⟨o, e⟩
end Tb
set_option maxHeartbeats 4000000
namespace Tb
open PySem VL
local macro_rules | `(tactic| walk_at "pl") => `(tactic| try simp only [↓rb_ok, ↓rb_exc, ↓rb_stuck, ↓rb_bindM, ↓rb_pure, ↓rb_stuckM, ↓rb_some, ↓rb_none, ↓rb_one, ↓rb_one1, ↓td_d, ↓td_l, ↓tds0, ↓tdsS, ↓rb_asC, ↓rb_bt, ↓rb_bf, ↓rb_fn, ↓rb_fr, ↓rb_fb, ↓rb_fc, ↓rb_take, ↓rb_peek, ↓tk0, ↓tkS, ↓pk0, ↓pkS, ↓tk_d, ↓tk_o, ↓pk_d, ↓pk_o, ↓e_nil, ↓e_cons, ↓e_var, ↓e_bor, ↓e_cst, ↓e_glb, ↓gd0, ↓gd1, ↓gd2, ↓gd3, ↓gd4, ↓gd5, ↓gd6, ↓gd7, ↓gd8, ↓rb_guard, ↓e_tup, ↓e_lst, ↓e_op, ↓e_neg, ↓e_opB, ↓e_cmp, ↓e_cmpL, ↓e_cmpR, ↓e_chain, ↓e_not, ↓e_and, ↓e_or, ↓e_ife, ↓e_call, ↓cl0, ↓cl1, ↓cl2, ↓cl3, ↓cl4, ↓cl5, ↓rc0_ok, ↓rc0_exc, ↓rc0_if, ↓rc1_ok, ↓e_blt, ↓e_bltB, ↓e_isi, ↓e_ix, ↓e_ixB, ↓rb_partF, ↓rb_partT, ↓rb_part, ↓e_slc, ↓e_slcB, ↓rb_itM, ↓e_lc, ↓rb_lcU, ↓t_skip, ↓t_seq, ↓t_asg, ↓ts_d, ↓ts_o, ↓asgO_eq, ↓ag0, ↓agS, ↓ag_n, ↓ag_d, ↓ag_o, ↓tgO_eq, ↓tg0, ↓tgS, ↓tg_n, ↓tg_d, ↓tg_o, ↓tg_m, ↓ag_m, ↓t_ife, ↓t_for, ↓for_nil, ↓t_ret, ↓t_expr, ↓t_raise, ↓t_setI, ↓il0, ↓sd0, ↓sd1, ↓t_app, ↓bo0, ↓bo1, ↓cb0, ↓cb1, ↓cb2, ↓cb3, ↓dc0, ↓dc1, ↓dc2, ↓dc3, ↓v_ixL0, ↓v_ixL1, ↓v_lt, ↓v_le, ↓v_gt, ↓v_ge, ↓v_eqI, ↓v_neI, ↓v_eqS, ↓v_neS, ↓v_isN, ↓v_notN, ↓v_inT, ↓v_notInT, ↓v_add, ↓v_sub, ↓v_mul, ↓v_fdiv, ↓v_mod, ↓v_pow, ↓v_addT, ↓v_addL, ↓v_neg, ↓v_lenL, ↓v_lenT, ↓v_abs, ↓v_tupL, ↓v_tupT, ↓v_all, ↓v_allE1, ↓v_allE2, ↓v_allE3, ↓v_allE4, ↓v_allE5, ↓v_allE6, ↓v_any, ↓v_sum, ↓v_ix0, ↓v_ix1, ↓v_ix2, ↓v_ix3, ↓v_ix4, ↓v_it, ↓v_itL, ↓v_slT, ↓v_slL, arg_d, arg_l, arg_b, isiB, isiD, Option.getD_some, Bool.not_true, Bool.not_false, reduceCtorEq, List.map_cons, List.map_nil, List.set_cons_zero, List.set_cons_succ])
def loopD : D := (.tuple [(.tuple [(.int 0), (.int 0)]), (.tuple [(.int 9), (.int (-9))]), (.tuple [(.int (-9)), (.int 9)]), (.tuple [(.int 0), (.int 1)]), (.tuple [(.int 1), (.int 0)]), (.tuple [(.int 2), (.int 2)]), (.tuple [(.int 3), (.int 3)]), (.tuple [(.int 4), (.int 4)])])
def wideD : D := (.tuple [(.str "rub"), (.tuple [(.str "turns"), (.tuple [(.tuple [(.tuple [(.int 0), (.int 0)]), (.tuple [(.int 9), (.int (-9))]), (.tuple [(.int (-9)), (.int 9)]), (.tuple [(.int 0), (.int 1)]), (.tuple [(.int 1), (.int 0)]), (.tuple [(.int 2), (.int 2)]), (.tuple [(.int 3), (.int 3)]), (.tuple [(.int 4), (.int 4)])]), (.tuple [(.tuple [(.int 0), (.int 0)]), (.tuple [(.int 9), (.int (-9))]), (.tuple [(.int (-9)), (.int 9)]), (.tuple [(.int 0), (.int 1)]), (.tuple [(.int 1), (.int 0)]), (.tuple [(.int 2), (.int 2)]), (.tuple [(.int 3), (.int 3)]), (.tuple [(.int 4), (.int 4)])]), (.tuple [(.tuple [(.int 0), (.int 0)]), (.tuple [(.int 9), (.int (-9))]), (.tuple [(.int (-9)), (.int 9)]), (.tuple [(.int 0), (.int 1)]), (.tuple [(.int 1), (.int 0)]), (.tuple [(.int 2), (.int 2)]), (.tuple [(.int 3), (.int 3)]), (.tuple [(.int 4), (.int 4)])])])]), (.tuple [(.int 6), (.int 6)])])
def smallD : D := (.tuple [(.str "rub"), (.tuple [(.str "odd"), (.tuple [(.tuple [(.tuple [(.int 0), (.int 0)]), (.tuple [(.int 9), (.int (-9))]), (.tuple [(.int (-9)), (.int 9)])])])]), (.tuple [(.int 1), (.int 6)])])
def cases1 : List D := [(.tuple [(.str "odd"), (.tuple [(.tuple [(.tuple [(.int 0), (.int 0)]), (.tuple [(.int 9), (.int (-9))]), (.tuple [(.int (-9)), (.int 9)]), (.tuple [(.int 0), (.int 1)]), (.tuple [(.int 1), (.int 0)]), (.tuple [(.int 2), (.int 2)]), (.tuple [(.int 3), (.int 3)]), (.tuple [(.int 4), (.int 4)]), (.tuple [(.int 0), (.int 0)])])])]), (.tuple [(.str "odd"), (.tuple [(.tuple [(.tuple [(.int 0), (.int 0)]), (.tuple [(.int 9), (.int (-9))]), (.tuple [(.int (-9)), (.int 9)]), (.tuple [(.int 0), (.int 1)]), (.tuple [(.int 1), (.int 0)]), (.tuple [(.int 2), (.int 2)]), (.tuple [(.int 3), (.int 3)]), (.tuple [(.int 4), (.int 4)])]), (.tuple [(.tuple [(.int 0), (.int 0)]), (.tuple [(.int 9), (.int (-9))]), (.tuple [(.int (-9)), (.int 9)]), (.tuple [(.int 0), (.int 1)]), (.tuple [(.int 1), (.int 0)]), (.tuple [(.int 2), (.int 2)]), (.tuple [(.int 3), (.int 3)]), (.tuple [(.int 4), (.int 4)])]), (.tuple [(.tuple [(.int 0), (.int 0)]), (.tuple [(.int 9), (.int (-9))]), (.tuple [(.int (-9)), (.int 9)]), (.tuple [(.int 0), (.int 1)]), (.tuple [(.int 1), (.int 0)]), (.tuple [(.int 2), (.int 2)]), (.tuple [(.int 3), (.int 3)]), (.tuple [(.int 4), (.int 4)])]), (.tuple [(.tuple [(.int 0), (.int 0)]), (.tuple [(.int 9), (.int (-9))]), (.tuple [(.int (-9)), (.int 9)]), (.tuple [(.int 0), (.int 1)]), (.tuple [(.int 1), (.int 0)]), (.tuple [(.int 2), (.int 2)]), (.tuple [(.int 3), (.int 3)]), (.tuple [(.int 4), (.int 4)])])])]), (.tuple [(.str "odd"), (.tuple [(.tuple [(.tuple [(.int 0), (.int 0)]), (.tuple [(.int 9), (.int (-9))])])])])]
def cases2 : List D := [(.tuple [(.str "odd"), (.tuple [(.tuple [(.tuple [(.int 0), (.int 0)]), (.tuple [(.int 9), (.int (-9))]), (.tuple [(.int (-9)), (.int 9)]), (.tuple [(.int 0), (.int 1)]), (.tuple [(.int 1), (.int 0)]), (.tuple [(.int 2), (.int 2)]), (.tuple [(.int 3), (.int 3)]), (.tuple [(.int 4), (.int 4)]), (.tuple [(.int 0), (.int 0)])])])]), (.tuple [(.str "odd"), (.tuple [(.tuple [(.tuple [(.int 0), (.int 0)]), (.tuple [(.int 9), (.int (-9))]), (.tuple [(.int (-9)), (.int 9)]), (.tuple [(.int 0), (.int 1)]), (.tuple [(.int 1), (.int 0)]), (.tuple [(.int 2), (.int 2)]), (.tuple [(.int 3), (.int 3)]), (.tuple [(.int 4), (.int 4)])]), (.tuple [(.tuple [(.int 0), (.int 0)]), (.tuple [(.int 9), (.int (-9))]), (.tuple [(.int (-9)), (.int 9)]), (.tuple [(.int 0), (.int 1)]), (.tuple [(.int 1), (.int 0)]), (.tuple [(.int 2), (.int 2)]), (.tuple [(.int 3), (.int 3)]), (.tuple [(.int 4), (.int 4)])]), (.tuple [(.tuple [(.int 0), (.int 0)]), (.tuple [(.int 9), (.int (-9))]), (.tuple [(.int (-9)), (.int 9)]), (.tuple [(.int 0), (.int 1)]), (.tuple [(.int 1), (.int 0)]), (.tuple [(.int 2), (.int 2)]), (.tuple [(.int 3), (.int 3)]), (.tuple [(.int 4), (.int 4)])]), (.tuple [(.tuple [(.int 0), (.int 0)]), (.tuple [(.int 9), (.int (-9))]), (.tuple [(.int (-9)), (.int 9)]), (.tuple [(.int 0), (.int 1)]), (.tuple [(.int 1), (.int 0)]), (.tuple [(.int 2), (.int 2)]), (.tuple [(.int 3), (.int 3)]), (.tuple [(.int 4), (.int 4)])])])]), (.tuple [(.str "odd"), (.tuple [(.tuple [(.tuple [(.int 0), (.int 0)]), (.tuple [(.int 9), (.int (-9))])])])]), (.tuple [(.str "odd"), (.tuple [(.tuple [(.int 0), (.int 0)]), (.tuple [(.int 9), (.int (-9))]), (.tuple [(.int (-9)), (.int 9)]), (.tuple [(.int 0), (.int 1)]), (.tuple [(.int 1), (.int 0)]), (.tuple [(.int 2), (.int 2)]), (.tuple [(.int 3), (.int 3)]), (.tuple [(.int 4), (.int 4)])])]), .none, (.tuple [(.str "odd")])]
def stmtAt (n : Nat) : IS := match dropS n lawBody with
  | .seq a _ => a
  | s => s
theorem k_5 (v0 v1 v2 v3 : Option SV) (sh : D) (o : Option D) : evS (run Γ 20) (stmtAt 5) [v0, v1, v2, v3, some (.d sh), o.map SV.d, none, none, none, none] = .ok .next [v0, v1, v2, v3, some (.d sh), o.map SV.d, some (.d loopD), none, none, none] := by
  kernel_rfl
theorem k_6 (v0 v1 v2 v3 : Option SV) (sh : D) (o : Option D) : evS (run Γ 20) (stmtAt 6) [v0, v1, v2, v3, some (.d sh), o.map SV.d, some (.d loopD), none, none, none] = .ok .next [v0, v1, v2, v3, some (.d sh), o.map SV.d, some (.d loopD), some (.d wideD), none, none] := by
  kernel_rfl
theorem k_7 (v0 v1 v2 v3 : Option SV) (sh : D) (o : Option D) : evS (run Γ 20) (stmtAt 7) [v0, v1, v2, v3, some (.d sh), o.map SV.d, some (.d loopD), some (.d wideD), none, none] = .ok .next [v0, v1, v2, v3, some (.d sh), o.map SV.d, some (.d loopD), some (.d wideD), none, none] := by
  kernel_rfl
theorem k_8 (v0 v1 v2 v3 : Option SV) (sh : D) (o : Option D) : evS (run Γ 20) (stmtAt 8) [v0, v1, v2, v3, some (.d sh), o.map SV.d, some (.d loopD), some (.d wideD), none, none] = .ok .next [v0, v1, v2, v3, some (.d sh), o.map SV.d, some (.d loopD), some (.d wideD), some (.d smallD), none] := by
  kernel_rfl
theorem k_9 (v0 v1 v2 v3 : Option SV) (sh : D) (o : Option D) : evS (run Γ 20) (stmtAt 9) [v0, v1, v2, v3, some (.d sh), o.map SV.d, some (.d loopD), some (.d wideD), some (.d smallD), none] = .ok .next [v0, v1, v2, v3, some (.d sh), o.map SV.d, some (.d loopD), some (.d wideD), some (.d smallD), none] := by
  kernel_rfl
theorem k_10 (v0 v1 v2 v3 : Option SV) (sh : D) (o : Option D) : evS (run Γ 20) (stmtAt 10) [v0, v1, v2, v3, some (.d sh), o.map SV.d, some (.d loopD), some (.d wideD), some (.d smallD), none] = .ok .next [v0, v1, v2, v3, some (.d sh), o.map SV.d, some (.d loopD), some (.d wideD), some (.d smallD), some (.ob true (.lst cases1))] := by
  kernel_rfl
theorem k_11 (v0 v1 v2 v3 : Option SV) (sh : D) (o : Option D) : evS (run Γ 20) (stmtAt 11) [v0, v1, v2, v3, some (.d sh), o.map SV.d, some (.d loopD), some (.d wideD), some (.d smallD), some (.ob true (.lst cases1))] = .ok .next [v0, v1, v2, v3, some (.d sh), o.map SV.d, some (.d loopD), some (.d wideD), some (.d smallD), some (.ob true (.lst cases2))] := by
  kernel_rfl
theorem k_12 (v0 v1 v2 v3 : Option SV) (sh : D) (o : Option D) : evS (run Γ 20) (stmtAt 12) [v0, v1, v2, v3, some (.d sh), o.map SV.d, some (.d loopD), some (.d wideD), some (.d smallD), some (.ob true (.lst cases2))] = .ok .next [v0, v1, v2, v3, some (.d sh), some (.d (.tuple [(.str "odd")])), some (.d loopD), some (.d wideD), some (.d smallD), some (.d (.list cases2))] := by
  cases o <;> kernel_rfl
end Tb
set_option maxHeartbeats 4000000
namespace Tb
open PySem VL
local macro_rules | `(tactic| walk_at "pl") => `(tactic| try simp only [↓rb_ok, ↓rb_exc, ↓rb_stuck, ↓rb_bindM, ↓rb_pure, ↓rb_stuckM, ↓rb_some, ↓rb_none, ↓rb_one, ↓rb_one1, ↓td_d, ↓td_l, ↓tds0, ↓tdsS, ↓rb_asC, ↓rb_bt, ↓rb_bf, ↓rb_fn, ↓rb_fr, ↓rb_fb, ↓rb_fc, ↓rb_take, ↓rb_peek, ↓tk0, ↓tkS, ↓pk0, ↓pkS, ↓tk_d, ↓tk_o, ↓pk_d, ↓pk_o, ↓e_nil, ↓e_cons, ↓e_var, ↓e_bor, ↓e_cst, ↓e_glb, ↓gd0, ↓gd1, ↓gd2, ↓gd3, ↓gd4, ↓gd5, ↓gd6, ↓gd7, ↓gd8, ↓rb_guard, ↓e_tup, ↓e_lst, ↓e_op, ↓e_neg, ↓e_opB, ↓e_cmp, ↓e_cmpL, ↓e_cmpR, ↓e_chain, ↓e_not, ↓e_and, ↓e_or, ↓e_ife, ↓e_call, ↓cl0, ↓cl1, ↓cl2, ↓cl3, ↓cl4, ↓cl5, ↓rc0_ok, ↓rc0_exc, ↓rc0_if, ↓rc1_ok, ↓e_blt, ↓e_bltB, ↓e_isi, ↓e_ix, ↓e_ixB, ↓rb_partF, ↓rb_partT, ↓rb_part, ↓e_slc, ↓e_slcB, ↓rb_itM, ↓e_lc, ↓rb_lcU, ↓t_skip, ↓t_seq, ↓t_asg, ↓ts_d, ↓ts_o, ↓asgO_eq, ↓ag0, ↓agS, ↓ag_n, ↓ag_d, ↓ag_o, ↓tgO_eq, ↓tg0, ↓tgS, ↓tg_n, ↓tg_d, ↓tg_o, ↓tg_m, ↓ag_m, ↓t_ife, ↓t_for, ↓for_nil, ↓t_ret, ↓t_expr, ↓t_raise, ↓t_setI, ↓il0, ↓sd0, ↓sd1, ↓t_app, ↓bo0, ↓bo1, ↓cb0, ↓cb1, ↓cb2, ↓cb3, ↓dc0, ↓dc1, ↓dc2, ↓dc3, ↓v_ixL0, ↓v_ixL1, ↓v_lt, ↓v_le, ↓v_gt, ↓v_ge, ↓v_eqI, ↓v_neI, ↓v_eqS, ↓v_neS, ↓v_isN, ↓v_notN, ↓v_inT, ↓v_notInT, ↓v_add, ↓v_sub, ↓v_mul, ↓v_fdiv, ↓v_mod, ↓v_pow, ↓v_addT, ↓v_addL, ↓v_neg, ↓v_lenL, ↓v_lenT, ↓v_abs, ↓v_tupL, ↓v_tupT, ↓v_all, ↓v_allE1, ↓v_allE2, ↓v_allE3, ↓v_allE4, ↓v_allE5, ↓v_allE6, ↓v_any, ↓v_sum, ↓v_ix0, ↓v_ix1, ↓v_ix2, ↓v_ix3, ↓v_ix4, ↓v_it, ↓v_itL, ↓v_slT, ↓v_slL, arg_d, arg_l, arg_b, isiB, isiD, Option.getD_some, Bool.not_true, Bool.not_false, reduceCtorEq, List.map_cons, List.map_nil, List.set_cons_zero, List.set_cons_succ])
theorem lenD_nn (d : D) : 0 ≤ lenD d := by cases d <;> first | exact Int.le_refl _ | exact Int.natCast_nonneg _
theorem sum_nn : ∀ ls : List D, 0 ≤ (ls.map lenD).sum
  | [] => Int.le_refl _
  | l :: ls => by
    have := lenD_nn l
    have := sum_nn ls
    simp only [List.map_cons, List.sum_cons]; omega
theorem shN_nn (d : D) : 0 ≤ shN d := by
  unfold shN
  split
  · exact sum_nn _
  · exact Int.le_refl _
theorem fold_nn {f : D → Int} (h : ∀ d, 0 ≤ f d) : ∀ (xs : List D) (a : Int), a ≤ xs.foldl (fun a x => a + f x) a
  | [], a => Int.le_refl _
  | x :: xs, a => by
    have := h x
    exact Int.le_trans (by omega) (fold_nn h xs (a + f x))
theorem sumD_nn {f : D → Int} (h : ∀ d, 0 ≤ f d) (d : D) : 0 ≤ sumD f d := by
  unfold sumD
  split
  · exact fold_nn h _ 0
  · exact Int.le_refl _
theorem ptsG_nn {f : D → Int} (h : ∀ d, 0 ≤ f d) (d : D) : 0 ≤ ptsG f d := by
  unfold ptsG
  split
  · have := sumD_nn h ‹D›; exact Int.add_nonneg (sumD_nn h _) (shN_nn _)
  · exact shN_nn _
  · exact Int.le_refl _
theorem ptsD_nn : ∀ (n : Nat) (d : D), 0 ≤ ptsD n d
  | 0, d => ptsG_nn (fun _ => Int.le_refl _) d
  | n + 1, d => ptsG_nn (ptsD_nn n) d
theorem fold_le {f : D → Int} (h : ∀ d, 0 ≤ f d) : ∀ (xs : List D) (a : Int) (x : D), x ∈ xs → 0 ≤ a → f x ≤ xs.foldl (fun a x => a + f x) a
  | y :: ys, a, x, hx, ha => by
    rcases List.mem_cons.mp hx with rfl | hx
    · exact Int.le_trans (by omega) (fold_nn h ys (a + f x))
    · exact fold_le h ys (a + f y) x hx (by have := h y; omega)
theorem each_layer {xs : List D} (h1 : areD (isLayerD 2) (.tuple xs) = true) (h2 : sumD (ptsD 2) (.tuple xs) ≤ 45) {x : D} (hx : x ∈ xs) : isLayD x = true := by
  unfold isLayD
  rw [List.all_eq_true.mp (and_r h1) x hx, Bool.true_and, decide_eq_true_eq]
  have := fold_le (ptsD_nn 2) xs 0 x hx (Int.le_refl _)
  have h2 : xs.foldl (fun a x => a + ptsD 2 x) 0 ≤ 45 := h2
  show 0 + ptsD 2 x ≤ 60
  omega
theorem j_0 (c n : Int) : ∃ (xs : List D) (c' n' : Int), evS (run Γ 20) (stmtAt 0) [none, some (.ob false (.lst [.int c, .int n])), none, none, none, none, none, none, none, none] = .ok .next [none, some (.ob false (.lst [.int c', .int n'])), some (.d (.tuple xs)), none, none, none, none, none, none, none] ∧ areD (isLayerD 2) (.tuple xs) = true ∧ sumD (ptsD 2) (.tuple xs) ≤ 45 := by
  obtain ⟨d, c', n', e, h1, h2⟩ := M_drawing 13 4 9 c n (by decide) (by decide) (by decide) (by decide)
  have e : run Γ 20 20 [.o (.lst [.int c, .int n]), .d (.int 4), .d (.int 9)] = .ok d [.lst [.int c', .int n']] := e
  cases d with
  | tuple xs =>
    refine ⟨xs, c', n', ?_, h1, h2⟩
    rw [← rb_self (evS _ _ _)]
    show R.bind (evS (run Γ 20) (.asg 2 (.call 20 (.cons (.bor 1) (.cons (.cst (.int 4)) (.cons (.cst (.int 9)) .nil))))) _) _ = _
    walk_at "pl"
    rw [e]
    walk_at "pl"
  | _ => cases h1
theorem j_1 (c n : Int) (xs : List D) (h1 : areD (isLayerD 2) (.tuple xs) = true) (h2 : sumD (ptsD 2) (.tuple xs) ≤ 45) : evS (run Γ 20) (stmtAt 1) [none, some (.ob false (.lst [.int c, .int n])), some (.d (.tuple xs)), none, none, none, none, none, none, none] = .ok .next [none, some (.ob false (.lst [.int c, .int n])), some (.d (.tuple xs)), none, none, none, none, none, none, none] := by
  have hd : isDrawingD (.tuple xs) = true := by
    unfold isDrawingD
    rw [h1, decide_eq_true (by omega)]; rfl
  have e1 : run Γ 20 9 [.d (.tuple xs)] = .ok (.bool true) [] := by rw [show run Γ 20 9 [.d (.tuple xs)] = .ok (.bool (isDrawingD (.tuple xs))) [] from M_is_drawing 10 _, hd]
  have e2 : run Γ 20 12 [.d (.tuple xs)] = .ok (.int (sumD (ptsD 2) (.tuple xs))) [] := M_count_points 8 _ hd
  have e3 : run Γ 20 21 [.d (.tuple xs)] = .ok (.int (sumD (ptsD 2) (.tuple xs))) [] := M_size 2 17 _ h1
  rw [← rb_self (evS _ _ _)]
  show R.bind (evS (run Γ 20) (.ife (.or (.not (.call 9 (.cons (.var 2) .nil))) (.cmp .ne (.call 12 (.cons (.var 2) .nil)) (.call 21 (.cons (.var 2) .nil)))) (.seq (.ret (.cst (.bool false))) .skip) .skip) _) _ = _
  walk_at "pl"
  rw [e1]
  walk_at "pl"
  rw [e2]
  walk_at "pl"
  rw [e3]
  walk_at "pl"
  rw [show (sumD (ptsD 2) (.tuple xs) == sumD (ptsD 2) (.tuple xs)) = true from beq_self_eq_true _]
  walk_at "pl"
theorem j_2 (c n : Int) (xs : List D) (h1 : areD (isLayerD 2) (.tuple xs) = true) (h2 : sumD (ptsD 2) (.tuple xs) ≤ 45) : evS (run Γ 20) (stmtAt 2) [none, some (.ob false (.lst [.int c, .int n])), some (.d (.tuple xs)), none, none, none, none, none, none, none] = .ok .next [none, some (.ob false (.lst [.int c, .int n])), some (.d (.tuple xs)), none, none, none, none, none, none, none] := by
  have hl : xs.length ≤ 4 := of_decide_eq_true (and_l h1)
  rw [← rb_self (evS _ _ _)]
  show R.bind (evS (run Γ 20) (.ife (.not (.blt .all (.cons (.lc [3] [3] (.nm 3) .seq (.cons (.var 2) .nil) (.cst (.bool true)) (.call 10 (.cons (.var 3) .nil))) .nil))) (.seq (.ret (.cst (.bool false))) .skip) .skip) _) _ = _
  walk_at "pl"
  rw [v_it (okLen_small (by omega))]
  rw [lcR_bool (fun _ => true) (fun y hy => by
    have e : run Γ 20 10 [.d y] = .ok (.bool true) [] := by rw [show run Γ 20 10 [.d y] = .ok (.bool (isLayD y)) [] from M_is_layer 11 y, each_layer h1 h2 hy]
    refine ⟨[none, some (.ob false (.lst [.int c, .int n])), some (.d (.tuple xs)), some (.d y), none, none, none, none, none, none], ?_, rfl⟩
    rw [← rb_self (lcU _ _ _ _ _)]
    show R.bind (lcU _ _ _ y [none, some (.ob false (.lst [.int c, .int n])), some (.d (.tuple xs)), none, none, none, none, none, none, none]) _ = _
    walk_at "pl"
    rw [e]
    walk_at "pl")]
  walk_at "pl"
  rw [all_id, show (xs.all fun _ => true) = true from List.all_eq_true.mpr fun _ _ => rfl]
  walk_at "pl"
  rfl
theorem j_3 (c n : Int) (v2 : Option SV) : ∃ (sh : D) (c' n' : Int), evS (run Γ 20) (stmtAt 3) [none, some (.ob false (.lst [.int c, .int n])), v2, none, none, none, none, none, none, none] = .ok .next [none, some (.ob false (.lst [.int c', .int n'])), v2, none, some (.d sh), none, none, none, none, none] ∧ isShapeD sh = true := by
  obtain ⟨d, c', n', e, h1⟩ := M_shape 16 9 c n (by decide) (by decide)
  have e : run Γ 20 16 [.o (.lst [.int c, .int n]), .d (.int 9)] = .ok d [.lst [.int c', .int n']] := e
  refine ⟨d, c', n', ?_, h1⟩
  rw [← rb_self (evS _ _ _)]
  show R.bind (evS (run Γ 20) (.asg 4 (.call 16 (.cons (.bor 1) (.cons (.cst (.int 9)) .nil)))) _) _ = _
  walk_at "pl"
  rw [e]
  walk_at "pl"
theorem j_4 (c n : Int) (v2 : Option SV) (sh : D) : ∃ o : Option D, evS (run Γ 20) (stmtAt 4) [none, some (.ob false (.lst [.int c, .int n])), v2, none, some (.d sh), none, none, none, none, none] = .ok .next [none, some (.ob false (.lst [.int c, .int n])), v2, none, some (.d sh), o.map SV.d, none, none, none, none] := by
  obtain ⟨o, e⟩ := bad_loop sh none (some (.ob false (.lst [.int c, .int n]))) v2 none none none none none
  refine ⟨o, ?_⟩
  rw [← rb_self (evS _ _ _)]
  show R.bind (evS (run Γ 20) (.forS (.nm 5) .seq (.cons (.call 22 (.cons (.var 4) .nil)) .nil) (.seq (.ife (.or (.call 10 (.cons (.var 5) .nil)) (.call 9 (.cons (.tup (.cons (.var 5) .nil)) .nil))) (.seq (.ret (.cst (.bool false))) .skip) .skip) (.seq (.ife (.cmp .ne (.told ["InvalidDrawing"] (.call 12 (.cons (.tup (.cons (.var 5) .nil)) .nil))) (.tup (.cons (.cst (.str "error")) (.cons (.cst (.str "InvalidDrawing")) .nil)))) (.seq (.ret (.cst (.bool false))) .skip) .skip) .skip))) _) _ = _
  walk_at "pl"
  rw [show run Γ 20 22 [.d sh] = .ok (.list (badL sh)) [] from M_bad 19 sh]
  walk_at "pl"
  rw [v_itL (okLen_small (show (badL sh).length ≤ 100 by show _ ≤ _; simp [badL]))]
  rw [e]
  rfl
end Tb
set_option maxHeartbeats 4000000
namespace Tb
open PySem VL
local macro_rules | `(tactic| walk_at "pl") => `(tactic| try simp only [↓rb_ok, ↓rb_exc, ↓rb_stuck, ↓rb_bindM, ↓rb_pure, ↓rb_stuckM, ↓rb_some, ↓rb_none, ↓rb_one, ↓rb_one1, ↓td_d, ↓td_l, ↓tds0, ↓tdsS, ↓rb_asC, ↓rb_bt, ↓rb_bf, ↓rb_fn, ↓rb_fr, ↓rb_fb, ↓rb_fc, ↓rb_take, ↓rb_peek, ↓tk0, ↓tkS, ↓pk0, ↓pkS, ↓tk_d, ↓tk_o, ↓pk_d, ↓pk_o, ↓e_nil, ↓e_cons, ↓e_var, ↓e_bor, ↓e_cst, ↓e_glb, ↓gd0, ↓gd1, ↓gd2, ↓gd3, ↓gd4, ↓gd5, ↓gd6, ↓gd7, ↓gd8, ↓rb_guard, ↓e_tup, ↓e_lst, ↓e_op, ↓e_neg, ↓e_opB, ↓e_cmp, ↓e_cmpL, ↓e_cmpR, ↓e_chain, ↓e_not, ↓e_and, ↓e_or, ↓e_ife, ↓e_call, ↓cl0, ↓cl1, ↓cl2, ↓cl3, ↓cl4, ↓cl5, ↓rc0_ok, ↓rc0_exc, ↓rc0_if, ↓rc1_ok, ↓e_blt, ↓e_bltB, ↓e_isi, ↓e_ix, ↓e_ixB, ↓rb_partF, ↓rb_partT, ↓rb_part, ↓e_slc, ↓e_slcB, ↓rb_itM, ↓e_lc, ↓rb_lcU, ↓t_skip, ↓t_seq, ↓t_asg, ↓ts_d, ↓ts_o, ↓asgO_eq, ↓ag0, ↓agS, ↓ag_n, ↓ag_d, ↓ag_o, ↓tgO_eq, ↓tg0, ↓tgS, ↓tg_n, ↓tg_d, ↓tg_o, ↓tg_m, ↓ag_m, ↓t_ife, ↓t_for, ↓for_nil, ↓t_ret, ↓t_expr, ↓t_raise, ↓t_setI, ↓il0, ↓sd0, ↓sd1, ↓t_app, ↓bo0, ↓bo1, ↓cb0, ↓cb1, ↓cb2, ↓cb3, ↓dc0, ↓dc1, ↓dc2, ↓dc3, ↓v_ixL0, ↓v_ixL1, ↓v_lt, ↓v_le, ↓v_gt, ↓v_ge, ↓v_eqI, ↓v_neI, ↓v_eqS, ↓v_neS, ↓v_isN, ↓v_notN, ↓v_inT, ↓v_notInT, ↓v_add, ↓v_sub, ↓v_mul, ↓v_fdiv, ↓v_mod, ↓v_pow, ↓v_addT, ↓v_addL, ↓v_neg, ↓v_lenL, ↓v_lenT, ↓v_abs, ↓v_tupL, ↓v_tupT, ↓v_all, ↓v_allE1, ↓v_allE2, ↓v_allE3, ↓v_allE4, ↓v_allE5, ↓v_allE6, ↓v_any, ↓v_sum, ↓v_ix0, ↓v_ix1, ↓v_ix2, ↓v_ix3, ↓v_ix4, ↓v_it, ↓v_itL, ↓v_slT, ↓v_slL, arg_d, arg_l, arg_b, isiB, isiD, Option.getD_some, Bool.not_true, Bool.not_false, reduceCtorEq, List.map_cons, List.map_nil, List.set_cons_zero, List.set_cons_succ])
theorem j_13 (v0 v1 v2 v3 v5 v6 v7 v8 v9 : Option SV) (sh : D) (h : isShapeD sh = true) : evS (run Γ 20) (stmtAt 13) [v0, v1, v2, v3, some (.d sh), v5, v6, v7, v8, v9] = .ok .next [v0, v1, v2, v3, some (.d sh), v5, v6, v7, v8, v9] := by
  have e1 : run Γ 20 2 [.d sh] = .ok (.bool true) [] := by rw [show run Γ 20 2 [.d sh] = .ok (.bool (isShapeD sh)) [] from M_is_shape 17 sh, h]
  obtain ⟨r, ls, rfl, hl, hls⟩ := shape_cases h
  have e2 : run Γ 20 2 [.d (.tuple [.str r, .list ls])] = .ok (.bool false) [] := M_is_shape 17 _
  rw [← rb_self (evS _ _ _)]
  show R.bind (evS (run Γ 20) (.ife (.or (.not (.call 2 (.cons (.var 4) .nil))) (.call 2 (.cons (.tup (.cons (.ixB ⟨4, none⟩ (.cst (.int 0))) (.cons (.blt .list (.cons (.ixB ⟨4, none⟩ (.cst (.int 1))) .nil)) .nil))) .nil))) (.seq (.ret (.cst (.bool false))) .skip) .skip) _) _ = _
  walk_at "pl"
  rw [e1]
  walk_at "pl"
  rw [show blt .list [.tuple ls] = some (.ob (.lst ls)) from rfl]
  walk_at "pl"
  rw [e2]
  walk_at "pl"
theorem seq_next {cf : CF} {a b : IS} {s s' : S} (h : evS cf a s = .ok .next s') : evS cf (.seq a b) s = evS cf b s' := by
  show bindM (evS cf a) _ s = _
  unfold bindM
  rw [h]; rfl
theorem hall : ∀ c : Int, ∃ s', evS (run Γ 20) lawBody (roundS N_law.length 1 c) = .ok .next s' ∧ s'.length = N_law.length := fun c => by
  obtain ⟨xs, c1, n1, e0, h1, h2⟩ := j_0 c 0
  obtain ⟨sh, c2, n2, e3, h3⟩ := j_3 c1 n1 (some (.d (.tuple xs)))
  obtain ⟨o, e4⟩ := j_4 c2 n2 (some (.d (.tuple xs))) sh
  have start : roundS N_law.length 1 c = [none, some (.ob false (.lst [.int c, .int 0])), none, none, none, none, none, none, none, none] := rfl
  have all : lawBody = .seq (stmtAt 0) (.seq (stmtAt 1) (.seq (stmtAt 2) (.seq (stmtAt 3) (.seq (stmtAt 4) (.seq (stmtAt 5) (.seq (stmtAt 6) (.seq (stmtAt 7) (.seq (stmtAt 8) (.seq (stmtAt 9) (.seq (stmtAt 10) (.seq (stmtAt 11) (.seq (stmtAt 12) (.seq (stmtAt 13) .skip))))))))))))) := rfl
  rw [start, all, seq_next e0, seq_next (j_1 _ _ xs h1 h2), seq_next (j_2 _ _ xs h1 h2), seq_next e3, seq_next e4, seq_next (k_5 _ _ _ _ _ _), seq_next (k_6 _ _ _ _ _ _), seq_next (k_7 _ _ _ _ _ _), seq_next (k_8 _ _ _ _ _ _), seq_next (k_9 _ _ _ _ _ _), seq_next (k_10 _ _ _ _ _ _), seq_next (k_11 _ _ _ _ _ _), seq_next (k_12 _ _ _ _ _ _), seq_next (j_13 _ _ _ _ _ _ _ _ _ _ h3)]
  exact ⟨_, rfl, rfl⟩
end Tb
set_option maxHeartbeats 4000000
namespace Tb
open PySem PySem.Spec PyProof.Rows L2 VL
theorem in_is_whole [Tabl] {K : PySem.W.Frag} {mg : Str → Option Value} {base : Heap} {f : Addr} {od an : Option Addr} {sl : Array (Option Value)} {oc kV dc pm cd ct : Value} (l : K.lookup f = some ⟨oc, od, .func (PySem.W.fnOf "is_whole" "is_whole" (defArgs s_is_whole) (defBody s_is_whole) (defScope s_is_whole) .none kV dc pm an cd ct), sl⟩) (c : PySem.W.codeIn K cd "is_whole" = true) (k : PySem.W.keepIn K (.ref f) = true) : CodeIn g K mg base d_is_whole f :=
  ⟨N_is_whole, ["value", "low", "high"], false, "is_whole", "is_whole", s_is_whole, _, (fun_mk (st := s_is_whole) l c k).binds (ps := ["value", "low", "high"]) (fun _ _ _ _ _ _ us hl => match us, hl with | [_, _, _], _ => rfl), fun_mk (st := s_is_whole) l c k, sc_is_whole, rfl, rfl, c_is_whole, fun z => Bool.noConfusion z⟩
theorem in_is_loop [Tabl] {K : PySem.W.Frag} {mg : Str → Option Value} {base : Heap} {f : Addr} {od an : Option Addr} {sl : Array (Option Value)} {oc kV dc pm cd ct : Value} (l : K.lookup f = some ⟨oc, od, .func (PySem.W.fnOf "is_loop" "is_loop" (defArgs s_is_loop) (defBody s_is_loop) (defScope s_is_loop) .none kV dc pm an cd ct), sl⟩) (c : PySem.W.codeIn K cd "is_loop" = true) (k : PySem.W.keepIn K (.ref f) = true) : CodeIn g K mg base d_is_loop f :=
  ⟨N_is_loop, ["value"], false, "is_loop", "is_loop", s_is_loop, _, (fun_mk (st := s_is_loop) l c k).binds (ps := ["value"]) (fun _ _ _ _ _ _ us hl => match us, hl with | [_], _ => rfl), fun_mk (st := s_is_loop) l c k, sc_is_loop, rfl, rfl, c_is_loop, fun z => Bool.noConfusion z⟩
theorem in_is_shape [Tabl] {K : PySem.W.Frag} {mg : Str → Option Value} {base : Heap} {f : Addr} {od an : Option Addr} {sl : Array (Option Value)} {oc kV dc pm cd ct : Value} (l : K.lookup f = some ⟨oc, od, .func (PySem.W.fnOf "is_shape" "is_shape" (defArgs s_is_shape) (defBody s_is_shape) (defScope s_is_shape) .none kV dc pm an cd ct), sl⟩) (c : PySem.W.codeIn K cd "is_shape" = true) (k : PySem.W.keepIn K (.ref f) = true) : CodeIn g K mg base d_is_shape f :=
  ⟨N_is_shape, ["value"], false, "is_shape", "is_shape", s_is_shape, _, (fun_mk (st := s_is_shape) l c k).binds (ps := ["value"]) (fun _ _ _ _ _ _ us hl => match us, hl with | [_], _ => rfl), fun_mk (st := s_is_shape) l c k, sc_is_shape, rfl, rfl, c_is_shape, fun z => Bool.noConfusion z⟩
theorem in_is_colour [Tabl] {K : PySem.W.Frag} {mg : Str → Option Value} {base : Heap} {f : Addr} {od an : Option Addr} {sl : Array (Option Value)} {oc kV dc pm cd ct : Value} (l : K.lookup f = some ⟨oc, od, .func (PySem.W.fnOf "is_colour" "is_colour" (defArgs s_is_colour) (defBody s_is_colour) (defScope s_is_colour) .none kV dc pm an cd ct), sl⟩) (c : PySem.W.codeIn K cd "is_colour" = true) (k : PySem.W.keepIn K (.ref f) = true) : CodeIn g K mg base d_is_colour f :=
  ⟨N_is_colour, ["value"], false, "is_colour", "is_colour", s_is_colour, _, (fun_mk (st := s_is_colour) l c k).binds (ps := ["value"]) (fun _ _ _ _ _ _ us hl => match us, hl with | [_], _ => rfl), fun_mk (st := s_is_colour) l c k, sc_is_colour, rfl, rfl, c_is_colour, fun z => Bool.noConfusion z⟩
theorem in_is_opacity [Tabl] {K : PySem.W.Frag} {mg : Str → Option Value} {base : Heap} {f : Addr} {od an : Option Addr} {sl : Array (Option Value)} {oc kV dc pm cd ct : Value} (l : K.lookup f = some ⟨oc, od, .func (PySem.W.fnOf "is_opacity" "is_opacity" (defArgs s_is_opacity) (defBody s_is_opacity) (defScope s_is_opacity) .none kV dc pm an cd ct), sl⟩) (c : PySem.W.codeIn K cd "is_opacity" = true) (k : PySem.W.keepIn K (.ref f) = true) : CodeIn g K mg base d_is_opacity f :=
  ⟨N_is_opacity, ["value"], false, "is_opacity", "is_opacity", s_is_opacity, _, (fun_mk (st := s_is_opacity) l c k).binds (ps := ["value"]) (fun _ _ _ _ _ _ us hl => match us, hl with | [_], _ => rfl), fun_mk (st := s_is_opacity) l c k, sc_is_opacity, rfl, rfl, c_is_opacity, fun z => Bool.noConfusion z⟩
theorem in_is_matrix [Tabl] {K : PySem.W.Frag} {mg : Str → Option Value} {base : Heap} {f : Addr} {od an : Option Addr} {sl : Array (Option Value)} {oc kV dc pm cd ct : Value} (l : K.lookup f = some ⟨oc, od, .func (PySem.W.fnOf "is_matrix" "is_matrix" (defArgs s_is_matrix) (defBody s_is_matrix) (defScope s_is_matrix) .none kV dc pm an cd ct), sl⟩) (c : PySem.W.codeIn K cd "is_matrix" = true) (k : PySem.W.keepIn K (.ref f) = true) : CodeIn g K mg base d_is_matrix f :=
  ⟨N_is_matrix, ["value"], false, "is_matrix", "is_matrix", s_is_matrix, _, (fun_mk (st := s_is_matrix) l c k).binds (ps := ["value"]) (fun _ _ _ _ _ _ us hl => match us, hl with | [_], _ => rfl), fun_mk (st := s_is_matrix) l c k, sc_is_matrix, rfl, rfl, c_is_matrix, fun z => Bool.noConfusion z⟩
theorem in_is_layer_within [Tabl] {K : PySem.W.Frag} {mg : Str → Option Value} {base : Heap} {f : Addr} {od an : Option Addr} {sl : Array (Option Value)} {oc kV dc pm cd ct : Value} (l : K.lookup f = some ⟨oc, od, .func (PySem.W.fnOf "is_layer_within" "is_layer_within" (defArgs s_is_layer_within) (defBody s_is_layer_within) (defScope s_is_layer_within) .none kV dc pm an cd ct), sl⟩) (c : PySem.W.codeIn K cd "is_layer_within" = true) (k : PySem.W.keepIn K (.ref f) = true) : CodeIn g K mg base d_is_layer_within f :=
  ⟨N_is_layer_within, ["value", "deep"], false, "is_layer_within", "is_layer_within", s_is_layer_within, _, (fun_mk (st := s_is_layer_within) l c k).binds (ps := ["value", "deep"]) (fun _ _ _ _ _ _ us hl => match us, hl with | [_, _], _ => rfl), fun_mk (st := s_is_layer_within) l c k, sc_is_layer_within, rfl, rfl, c_is_layer_within, fun z => Bool.noConfusion z⟩
theorem in_are_layers [Tabl] {K : PySem.W.Frag} {mg : Str → Option Value} {base : Heap} {f : Addr} {od an : Option Addr} {sl : Array (Option Value)} {oc kV dc pm cd ct : Value} (l : K.lookup f = some ⟨oc, od, .func (PySem.W.fnOf "are_layers" "are_layers" (defArgs s_are_layers) (defBody s_are_layers) (defScope s_are_layers) .none kV dc pm an cd ct), sl⟩) (c : PySem.W.codeIn K cd "are_layers" = true) (k : PySem.W.keepIn K (.ref f) = true) : CodeIn g K mg base d_are_layers f :=
  ⟨N_are_layers, ["value", "deep"], false, "are_layers", "are_layers", s_are_layers, _, (fun_mk (st := s_are_layers) l c k).binds (ps := ["value", "deep"]) (fun _ _ _ _ _ _ us hl => match us, hl with | [_, _], _ => rfl), fun_mk (st := s_are_layers) l c k, sc_are_layers, rfl, rfl, c_are_layers, fun z => Bool.noConfusion z⟩
theorem in_points_in [Tabl] {K : PySem.W.Frag} {mg : Str → Option Value} {base : Heap} {f : Addr} {od an : Option Addr} {sl : Array (Option Value)} {oc kV dc pm cd ct : Value} (l : K.lookup f = some ⟨oc, od, .func (PySem.W.fnOf "points_in" "points_in" (defArgs s_points_in) (defBody s_points_in) (defScope s_points_in) .none kV dc pm an cd ct), sl⟩) (c : PySem.W.codeIn K cd "points_in" = true) (k : PySem.W.keepIn K (.ref f) = true) : CodeIn g K mg base d_points_in f :=
  ⟨N_points_in, ["layers"], false, "points_in", "points_in", s_points_in, _, (fun_mk (st := s_points_in) l c k).binds (ps := ["layers"]) (fun _ _ _ _ _ _ us hl => match us, hl with | [_], _ => rfl), fun_mk (st := s_points_in) l c k, sc_points_in, rfl, rfl, c_points_in, fun z => Bool.noConfusion z⟩
theorem in_is_drawing [Tabl] {K : PySem.W.Frag} {mg : Str → Option Value} {base : Heap} {f : Addr} {od an : Option Addr} {sl : Array (Option Value)} {oc kV dc pm cd ct : Value} (l : K.lookup f = some ⟨oc, od, .func (PySem.W.fnOf "is_drawing" "is_drawing" (defArgs s_is_drawing) (defBody s_is_drawing) (defScope s_is_drawing) .none kV dc pm an cd ct), sl⟩) (c : PySem.W.codeIn K cd "is_drawing" = true) (k : PySem.W.keepIn K (.ref f) = true) : CodeIn g K mg base d_is_drawing f :=
  ⟨N_is_drawing, ["value"], false, "is_drawing", "is_drawing", s_is_drawing, _, (fun_mk (st := s_is_drawing) l c k).binds (ps := ["value"]) (fun _ _ _ _ _ _ us hl => match us, hl with | [_], _ => rfl), fun_mk (st := s_is_drawing) l c k, sc_is_drawing, rfl, rfl, c_is_drawing, fun z => Bool.noConfusion z⟩
theorem in_is_layer [Tabl] {K : PySem.W.Frag} {mg : Str → Option Value} {base : Heap} {f : Addr} {od an : Option Addr} {sl : Array (Option Value)} {oc kV dc pm cd ct : Value} (l : K.lookup f = some ⟨oc, od, .func (PySem.W.fnOf "is_layer" "is_layer" (defArgs s_is_layer) (defBody s_is_layer) (defScope s_is_layer) .none kV dc pm an cd ct), sl⟩) (c : PySem.W.codeIn K cd "is_layer" = true) (k : PySem.W.keepIn K (.ref f) = true) : CodeIn g K mg base d_is_layer f :=
  ⟨N_is_layer, ["value"], false, "is_layer", "is_layer", s_is_layer, _, (fun_mk (st := s_is_layer) l c k).binds (ps := ["value"]) (fun _ _ _ _ _ _ us hl => match us, hl with | [_], _ => rfl), fun_mk (st := s_is_layer) l c k, sc_is_layer, rfl, rfl, c_is_layer, fun z => Bool.noConfusion z⟩
theorem in_need_drawing [Tabl] {K : PySem.W.Frag} {mg : Str → Option Value} {base : Heap} {f : Addr} {od an : Option Addr} {sl : Array (Option Value)} {oc kV dc pm cd ct : Value} (l : K.lookup f = some ⟨oc, od, .func (PySem.W.fnOf "need_drawing" "need_drawing" (defArgs s_need_drawing) (defBody s_need_drawing) (defScope s_need_drawing) .none kV dc pm an cd ct), sl⟩) (c : PySem.W.codeIn K cd "need_drawing" = true) (k : PySem.W.keepIn K (.ref f) = true) : CodeIn g K mg base d_need_drawing f :=
  ⟨N_need_drawing, ["drawing"], false, "need_drawing", "need_drawing", s_need_drawing, _, (fun_mk (st := s_need_drawing) l c k).binds (ps := ["drawing"]) (fun _ _ _ _ _ _ us hl => match us, hl with | [_], _ => rfl), fun_mk (st := s_need_drawing) l c k, sc_need_drawing, rfl, rfl, c_need_drawing, fun z => Bool.noConfusion z⟩
theorem in_count_points [Tabl] {K : PySem.W.Frag} {mg : Str → Option Value} {base : Heap} {f : Addr} {od an : Option Addr} {sl : Array (Option Value)} {oc kV dc pm cd ct : Value} (l : K.lookup f = some ⟨oc, od, .func (PySem.W.fnOf "count_points" "count_points" (defArgs s_count_points) (defBody s_count_points) (defScope s_count_points) .none kV dc pm an cd ct), sl⟩) (c : PySem.W.codeIn K cd "count_points" = true) (k : PySem.W.keepIn K (.ref f) = true) : CodeIn g K mg base d_count_points f :=
  ⟨N_count_points, ["drawing"], false, "count_points", "count_points", s_count_points, _, (fun_mk (st := s_count_points) l c k).binds (ps := ["drawing"]) (fun _ _ _ _ _ _ us hl => match us, hl with | [_], _ => rfl), fun_mk (st := s_count_points) l c k, sc_count_points, rfl, rfl, c_count_points, fun z => Bool.noConfusion z⟩
theorem in__law_drawn [Tabl] {K : PySem.W.Frag} {mg : Str → Option Value} {base : Heap} {f : Addr} {od an : Option Addr} {sl : Array (Option Value)} {oc kV dc pm cd ct : Value} (l : K.lookup f = some ⟨oc, od, .func (PySem.W.fnOf "_law_drawn" "_law_drawn" (defArgs s__law_drawn) (defBody s__law_drawn) (defScope s__law_drawn) .none kV dc pm an cd ct), sl⟩) (c : PySem.W.codeIn K cd "_law_drawn" = true) (k : PySem.W.keepIn K (.ref f) = true) : CodeIn g K mg base d__law_drawn f :=
  ⟨N__law_drawn, ["cell", "k"], false, "_law_drawn", "_law_drawn", s__law_drawn, _, (fun_mk (st := s__law_drawn) l c k).binds (ps := ["cell", "k"]) (fun _ _ _ _ _ _ us hl => match us, hl with | [_, _], _ => rfl), fun_mk (st := s__law_drawn) l c k, sc__law_drawn, rfl, rfl, c__law_drawn, fun z => Bool.noConfusion z⟩
theorem in__law_roll [Tabl] {K : PySem.W.Frag} {mg : Str → Option Value} {base : Heap} {f : Addr} {od an : Option Addr} {sl : Array (Option Value)} {oc kV dc pm cd ct : Value} (l : K.lookup f = some ⟨oc, od, .func (PySem.W.fnOf "_law_roll" "_law_roll" (defArgs s__law_roll) (defBody s__law_roll) (defScope s__law_roll) .none kV dc pm an cd ct), sl⟩) (c : PySem.W.codeIn K cd "_law_roll" = true) (k : PySem.W.keepIn K (.ref f) = true) : CodeIn g K mg base d__law_roll f :=
  ⟨N__law_roll, ["dice", "many"], false, "_law_roll", "_law_roll", s__law_roll, _, (fun_mk (st := s__law_roll) l c k).binds (ps := ["dice", "many"]) (fun _ _ _ _ _ _ us hl => match us, hl with | [_, _], _ => rfl), fun_mk (st := s__law_roll) l c k, sc__law_roll, rfl, rfl, c__law_roll, fun z => Bool.noConfusion z⟩
theorem in__law_loop [Tabl] {K : PySem.W.Frag} {mg : Str → Option Value} {base : Heap} {f : Addr} {od an : Option Addr} {sl : Array (Option Value)} {oc kV dc pm cd ct : Value} (l : K.lookup f = some ⟨oc, od, .func (PySem.W.fnOf "_law_loop" "_law_loop" (defArgs s__law_loop) (defBody s__law_loop) (defScope s__law_loop) .none kV dc pm an cd ct), sl⟩) (c : PySem.W.codeIn K cd "_law_loop" = true) (k : PySem.W.keepIn K (.ref f) = true) : CodeIn g K mg base d__law_loop f :=
  ⟨N__law_loop, ["dice", "far"], false, "_law_loop", "_law_loop", s__law_loop, _, (fun_mk (st := s__law_loop) l c k).binds (ps := ["dice", "far"]) (fun _ _ _ _ _ _ us hl => match us, hl with | [_, _], _ => rfl), fun_mk (st := s__law_loop) l c k, sc__law_loop, rfl, rfl, c__law_loop, fun z => Bool.noConfusion z⟩
theorem in__law_shape [Tabl] {K : PySem.W.Frag} {mg : Str → Option Value} {base : Heap} {f : Addr} {od an : Option Addr} {sl : Array (Option Value)} {oc kV dc pm cd ct : Value} (l : K.lookup f = some ⟨oc, od, .func (PySem.W.fnOf "_law_shape" "_law_shape" (defArgs s__law_shape) (defBody s__law_shape) (defScope s__law_shape) .none kV dc pm an cd ct), sl⟩) (c : PySem.W.codeIn K cd "_law_shape" = true) (k : PySem.W.keepIn K (.ref f) = true) : CodeIn g K mg base d__law_shape f :=
  ⟨N__law_shape, ["dice", "far"], false, "_law_shape", "_law_shape", s__law_shape, _, (fun_mk (st := s__law_shape) l c k).binds (ps := ["dice", "far"]) (fun _ _ _ _ _ _ us hl => match us, hl with | [_, _], _ => rfl), fun_mk (st := s__law_shape) l c k, sc__law_shape, rfl, rfl, c__law_shape, fun z => Bool.noConfusion z⟩
theorem in__law_opacity [Tabl] {K : PySem.W.Frag} {mg : Str → Option Value} {base : Heap} {f : Addr} {od an : Option Addr} {sl : Array (Option Value)} {oc kV dc pm cd ct : Value} (l : K.lookup f = some ⟨oc, od, .func (PySem.W.fnOf "_law_opacity" "_law_opacity" (defArgs s__law_opacity) (defBody s__law_opacity) (defScope s__law_opacity) .none kV dc pm an cd ct), sl⟩) (c : PySem.W.codeIn K cd "_law_opacity" = true) (k : PySem.W.keepIn K (.ref f) = true) : CodeIn g K mg base d__law_opacity f :=
  ⟨N__law_opacity, ["dice"], false, "_law_opacity", "_law_opacity", s__law_opacity, _, (fun_mk (st := s__law_opacity) l c k).binds (ps := ["dice"]) (fun _ _ _ _ _ _ us hl => match us, hl with | [_], _ => rfl), fun_mk (st := s__law_opacity) l c k, sc__law_opacity, rfl, rfl, c__law_opacity, fun z => Bool.noConfusion z⟩
theorem in__law_matrix [Tabl] {K : PySem.W.Frag} {mg : Str → Option Value} {base : Heap} {f : Addr} {od an : Option Addr} {sl : Array (Option Value)} {oc kV dc pm cd ct : Value} (l : K.lookup f = some ⟨oc, od, .func (PySem.W.fnOf "_law_matrix" "_law_matrix" (defArgs s__law_matrix) (defBody s__law_matrix) (defScope s__law_matrix) .none kV dc pm an cd ct), sl⟩) (c : PySem.W.codeIn K cd "_law_matrix" = true) (k : PySem.W.keepIn K (.ref f) = true) : CodeIn g K mg base d__law_matrix f :=
  ⟨N__law_matrix, ["dice"], false, "_law_matrix", "_law_matrix", s__law_matrix, _, (fun_mk (st := s__law_matrix) l c k).binds (ps := ["dice"]) (fun _ _ _ _ _ _ us hl => match us, hl with | [_], _ => rfl), fun_mk (st := s__law_matrix) l c k, sc__law_matrix, rfl, rfl, c__law_matrix, fun z => Bool.noConfusion z⟩
theorem in__law_layer [Tabl] {K : PySem.W.Frag} {mg : Str → Option Value} {base : Heap} {f : Addr} {od an : Option Addr} {sl : Array (Option Value)} {oc kV dc pm cd ct : Value} (l : K.lookup f = some ⟨oc, od, .func (PySem.W.fnOf "_law_layer" "_law_layer" (defArgs s__law_layer) (defBody s__law_layer) (defScope s__law_layer) .none kV dc pm an cd ct), sl⟩) (c : PySem.W.codeIn K cd "_law_layer" = true) (k : PySem.W.keepIn K (.ref f) = true) : CodeIn g K mg base d__law_layer f :=
  ⟨N__law_layer, ["dice", "far", "deep"], false, "_law_layer", "_law_layer", s__law_layer, _, (fun_mk (st := s__law_layer) l c k).binds (ps := ["dice", "far", "deep"]) (fun _ _ _ _ _ _ us hl => match us, hl with | [_, _, _], _ => rfl), fun_mk (st := s__law_layer) l c k, sc__law_layer, rfl, rfl, c__law_layer, fun z => Bool.noConfusion z⟩
theorem in__law_drawing [Tabl] {K : PySem.W.Frag} {mg : Str → Option Value} {base : Heap} {f : Addr} {od an : Option Addr} {sl : Array (Option Value)} {oc kV dc pm cd ct : Value} (l : K.lookup f = some ⟨oc, od, .func (PySem.W.fnOf "_law_drawing" "_law_drawing" (defArgs s__law_drawing) (defBody s__law_drawing) (defScope s__law_drawing) .none kV dc pm an cd ct), sl⟩) (c : PySem.W.codeIn K cd "_law_drawing" = true) (k : PySem.W.keepIn K (.ref f) = true) : CodeIn g K mg base d__law_drawing f :=
  ⟨N__law_drawing, ["dice", "many", "far"], false, "_law_drawing", "_law_drawing", s__law_drawing, _, (fun_mk (st := s__law_drawing) l c k).binds (ps := ["dice", "many", "far"]) (fun _ _ _ _ _ _ us hl => match us, hl with | [_, _, _], _ => rfl), fun_mk (st := s__law_drawing) l c k, sc__law_drawing, rfl, rfl, c__law_drawing, fun z => Bool.noConfusion z⟩
theorem in__law_size [Tabl] {K : PySem.W.Frag} {mg : Str → Option Value} {base : Heap} {f : Addr} {od an : Option Addr} {sl : Array (Option Value)} {oc kV dc pm cd ct : Value} (l : K.lookup f = some ⟨oc, od, .func (PySem.W.fnOf "_law_size" "_law_size" (defArgs s__law_size) (defBody s__law_size) (defScope s__law_size) .none kV dc pm an cd ct), sl⟩) (c : PySem.W.codeIn K cd "_law_size" = true) (k : PySem.W.keepIn K (.ref f) = true) : CodeIn g K mg base d__law_size f :=
  ⟨N__law_size, ["layers"], false, "_law_size", "_law_size", s__law_size, _, (fun_mk (st := s__law_size) l c k).binds (ps := ["layers"]) (fun _ _ _ _ _ _ us hl => match us, hl with | [_], _ => rfl), fun_mk (st := s__law_size) l c k, sc__law_size, rfl, rfl, c__law_size, fun z => Bool.noConfusion z⟩
theorem in__law_bad_layers [Tabl] {K : PySem.W.Frag} {mg : Str → Option Value} {base : Heap} {f : Addr} {od an : Option Addr} {sl : Array (Option Value)} {oc kV dc pm cd ct : Value} (l : K.lookup f = some ⟨oc, od, .func (PySem.W.fnOf "_law_bad_layers" "_law_bad_layers" (defArgs s__law_bad_layers) (defBody s__law_bad_layers) (defScope s__law_bad_layers) .none kV dc pm an cd ct), sl⟩) (c : PySem.W.codeIn K cd "_law_bad_layers" = true) (k : PySem.W.keepIn K (.ref f) = true) : CodeIn g K mg base d__law_bad_layers f :=
  ⟨N__law_bad_layers, ["shape"], false, "_law_bad_layers", "_law_bad_layers", s__law_bad_layers, _, (fun_mk (st := s__law_bad_layers) l c k).binds (ps := ["shape"]) (fun _ _ _ _ _ _ us hl => match us, hl with | [_], _ => rfl), fun_mk (st := s__law_bad_layers) l c k, sc__law_bad_layers, rfl, rfl, c__law_bad_layers, fun z => Bool.noConfusion z⟩
theorem all_mk {l : PySem.W.OpenLaw} {pq : Program} {w : World} {K : PySem.W.Frag} {h : Heap} {mg : Str → Option Value} {fa : Addr} (X : K.In h) (G : h.Ns mainGlobals mg) (hfa : mg "law" = some (.ref fa)) (TT : TopTabs pq K h)
    {f0 : Addr} {od0 an0 : Option Addr} {sl0 : Array (Option Value)} {oc0 kV0 dc0 pm0 cd0 ct0 : Value} (a0 : PySem.W.nsIn K mainGlobals "is_whole" = some (some (.ref f0))) (l0 : K.lookup f0 = some ⟨oc0, od0, .func (PySem.W.fnOf "is_whole" "is_whole" (defArgs s_is_whole) (defBody s_is_whole) (defScope s_is_whole) .none kV0 dc0 pm0 an0 cd0 ct0), sl0⟩) (c0 : PySem.W.codeIn K cd0 "is_whole" = true) (k0 : PySem.W.keepIn K (.ref f0) = true)
    {f1 : Addr} {od1 an1 : Option Addr} {sl1 : Array (Option Value)} {oc1 kV1 dc1 pm1 cd1 ct1 : Value} (a1 : PySem.W.nsIn K mainGlobals "is_loop" = some (some (.ref f1))) (l1 : K.lookup f1 = some ⟨oc1, od1, .func (PySem.W.fnOf "is_loop" "is_loop" (defArgs s_is_loop) (defBody s_is_loop) (defScope s_is_loop) .none kV1 dc1 pm1 an1 cd1 ct1), sl1⟩) (c1 : PySem.W.codeIn K cd1 "is_loop" = true) (k1 : PySem.W.keepIn K (.ref f1) = true)
    {f2 : Addr} {od2 an2 : Option Addr} {sl2 : Array (Option Value)} {oc2 kV2 dc2 pm2 cd2 ct2 : Value} (a2 : PySem.W.nsIn K mainGlobals "is_shape" = some (some (.ref f2))) (l2 : K.lookup f2 = some ⟨oc2, od2, .func (PySem.W.fnOf "is_shape" "is_shape" (defArgs s_is_shape) (defBody s_is_shape) (defScope s_is_shape) .none kV2 dc2 pm2 an2 cd2 ct2), sl2⟩) (c2 : PySem.W.codeIn K cd2 "is_shape" = true) (k2 : PySem.W.keepIn K (.ref f2) = true)
    {f3 : Addr} {od3 an3 : Option Addr} {sl3 : Array (Option Value)} {oc3 kV3 dc3 pm3 cd3 ct3 : Value} (a3 : PySem.W.nsIn K mainGlobals "is_colour" = some (some (.ref f3))) (l3 : K.lookup f3 = some ⟨oc3, od3, .func (PySem.W.fnOf "is_colour" "is_colour" (defArgs s_is_colour) (defBody s_is_colour) (defScope s_is_colour) .none kV3 dc3 pm3 an3 cd3 ct3), sl3⟩) (c3 : PySem.W.codeIn K cd3 "is_colour" = true) (k3 : PySem.W.keepIn K (.ref f3) = true)
    {f4 : Addr} {od4 an4 : Option Addr} {sl4 : Array (Option Value)} {oc4 kV4 dc4 pm4 cd4 ct4 : Value} (a4 : PySem.W.nsIn K mainGlobals "is_opacity" = some (some (.ref f4))) (l4 : K.lookup f4 = some ⟨oc4, od4, .func (PySem.W.fnOf "is_opacity" "is_opacity" (defArgs s_is_opacity) (defBody s_is_opacity) (defScope s_is_opacity) .none kV4 dc4 pm4 an4 cd4 ct4), sl4⟩) (c4 : PySem.W.codeIn K cd4 "is_opacity" = true) (k4 : PySem.W.keepIn K (.ref f4) = true)
    {f5 : Addr} {od5 an5 : Option Addr} {sl5 : Array (Option Value)} {oc5 kV5 dc5 pm5 cd5 ct5 : Value} (a5 : PySem.W.nsIn K mainGlobals "is_matrix" = some (some (.ref f5))) (l5 : K.lookup f5 = some ⟨oc5, od5, .func (PySem.W.fnOf "is_matrix" "is_matrix" (defArgs s_is_matrix) (defBody s_is_matrix) (defScope s_is_matrix) .none kV5 dc5 pm5 an5 cd5 ct5), sl5⟩) (c5 : PySem.W.codeIn K cd5 "is_matrix" = true) (k5 : PySem.W.keepIn K (.ref f5) = true)
    {f6 : Addr} {od6 an6 : Option Addr} {sl6 : Array (Option Value)} {oc6 kV6 dc6 pm6 cd6 ct6 : Value} (a6 : PySem.W.nsIn K mainGlobals "is_layer_within" = some (some (.ref f6))) (l6 : K.lookup f6 = some ⟨oc6, od6, .func (PySem.W.fnOf "is_layer_within" "is_layer_within" (defArgs s_is_layer_within) (defBody s_is_layer_within) (defScope s_is_layer_within) .none kV6 dc6 pm6 an6 cd6 ct6), sl6⟩) (c6 : PySem.W.codeIn K cd6 "is_layer_within" = true) (k6 : PySem.W.keepIn K (.ref f6) = true)
    {f7 : Addr} {od7 an7 : Option Addr} {sl7 : Array (Option Value)} {oc7 kV7 dc7 pm7 cd7 ct7 : Value} (a7 : PySem.W.nsIn K mainGlobals "are_layers" = some (some (.ref f7))) (l7 : K.lookup f7 = some ⟨oc7, od7, .func (PySem.W.fnOf "are_layers" "are_layers" (defArgs s_are_layers) (defBody s_are_layers) (defScope s_are_layers) .none kV7 dc7 pm7 an7 cd7 ct7), sl7⟩) (c7 : PySem.W.codeIn K cd7 "are_layers" = true) (k7 : PySem.W.keepIn K (.ref f7) = true)
    {f8 : Addr} {od8 an8 : Option Addr} {sl8 : Array (Option Value)} {oc8 kV8 dc8 pm8 cd8 ct8 : Value} (a8 : PySem.W.nsIn K mainGlobals "points_in" = some (some (.ref f8))) (l8 : K.lookup f8 = some ⟨oc8, od8, .func (PySem.W.fnOf "points_in" "points_in" (defArgs s_points_in) (defBody s_points_in) (defScope s_points_in) .none kV8 dc8 pm8 an8 cd8 ct8), sl8⟩) (c8 : PySem.W.codeIn K cd8 "points_in" = true) (k8 : PySem.W.keepIn K (.ref f8) = true)
    {f9 : Addr} {od9 an9 : Option Addr} {sl9 : Array (Option Value)} {oc9 kV9 dc9 pm9 cd9 ct9 : Value} (a9 : PySem.W.nsIn K mainGlobals "is_drawing" = some (some (.ref f9))) (l9 : K.lookup f9 = some ⟨oc9, od9, .func (PySem.W.fnOf "is_drawing" "is_drawing" (defArgs s_is_drawing) (defBody s_is_drawing) (defScope s_is_drawing) .none kV9 dc9 pm9 an9 cd9 ct9), sl9⟩) (c9 : PySem.W.codeIn K cd9 "is_drawing" = true) (k9 : PySem.W.keepIn K (.ref f9) = true)
    {f10 : Addr} {od10 an10 : Option Addr} {sl10 : Array (Option Value)} {oc10 kV10 dc10 pm10 cd10 ct10 : Value} (a10 : PySem.W.nsIn K mainGlobals "is_layer" = some (some (.ref f10))) (l10 : K.lookup f10 = some ⟨oc10, od10, .func (PySem.W.fnOf "is_layer" "is_layer" (defArgs s_is_layer) (defBody s_is_layer) (defScope s_is_layer) .none kV10 dc10 pm10 an10 cd10 ct10), sl10⟩) (c10 : PySem.W.codeIn K cd10 "is_layer" = true) (k10 : PySem.W.keepIn K (.ref f10) = true)
    {f11 : Addr} {od11 an11 : Option Addr} {sl11 : Array (Option Value)} {oc11 kV11 dc11 pm11 cd11 ct11 : Value} (a11 : PySem.W.nsIn K mainGlobals "need_drawing" = some (some (.ref f11))) (l11 : K.lookup f11 = some ⟨oc11, od11, .func (PySem.W.fnOf "need_drawing" "need_drawing" (defArgs s_need_drawing) (defBody s_need_drawing) (defScope s_need_drawing) .none kV11 dc11 pm11 an11 cd11 ct11), sl11⟩) (c11 : PySem.W.codeIn K cd11 "need_drawing" = true) (k11 : PySem.W.keepIn K (.ref f11) = true)
    {f12 : Addr} {od12 an12 : Option Addr} {sl12 : Array (Option Value)} {oc12 kV12 dc12 pm12 cd12 ct12 : Value} (a12 : PySem.W.nsIn K mainGlobals "count_points" = some (some (.ref f12))) (l12 : K.lookup f12 = some ⟨oc12, od12, .func (PySem.W.fnOf "count_points" "count_points" (defArgs s_count_points) (defBody s_count_points) (defScope s_count_points) .none kV12 dc12 pm12 an12 cd12 ct12), sl12⟩) (c12 : PySem.W.codeIn K cd12 "count_points" = true) (k12 : PySem.W.keepIn K (.ref f12) = true)
    {f13 : Addr} {od13 an13 : Option Addr} {sl13 : Array (Option Value)} {oc13 kV13 dc13 pm13 cd13 ct13 : Value} (a13 : PySem.W.nsIn K mainGlobals "_law_drawn" = some (some (.ref f13))) (l13 : K.lookup f13 = some ⟨oc13, od13, .func (PySem.W.fnOf "_law_drawn" "_law_drawn" (defArgs s__law_drawn) (defBody s__law_drawn) (defScope s__law_drawn) .none kV13 dc13 pm13 an13 cd13 ct13), sl13⟩) (c13 : PySem.W.codeIn K cd13 "_law_drawn" = true) (k13 : PySem.W.keepIn K (.ref f13) = true)
    {f14 : Addr} {od14 an14 : Option Addr} {sl14 : Array (Option Value)} {oc14 kV14 dc14 pm14 cd14 ct14 : Value} (a14 : PySem.W.nsIn K mainGlobals "_law_roll" = some (some (.ref f14))) (l14 : K.lookup f14 = some ⟨oc14, od14, .func (PySem.W.fnOf "_law_roll" "_law_roll" (defArgs s__law_roll) (defBody s__law_roll) (defScope s__law_roll) .none kV14 dc14 pm14 an14 cd14 ct14), sl14⟩) (c14 : PySem.W.codeIn K cd14 "_law_roll" = true) (k14 : PySem.W.keepIn K (.ref f14) = true)
    {f15 : Addr} {od15 an15 : Option Addr} {sl15 : Array (Option Value)} {oc15 kV15 dc15 pm15 cd15 ct15 : Value} (a15 : PySem.W.nsIn K mainGlobals "_law_loop" = some (some (.ref f15))) (l15 : K.lookup f15 = some ⟨oc15, od15, .func (PySem.W.fnOf "_law_loop" "_law_loop" (defArgs s__law_loop) (defBody s__law_loop) (defScope s__law_loop) .none kV15 dc15 pm15 an15 cd15 ct15), sl15⟩) (c15 : PySem.W.codeIn K cd15 "_law_loop" = true) (k15 : PySem.W.keepIn K (.ref f15) = true)
    {f16 : Addr} {od16 an16 : Option Addr} {sl16 : Array (Option Value)} {oc16 kV16 dc16 pm16 cd16 ct16 : Value} (a16 : PySem.W.nsIn K mainGlobals "_law_shape" = some (some (.ref f16))) (l16 : K.lookup f16 = some ⟨oc16, od16, .func (PySem.W.fnOf "_law_shape" "_law_shape" (defArgs s__law_shape) (defBody s__law_shape) (defScope s__law_shape) .none kV16 dc16 pm16 an16 cd16 ct16), sl16⟩) (c16 : PySem.W.codeIn K cd16 "_law_shape" = true) (k16 : PySem.W.keepIn K (.ref f16) = true)
    {f17 : Addr} {od17 an17 : Option Addr} {sl17 : Array (Option Value)} {oc17 kV17 dc17 pm17 cd17 ct17 : Value} (a17 : PySem.W.nsIn K mainGlobals "_law_opacity" = some (some (.ref f17))) (l17 : K.lookup f17 = some ⟨oc17, od17, .func (PySem.W.fnOf "_law_opacity" "_law_opacity" (defArgs s__law_opacity) (defBody s__law_opacity) (defScope s__law_opacity) .none kV17 dc17 pm17 an17 cd17 ct17), sl17⟩) (c17 : PySem.W.codeIn K cd17 "_law_opacity" = true) (k17 : PySem.W.keepIn K (.ref f17) = true)
    {f18 : Addr} {od18 an18 : Option Addr} {sl18 : Array (Option Value)} {oc18 kV18 dc18 pm18 cd18 ct18 : Value} (a18 : PySem.W.nsIn K mainGlobals "_law_matrix" = some (some (.ref f18))) (l18 : K.lookup f18 = some ⟨oc18, od18, .func (PySem.W.fnOf "_law_matrix" "_law_matrix" (defArgs s__law_matrix) (defBody s__law_matrix) (defScope s__law_matrix) .none kV18 dc18 pm18 an18 cd18 ct18), sl18⟩) (c18 : PySem.W.codeIn K cd18 "_law_matrix" = true) (k18 : PySem.W.keepIn K (.ref f18) = true)
    {f19 : Addr} {od19 an19 : Option Addr} {sl19 : Array (Option Value)} {oc19 kV19 dc19 pm19 cd19 ct19 : Value} (a19 : PySem.W.nsIn K mainGlobals "_law_layer" = some (some (.ref f19))) (l19 : K.lookup f19 = some ⟨oc19, od19, .func (PySem.W.fnOf "_law_layer" "_law_layer" (defArgs s__law_layer) (defBody s__law_layer) (defScope s__law_layer) .none kV19 dc19 pm19 an19 cd19 ct19), sl19⟩) (c19 : PySem.W.codeIn K cd19 "_law_layer" = true) (k19 : PySem.W.keepIn K (.ref f19) = true)
    {f20 : Addr} {od20 an20 : Option Addr} {sl20 : Array (Option Value)} {oc20 kV20 dc20 pm20 cd20 ct20 : Value} (a20 : PySem.W.nsIn K mainGlobals "_law_drawing" = some (some (.ref f20))) (l20 : K.lookup f20 = some ⟨oc20, od20, .func (PySem.W.fnOf "_law_drawing" "_law_drawing" (defArgs s__law_drawing) (defBody s__law_drawing) (defScope s__law_drawing) .none kV20 dc20 pm20 an20 cd20 ct20), sl20⟩) (c20 : PySem.W.codeIn K cd20 "_law_drawing" = true) (k20 : PySem.W.keepIn K (.ref f20) = true)
    {f21 : Addr} {od21 an21 : Option Addr} {sl21 : Array (Option Value)} {oc21 kV21 dc21 pm21 cd21 ct21 : Value} (a21 : PySem.W.nsIn K mainGlobals "_law_size" = some (some (.ref f21))) (l21 : K.lookup f21 = some ⟨oc21, od21, .func (PySem.W.fnOf "_law_size" "_law_size" (defArgs s__law_size) (defBody s__law_size) (defScope s__law_size) .none kV21 dc21 pm21 an21 cd21 ct21), sl21⟩) (c21 : PySem.W.codeIn K cd21 "_law_size" = true) (k21 : PySem.W.keepIn K (.ref f21) = true)
    {f22 : Addr} {od22 an22 : Option Addr} {sl22 : Array (Option Value)} {oc22 kV22 dc22 pm22 cd22 ct22 : Value} (a22 : PySem.W.nsIn K mainGlobals "_law_bad_layers" = some (some (.ref f22))) (l22 : K.lookup f22 = some ⟨oc22, od22, .func (PySem.W.fnOf "_law_bad_layers" "_law_bad_layers" (defArgs s__law_bad_layers) (defBody s__law_bad_layers) (defScope s__law_bad_layers) .none kV22 dc22 pm22 an22 cd22 ct22), sl22⟩) (c22 : PySem.W.codeIn K cd22 "_law_bad_layers" = true) (k22 : PySem.W.keepIn K (.ref f22) = true)
    {f23 : Addr} {od23 an23 : Option Addr} {sl23 : Array (Option Value)} {oc23 kV23 dc23 pm23 cd23 ct23 : Value} (a23 : PySem.W.nsIn K mainGlobals "_law_cell" = some (some (.ref f23))) (l23 : K.lookup f23 = some ⟨oc23, od23, .func (PySem.W.fnOf "_law_cell" "_law_cell" (defArgs s__law_cell) (defBody s__law_cell) (defScope s__law_cell) .none kV23 dc23 pm23 an23 cd23 ct23), sl23⟩) (c23 : PySem.W.codeIn K cd23 "_law_cell" = true) (k23 : PySem.W.keepIn K (.ref f23) = true)
    {f24 : Addr} {od24 an24 : Option Addr} {sl24 : Array (Option Value)} {oc24 kV24 dc24 pm24 cd24 ct24 : Value} (a24 : PySem.W.nsIn K mainGlobals "_law_rounds" = some (some (.ref f24))) (l24 : K.lookup f24 = some ⟨oc24, od24, .func (PySem.W.fnOf "_law_rounds" "_law_rounds" (defArgs s__law_rounds) (defBody s__law_rounds) (defScope s__law_rounds) .none kV24 dc24 pm24 an24 cd24 ct24), sl24⟩) (c24 : PySem.W.codeIn K cd24 "_law_rounds" = true) (k24 : PySem.W.keepIn K (.ref f24) = true)
    {f25 : Addr} {od25 an25 : Option Addr} {sl25 : Array (Option Value)} {oc25 kV25 dc25 pm25 cd25 ct25 : Value} (a25 : PySem.W.nsIn K mainGlobals "law" = some (some (.ref f25))) (l25 : K.lookup f25 = some ⟨oc25, od25, .func (PySem.W.fnOf "law" "law" (defArgs s_law) (defBody s_law) (defScope s_law) .none kV25 dc25 pm25 an25 cd25 ct25), sl25⟩) (c25 : PySem.W.codeIn K cd25 "law" = true) (k25 : PySem.W.keepIn K (.ref f25) = true)
    {f26 : Addr} {od26 an26 : Option Addr} {sl26 : Array (Option Value)} {oc26 kV26 dc26 pm26 cd26 ct26 : Value} (a26 : PySem.W.nsIn K mainGlobals "_law_term" = some (some (.ref f26))) (l26 : K.lookup f26 = some ⟨oc26, od26, .func (PySem.W.fnOf "_law_term" "_law_term" (defArgs s__law_term) (defBody s__law_term) (defScope s__law_term) .none kV26 dc26 pm26 an26 cd26 ct26), sl26⟩) (c26 : PySem.W.codeIn K cd26 "_law_term" = true) (k26 : PySem.W.keepIn K (.ref f26) = true)
    {f27 : Addr} {od27 an27 : Option Addr} {sl27 : Array (Option Value)} {oc27 kV27 dc27 pm27 cd27 ct27 : Value} (a27 : PySem.W.nsIn K mainGlobals "_law_told" = some (some (.ref f27))) (l27 : K.lookup f27 = some ⟨oc27, od27, .func (PySem.W.fnOf "_law_told" "_law_told" (defArgs s__law_told) (defBody s__law_told) (defScope s__law_told) .none kV27 dc27 pm27 an27 cd27 ct27), sl27⟩) (c27 : PySem.W.codeIn K cd27 "_law_told" = true) (k27 : PySem.W.keepIn K (.ref f27) = true)
    (z0 : PySem.W.nsIn K mainGlobals "isinstance" = some none)
    (z1 : PySem.W.nsIn K mainGlobals "len" = some none)
    (z2 : PySem.W.nsIn K mainGlobals "all" = some none)
    (z3 : PySem.W.nsIn K mainGlobals "sum" = some none)
    (z4 : PySem.W.nsIn K mainGlobals "max" = some none)
    (z5 : PySem.W.nsIn K mainGlobals "min" = some none)
    (z6 : PySem.W.nsIn K mainGlobals "tuple" = some none)
    (z7 : PySem.W.nsIn K mainGlobals "list" = some none)
    (z8 : PySem.W.nsIn K mainGlobals "int" = some none)
    (z9 : PySem.W.nsIn K mainGlobals "bool" = some none)
    (z10 : PySem.W.nsIn K mainGlobals "str" = some none)
    (z11 : PySem.W.nsIn K mainGlobals "range" = some none)
    (z12 : PySem.W.nsIn K mainGlobals "ValueError" = some none)
    {gt0 : Tok} (cg0 : PySem.W.nsIn K mainGlobals "MOST_POINTS" = some (some (.int 60 gt0)))
    {C0 : Addr} (ea0 : PySem.W.nsIn K mainGlobals "InvalidNumber" = some (some (.ref C0)))
    {C1 : Addr} (ea1 : PySem.W.nsIn K mainGlobals "InvalidPoint" = some (some (.ref C1)))
    {C2 : Addr} (ea2 : PySem.W.nsIn K mainGlobals "InvalidShape" = some (some (.ref C2)))
    {C3 : Addr} (ea3 : PySem.W.nsIn K mainGlobals "InvalidLayer" = some (some (.ref C3)))
    {C4 : Addr} (ea4 : PySem.W.nsIn K mainGlobals "InvalidDrawing" = some (some (.ref C4)))
    {C5 : Addr} (ea5 : PySem.W.nsIn K mainGlobals "InvalidRegion" = some (some (.ref C5)))
    {C6 : Addr} (ea6 : PySem.W.nsIn K mainGlobals "InvalidPlan" = some (some (.ref C6)))
    {C7 : Addr} (ea7 : PySem.W.nsIn K mainGlobals "InvalidIndex" = some (some (.ref C7)))
    {C8 : Addr} (ea8 : PySem.W.nsIn K mainGlobals "InvalidBox" = some (some (.ref C8)))
    {C9 : Addr} (ea9 : PySem.W.nsIn K mainGlobals "InvalidMove" = some (some (.ref C9)))
    {C10 : Addr} (ea10 : PySem.W.nsIn K mainGlobals "InvalidText" = some (some (.ref C10)))
    {C11 : Addr} (ea11 : PySem.W.nsIn K mainGlobals "OnEdge" = some (some (.ref C11)))
    {C12 : Addr} (ea12 : PySem.W.nsIn K mainGlobals "Blank" = some (some (.ref C12)))
    {C13 : Addr} (ea13 : PySem.W.nsIn K mainGlobals "TooMany" = some (some (.ref C13)))
    {C14 : Addr} (ea14 : PySem.W.nsIn K mainGlobals "NothingToUndo" = some (some (.ref C14)))
    (ex4 : PySem.W.excIn K C4 [.type "ValueError", .type "Exception", .type "BaseException", .type "object"] "ValueError.__new__" = true) (ek4 : PySem.W.keepIn K (.ref C4) = true) (eb4 : PySem.W.subIn K (.ref C4) (.type "BaseException") = some true) (et4 : PySem.W.typeIn K (.ref C4) = some (.type "type"))
    {CS : Addr} (eS : PySem.W.nsIn K mainGlobals "PictureError" = some (some (.ref CS)))
    (kt4 : (([C0, C1, C2, C3, C4, C5, C6, C7, C8, C9, C10, C11, C12, C13, C14] : List Addr).map fun c => PySem.W.kitOne K (.ref C4) (.ref c)) = (List.range 15).map fun i => some (decide (i = 4))) (kv4 : PySem.W.kitOne K (.ref C4) (.type "ValueError") = some true) (kg4 : PySem.W.exmOne K (.ref C4) (.ref CS) = some true)
    (xa4 : PySem.W.findIn K (.ref C4) "__getattribute__" = some (some (.builtin "BaseException.__getattribute__"))) (xb4 : PySem.W.findIn K (.ref C4) "__getattr__" = some none) (xc4 : PySem.W.hasDictIn K C4 = true) (xd4 : PySem.W.findIn K (.ref C4) "__class__" = some (some (.builtin "object.__class__"))) (xm4 : PySem.W.mroIn K C4 (.type "object") = some true)
    (xn : PySem.W.specialIn K (.builtin "object.__class__") "__get__" = some (some (.builtin "getset_descriptor.__get__"))) (xt : PySem.W.takesIn K (.builtin "object.__class__") = some true)
    {q0 P0 : Addr} {oq0 : Value} {dq0 : Option Addr} {vq0 : Array Value} {sq0 : Array (Option Value)} (tc0 : cd25 = .ref q0) (tk0 : K.lookup q0 = some ⟨oq0, dq0, .fields vq0, sq0⟩) (tv0 : vq0[11]? = some (.ref P0)) (tn0 : K.lookup P0 = none) (tr0 : ((recsOf pq).find? fun e => e.name == ("law" : Str)).isSome = true)
    (hall : ∀ c : Int, ∃ s', evS (run Γ 20) lawBody (roundS N_law.length 1 c) = .ok .next s' ∧ s'.length = N_law.length) :
    LamX.LawAtS l w K (L2N.CX l.prog w) 84 63 "script" mg fa h := by
  have ti0 : PySem.W.tabIn K "law" = some (q0, P0) := by
    unfold PySem.W.tabIn
    rw [a25]
    dsimp only
    rw [l25]
    dsimp only [PySem.W.fnOf]
    rw [tc0]
    dsimp only
    rw [tk0]
    dsimp only
    rw [tv0]
  have tt0 := TT _ _ _ tr0 ti0
  have e := hfa.symm.trans (PySem.W.mg_of X G a25)
  cases e
  letI : Tabl := ⟨[(P0, "law" ++ ".<locals>." ++ "<lambda>")], fun _ => 0, fun _ _ _ _ _ => False, fun _ h => h⟩
  refine ⟨PySem.W.fnOf "law" "law" (defArgs s_law) (defBody s_law) (defScope s_law) .none kV25 dc25 pm25 an25 cd25 ct25, [(q0, P0)], spLaw K, fun p hp => by (rcases List.mem_cons.mp hp with rfl | hp; (exact tt0.2); cases hp), fun p hp => by (rcases List.mem_cons.mp hp with rfl | hp; (exact tn0); cases hp), fun p hp => by (rcases List.mem_cons.mp hp with rfl | hp; (exact tt0.1); cases hp), fun s v => .of_eq rfl, fun H a ns hlen _ hH hS => ⟨a, ns, rfl, hS, hlen, tabs_nil fun p hp => by (rcases List.mem_cons.mp hp with rfl | hp; (exact hH (q0, P0) (by simp)); cases hp), fun _ => rfl⟩, fun base KB GB TB => ?_⟩
  have lam0 : LamOk base mg cd25 ("law" ++ ".<locals>." ++ "<lambda>") := ⟨q0, P0, tc0, TB (q0, P0) (by simp), List.mem_cons_self, fun p hp e => by (rcases List.mem_cons.mp hp with rfl | hp; (exact rfl); cases hp)⟩
  have FT := fun_mk (st := s__law_term) l26 c26 k26
  have FD := fun_mk (st := s__law_told) l27 c27 k27
  have TR : HotL.TermRun l.prog w K mg base (csOf [C0, C1, C2, C3, C4, C5, C6, C7, C8, C9, C10, C11, C12, C13, C14]) CS f26 := term_run FT (FT.binds (ps := ["e"]) (fun _ _ _ _ _ _ us hl => match us, hl with | [_], _ => rfl)) (PySem.W.mg_none_of X G z0) (PySem.W.mg_none_of X G z3) (PySem.W.mg_none_of X G z8) (PySem.W.mg_none_of X G z12) (PySem.W.mg_of X G ea0) (PySem.W.mg_of X G ea1) (PySem.W.mg_of X G ea2) (PySem.W.mg_of X G ea3) (PySem.W.mg_of X G ea4) (PySem.W.mg_of X G ea5) (PySem.W.mg_of X G ea6) (PySem.W.mg_of X G ea7) (PySem.W.mg_of X G ea8) (PySem.W.mg_of X G ea9) (PySem.W.mg_of X G ea10) (PySem.W.mg_of X G ea11) (PySem.W.mg_of X G ea12) (PySem.W.mg_of X G ea13) (PySem.W.mg_of X G ea14)
  have TA : ToldAll g l.prog w K mg base := ⟨csOf [C0, C1, C2, C3, C4, C5, C6, C7, C8, C9, C10, C11, C12, C13, C14], CS, told_ok FD (FD.binds (ps := ["deed"]) (fun _ _ _ _ _ _ us hl => match us, hl with | [_], _ => rfl)) (PySem.W.mg_of X G a27) (PySem.W.mg_of X G eS) (PySem.W.mg_of X G a26) k26 TR, (KindsOk.cons ⟨C4, 4, PySem.W.mg_of X G ea4, ⟨by decide, ⟨xa4, xb4, eb4, xc4, xd4, xn, xt, xm4⟩, own_of rfl kt4, kv4, kg4⟩, by decide⟩ KindsOk.nil)⟩
  have T : TabOk g l.prog w K mg base (run Γ 20) (4 * 20) := tab_ok2 (g := g) (Γ := Γ) (AllZ.cons ⟨f0, PySem.W.mg_of X G a0, k0, in_is_whole l0 c0 k0⟩ (AllZ.cons ⟨f1, PySem.W.mg_of X G a1, k1, in_is_loop l1 c1 k1⟩ (AllZ.cons ⟨f2, PySem.W.mg_of X G a2, k2, in_is_shape l2 c2 k2⟩ (AllZ.cons ⟨f3, PySem.W.mg_of X G a3, k3, in_is_colour l3 c3 k3⟩ (AllZ.cons ⟨f4, PySem.W.mg_of X G a4, k4, in_is_opacity l4 c4 k4⟩ (AllZ.cons ⟨f5, PySem.W.mg_of X G a5, k5, in_is_matrix l5 c5 k5⟩ (AllZ.cons ⟨f6, PySem.W.mg_of X G a6, k6, in_is_layer_within l6 c6 k6⟩ (AllZ.cons ⟨f7, PySem.W.mg_of X G a7, k7, in_are_layers l7 c7 k7⟩ (AllZ.cons ⟨f8, PySem.W.mg_of X G a8, k8, in_points_in l8 c8 k8⟩ (AllZ.cons ⟨f9, PySem.W.mg_of X G a9, k9, in_is_drawing l9 c9 k9⟩ (AllZ.cons ⟨f10, PySem.W.mg_of X G a10, k10, in_is_layer l10 c10 k10⟩ (AllZ.cons ⟨f11, PySem.W.mg_of X G a11, k11, in_need_drawing l11 c11 k11⟩ (AllZ.cons ⟨f12, PySem.W.mg_of X G a12, k12, in_count_points l12 c12 k12⟩ (AllZ.cons ⟨f13, PySem.W.mg_of X G a13, k13, in__law_drawn l13 c13 k13⟩ (AllZ.cons ⟨f14, PySem.W.mg_of X G a14, k14, in__law_roll l14 c14 k14⟩ (AllZ.cons ⟨f15, PySem.W.mg_of X G a15, k15, in__law_loop l15 c15 k15⟩ (AllZ.cons ⟨f16, PySem.W.mg_of X G a16, k16, in__law_shape l16 c16 k16⟩ (AllZ.cons ⟨f17, PySem.W.mg_of X G a17, k17, in__law_opacity l17 c17 k17⟩ (AllZ.cons ⟨f18, PySem.W.mg_of X G a18, k18, in__law_matrix l18 c18 k18⟩ (AllZ.cons ⟨f19, PySem.W.mg_of X G a19, k19, in__law_layer l19 c19 k19⟩ (AllZ.cons ⟨f20, PySem.W.mg_of X G a20, k20, in__law_drawing l20 c20 k20⟩ (AllZ.cons ⟨f21, PySem.W.mg_of X G a21, k21, in__law_size l21 c21 k21⟩ (AllZ.cons ⟨f22, PySem.W.mg_of X G a22, k22, in__law_bad_layers l22 c22 k22⟩ AllZ.nil))))))))))))))))))))))) (AllP.cons (⟨.int 60, _, PySem.W.mg_of X G cg0, ⟨_, rfl⟩, fun _ => .int _⟩) AllP.nil) (AllP.cons ((PySem.W.mg_none_of X G z0)) (AllP.cons ((PySem.W.mg_none_of X G z1)) (AllP.cons ((PySem.W.mg_none_of X G z2)) (AllP.cons ((PySem.W.mg_none_of X G z3)) (AllP.cons ((PySem.W.mg_none_of X G z4)) (AllP.cons ((PySem.W.mg_none_of X G z5)) (AllP.cons ((PySem.W.mg_none_of X G z6)) (AllP.cons ((PySem.W.mg_none_of X G z7)) (AllP.cons ((PySem.W.mg_none_of X G z8)) (AllP.cons ((PySem.W.mg_none_of X G z9)) (AllP.cons ((PySem.W.mg_none_of X G z10)) (AllP.cons ((PySem.W.mg_none_of X G z11)) (AllP.cons ((PySem.W.mg_none_of X G z12)) AllP.nil))))))))))))) (AllP.cons (⟨C4, _, _, _, _, PySem.F.excBase_ValueError, ex4, PySem.W.mg_of X G ea4, ek4, eb4, et4⟩) AllP.nil) AllP.nil AllP.nil AllP.nil (fun z => by rcases z with z | z <;> exact absurd rfl z) (fun z => TA) 20
  have FC := fun_mk (st := s__law_cell) l23 c23 k23
  have FR := fun_mk (st := s__law_rounds) l24 c24 k24
  have FL := fun_mk (st := s_law) l25 c25 k25
  exact ok_law (k := 4 * 20) FL FR (FR.binds (ps := ["script", "most"]) (fun _ _ _ _ _ _ us hl => match us, hl with | [_, _], _ => rfl)) (PySem.W.mg_of X G a24) (ok_rounds (k := 0) FR FC (FC.binds (ps := ["script", "k"]) (fun _ _ _ _ _ _ us hl => match us, hl with | [_, _], _ => rfl)) (PySem.W.mg_of X G a23) (PySem.W.mg_none_of X G z1) (PySem.W.mg_none_of X G z4) (PySem.W.mg_none_of X G z5) (PySem.W.mg_none_of X G z11)) (fun z => ⟨rfl, lam0⟩) T hall
end Tb
open PySem PySem.W PyProof.Rows
set_option maxHeartbeats 0 in
theorem PySem.Challenge.cw_samepictures_k31_whole_drawings_holds : PySem.Challenge.rw_samepictures_k31_whole_drawings.Holds := by
  w_on; o_law; k_head; (case hw => w_witness2)
  k_fill
  refine VL.walk_tabs (l := PySem.Challenge.rw_samepictures_k31_whole_drawings) (n := 63) (k := 84) (x := "script") (CX := fun w => L2N.CX PySem.Challenge.rw_samepictures_k31_whole_drawings.prog w) rfl (by decide) rfl ⟨rfl, by decide, by decide⟩ (fun w h Y => by first | exact PySem.W.kIn_of Y | exact PySem.W.km_in_of Y) ?F (fun _ _ _ _ _ h => VL.lawN_no h)
  case F =>
    intro w mg fa h Y KX G hmg TT
    refine' Tb.all_mk KX G hmg TT ?a0 ?l0 ?c0 ?k0 ?a1 ?l1 ?c1 ?k1 ?a2 ?l2 ?c2 ?k2 ?a3 ?l3 ?c3 ?k3 ?a4 ?l4 ?c4 ?k4 ?a5 ?l5 ?c5 ?k5 ?a6 ?l6 ?c6 ?k6 ?a7 ?l7 ?c7 ?k7 ?a8 ?l8 ?c8 ?k8 ?a9 ?l9 ?c9 ?k9 ?a10 ?l10 ?c10 ?k10 ?a11 ?l11 ?c11 ?k11 ?a12 ?l12 ?c12 ?k12 ?a13 ?l13 ?c13 ?k13 ?a14 ?l14 ?c14 ?k14 ?a15 ?l15 ?c15 ?k15 ?a16 ?l16 ?c16 ?k16 ?a17 ?l17 ?c17 ?k17 ?a18 ?l18 ?c18 ?k18 ?a19 ?l19 ?c19 ?k19 ?a20 ?l20 ?c20 ?k20 ?a21 ?l21 ?c21 ?k21 ?a22 ?l22 ?c22 ?k22 ?a23 ?l23 ?c23 ?k23 ?a24 ?l24 ?c24 ?k24 ?a25 ?l25 ?c25 ?k25 ?a26 ?l26 ?c26 ?k26 ?a27 ?l27 ?c27 ?k27 ?z0 ?z1 ?z2 ?z3 ?z4 ?z5 ?z6 ?z7 ?z8 ?z9 ?z10 ?z11 ?z12 ?cg0 ?ea0 ?ea1 ?ea2 ?ea3 ?ea4 ?ea5 ?ea6 ?ea7 ?ea8 ?ea9 ?ea10 ?ea11 ?ea12 ?ea13 ?ea14 ?ex4 ?ek4 ?eb4 ?et4 ?eS ?kt4 ?kv4 ?kg4 ?xa4 ?xb4 ?xc4 ?xd4 ?xm4 ?xn ?xt ?tc0 ?tk0 ?tv0 ?tn0 ?tr0 Tb.hall
    (case a0 => k_is)
    (case l0 => k_is)
    (case c0 => k_is)
    (case k0 => k_is)
    (case a1 => k_is)
    (case l1 => k_is)
    (case c1 => k_is)
    (case k1 => k_is)
    (case a2 => k_is)
    (case l2 => k_is)
    (case c2 => k_is)
    (case k2 => k_is)
    (case a3 => k_is)
    (case l3 => k_is)
    (case c3 => k_is)
    (case k3 => k_is)
    (case a4 => k_is)
    (case l4 => k_is)
    (case c4 => k_is)
    (case k4 => k_is)
    (case a5 => k_is)
    (case l5 => k_is)
    (case c5 => k_is)
    (case k5 => k_is)
    (case a6 => k_is)
    (case l6 => k_is)
    (case c6 => k_is)
    (case k6 => k_is)
    (case a7 => k_is)
    (case l7 => k_is)
    (case c7 => k_is)
    (case k7 => k_is)
    (case a8 => k_is)
    (case l8 => k_is)
    (case c8 => k_is)
    (case k8 => k_is)
    (case a9 => k_is)
    (case l9 => k_is)
    (case c9 => k_is)
    (case k9 => k_is)
    (case a10 => k_is)
    (case l10 => k_is)
    (case c10 => k_is)
    (case k10 => k_is)
    (case a11 => k_is)
    (case l11 => k_is)
    (case c11 => k_is)
    (case k11 => k_is)
    (case a12 => k_is)
    (case l12 => k_is)
    (case c12 => k_is)
    (case k12 => k_is)
    (case a13 => k_is)
    (case l13 => k_is)
    (case c13 => k_is)
    (case k13 => k_is)
    (case a14 => k_is)
    (case l14 => k_is)
    (case c14 => k_is)
    (case k14 => k_is)
    (case a15 => k_is)
    (case l15 => k_is)
    (case c15 => k_is)
    (case k15 => k_is)
    (case a16 => k_is)
    (case l16 => k_is)
    (case c16 => k_is)
    (case k16 => k_is)
    (case a17 => k_is)
    (case l17 => k_is)
    (case c17 => k_is)
    (case k17 => k_is)
    (case a18 => k_is)
    (case l18 => k_is)
    (case c18 => k_is)
    (case k18 => k_is)
    (case a19 => k_is)
    (case l19 => k_is)
    (case c19 => k_is)
    (case k19 => k_is)
    (case a20 => k_is)
    (case l20 => k_is)
    (case c20 => k_is)
    (case k20 => k_is)
    (case a21 => k_is)
    (case l21 => k_is)
    (case c21 => k_is)
    (case k21 => k_is)
    (case a22 => k_is)
    (case l22 => k_is)
    (case c22 => k_is)
    (case k22 => k_is)
    (case a23 => k_is)
    (case l23 => k_is)
    (case c23 => k_is)
    (case k23 => k_is)
    (case a24 => k_is)
    (case l24 => k_is)
    (case c24 => k_is)
    (case k24 => k_is)
    (case a25 => k_is)
    (case l25 => k_is)
    (case c25 => k_is)
    (case k25 => k_is)
    (case a26 => k_is)
    (case l26 => k_is)
    (case c26 => k_is)
    (case k26 => k_is)
    (case a27 => k_is)
    (case l27 => k_is)
    (case c27 => k_is)
    (case k27 => k_is)
    (case z0 => k_is)
    (case z1 => k_is)
    (case z2 => k_is)
    (case z3 => k_is)
    (case z4 => k_is)
    (case z5 => k_is)
    (case z6 => k_is)
    (case z7 => k_is)
    (case z8 => k_is)
    (case z9 => k_is)
    (case z10 => k_is)
    (case z11 => k_is)
    (case z12 => k_is)
    (case cg0 => k_is)
    (case ea0 => k_is)
    (case ea1 => k_is)
    (case ea2 => k_is)
    (case ea3 => k_is)
    (case ea4 => k_is)
    (case ea5 => k_is)
    (case ea6 => k_is)
    (case ea7 => k_is)
    (case ea8 => k_is)
    (case ea9 => k_is)
    (case ea10 => k_is)
    (case ea11 => k_is)
    (case ea12 => k_is)
    (case ea13 => k_is)
    (case ea14 => k_is)
    (case ex4 => k_exc)
    (case ek4 => k_is)
    (case eb4 => k_is)
    (case et4 => k_is)
    (case eS => k_is)
    (case kt4 => kernel_rfl)
    (case kv4 => kernel_rfl)
    (case kg4 => kernel_rfl)
    (case xa4 => k_is)
    (case xb4 => k_is)
    (case xc4 => k_is)
    (case xd4 => k_is)
    (case xm4 => k_is)
    (case xn => k_is)
    (case xt => k_is)
    (case tc0 => rfl)
    (case tk0 => k_is)
    (case tv0 => rfl)
    (case tn0 => first | k_is | kernel_rfl)
    (case tr0 => kernel_rfl)
