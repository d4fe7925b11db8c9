import PyProof.Rows.All
import Wide.All
import OpenK.AllK
import Wide.FinOn
import HandS.ForMost
import HandS.ForExc
import HandS.IsInst
import HandS.Deep
import HandS.TupAny
import HandS.TupMul
import HandS.TupLe
import HandS.Wide
import PySem.Challenge.RW_samepictures_k47_whole_layers_at_bounds
set_option Elab.async false
set_option linter.all false
set_option maxRecDepth 100000
namespace PL
open PySem PySem.Spec PyProof.Rows L2
abbrev D := PyData
inductive SV where
  | d (x : D) | own (xs : List D) | dice
inductive RV where
  | d (x : D) | own (xs : List D)
def RV.toD : RV → D
  | .d x => x
  | .own xs => .list xs
def RV.toSV : RV → SV
  | .d x => .d x
  | .own xs => .own xs
structure S where
  ρ : List (Option SV)
  δ : Int × Int
inductive R (α : Type) where
  | ok (a : α) (s : S) | exc (c : Str) (s : S) | stuck
abbrev M (α : Type) := S → R α
@[inline] def R.bind {α β : Type} (r : R α) (f : α → M β) : R β := match r with
  | .ok a s => f a s
  | .exc c s => .exc c s
  | .stuck => .stuck
@[inline] def bindM {α β : Type} (m : M α) (f : α → M β) : M β := fun s => (m s).bind f
@[inline] def pureM {α : Type} (a : α) : M α := fun s => .ok a s
@[inline] def stuckM {α : Type} : M α := fun _ => .stuck
inductive RC where
  | ok (d : D) (δ : Int × Int) | exc (c : Str) (δ : Int × Int) | stuck
abbrev CF := Nat → Bool → List D → Int × Int → RC
def one : List RV → M RV
  | [r] => pureM r
  | _ => stuckM
def optM {α : Type} : Option α → M α
  | some a => pureM a
  | none => stuckM
def okMul (i j : Int) : Bool := !((decide (Builtin.Int.intBits i > shortFactorBits) && decide (Builtin.Int.intBits j > shortFactorBits) && Builtin.Int.intTooBig (Builtin.Int.intBits i + Builtin.Int.intBits j)))
def okDiv (j : Int) : Bool := !(j == 0) && decide (j.natAbs.log2 < 9000)
def okPow (i j : Int) : Bool := decide (0 ≤ j) && decide (j ≤ 1000000) && decide (i.natAbs < 2 ^ 64)
def okLen (n : Nat) : Bool := decide (n ≤ 1000000)
def guardL (n : Nat) : Option Unit := if okLen n then some () else none
inductive Bop where
  | add | sub | mul | fdiv | mod | pow
def bop : Bop → RV → RV → Option RV
  | .add, .d (.int i), .d (.int j) => some (.d (.int (i + j)))
  | .add, .d (.tuple xs), .d (.tuple ys) => if okLen (xs.length + ys.length) then some (.d (.tuple (xs ++ ys))) else none
  | .add, .d (.list xs), .d (.list ys) => if okLen (xs.length + ys.length) then some (.own (xs ++ ys)) else none
  | .add, .d (.str x), .d (.str y) => if okLen (x.length + y.length) then some (.d (.str (x ++ y))) else none
  | .sub, .d (.int i), .d (.int j) => some (.d (.int (i - j)))
  | .mul, .d (.int i), .d (.int j) => if okMul i j then some (.d (.int (i * j))) else none
  | .mul, .d (.tuple xs), .d (.int k) => if xs ≠ [] ∧ 2 ≤ k ∧ k ≤ 1000 ∧ xs.length ≤ 1000 then some (.d (.tuple (List.replicate k.toNat xs).flatten)) else none
  | .fdiv, .d (.int i), .d (.int j) => if okDiv j then some (.d (.int (i.fdiv j))) else none
  | .mod, .d (.int i), .d (.int j) => if j ≠ 0 then some (.d (.int (i.fmod j))) else none
  | .pow, .d (.int i), .d (.int j) => if okPow i j then some (.d (.int (i ^ j.toNat))) else none
  | _, _, _ => none
inductive Cop where
  | eq | ne | lt | le | gt | ge | isN | notN | inn | notIn | isB | notB
def isNoneD : D → Bool
  | .none => true
  | _ => false
def flatD : D → Bool
  | .none => true
  | .bool _ => true
  | .int _ => true
  | .str _ => true
  | _ => false
def cop : Cop → D → D → Option Bool
  | .eq, .int i, .int j => some (i == j)
  | .ne, .int i, .int j => some (!(i == j))
  | .eq, .str i, .str j => some (i == j)
  | .ne, .str i, .str j => some (!(i == j))
  | .eq, a, b => if SeqAt.shaped a && SeqAt.shaped b then some (PyData.eqv a b) else none
  | .ne, a, b => if SeqAt.shaped a && SeqAt.shaped b then some (!PyData.eqv a b) else none
  | .lt, .int i, .int j => some (decide (i < j))
  | .le, .int i, .int j => some (decide (i ≤ j))
  | .gt, .int i, .int j => some (decide (j < i))
  | .ge, .int i, .int j => some (decide (j ≤ i))
  | .isN, a, .none => some (isNoneD a)
  | .notN, a, .none => some (!isNoneD a)
  | .inn, a, .list xs => if SeqAt.shaped a && SeqAt.shaped (.list xs) then some (xs.any fun z => PyData.eqv z a) else none
  | .notIn, a, .list xs => if SeqAt.shaped a && SeqAt.shaped (.list xs) then some (!xs.any fun z => PyData.eqv z a) else none
  | .inn, a, .tuple xs => if flatD a && xs.all flatD then some (xs.any fun z => PyData.eqv z a) else none
  | .notIn, a, .tuple xs => if flatD a && xs.all flatD then some (!xs.any fun z => PyData.eqv z a) else none
  | .isB, .bool a, .bool b => some (decide (a = b))
  | .notB, .bool a, .bool b => some (!decide (a = b))
  | .isB, .int _, .bool _ => some false
  | .notB, .int _, .bool _ => some true
  | _, _, _ => none
inductive Blt where
  | len | all | any | sum | abs | max2 | min2 | tuple | list
def boolsD : List D → Option (List Bool)
  | [] => some []
  | .bool b :: r => (boolsD r).map (b :: ·)
  | _ => none
def intsD : List D → Option (List Int)
  | [] => some []
  | .int b :: r => (intsD r).map (b :: ·)
  | _ => none
def blt : Blt → List D → Option RV
  | .len, [.list xs] => some (.d (.int xs.length))
  | .len, [.tuple xs] => some (.d (.int xs.length))
  | .len, [.str x] => if okLen x.length then some (.d (.int x.length)) else none
  | .all, [.list xs] => (boolsD xs).map fun bs => .d (.bool (bs.all id))
  | .any, [.list xs] => (boolsD xs).map fun bs => .d (.bool (bs.any id))
  | .sum, [.list xs] => (intsD xs).map fun ns => .d (.int ns.sum)
  | .abs, [.int i] => some (.d (.int (if i < 0 then -i else i)))
  | .max2, [.int i, .int j] => some (.d (.int (if j > i then j else i)))
  | .min2, [.int i, .int j] => some (.d (.int (if j < i then j else i)))
  | .tuple, [.list xs] => some (.d (.tuple xs))
  | .tuple, [.tuple xs] => some (.d (.tuple xs))
  | .list, [.list xs] => some (.own xs)
  | .list, [.tuple xs] => some (.own xs)
  | _, _ => none
inductive Ty where
  | int | bool | str | tuple | list
def isiD : D → Ty → Option Bool
  | .none, _ => some false
  | .bool _, .int => some true | .bool _, .bool => some true | .bool _, _ => some false
  | .int _, .int => some true | .int _, _ => some false
  | .str _, .str => some true | .str _, _ => some false
  | .tuple _, .tuple => some true | .tuple _, _ => some false
  | .list _, .list => some true | .list _, _ => some false
  | .dict _, _ => some false
def ixD : D → D → Option D
  | .list xs, .int i => atI xs i
  | .tuple xs, .int i => atI xs i
  | _, _ => none
def cutL {α : Type} (xs : List α) (lo hi : Option Int) : List α := (xs.drop (HT.sIx xs.length 0 lo)).take (HT.sIx xs.length xs.length hi - HT.sIx xs.length 0 lo)
def slcD : D → Option Int → Option Int → Option RV
  | .list xs, lo, hi => some (.own (cutL xs lo hi))
  | .tuple xs, lo, hi => some (.d (.tuple (cutL xs lo hi)))
  | _, _, _ => none
inductive Itk where
  | seq | range1 | range2
def itR1 : List D → Option (List D)
  | [.int j] => if -1000000 < j ∧ j < 1000000 then some ((List.range j.toNat).map fun (i : Nat) => .int (i : Int)) else none
  | _ => none
def itR2 : List D → Option (List D)
  | [.int i, .int j] => if -400000 < i ∧ i < 400000 ∧ -400000 < j ∧ j < 400000 then some ((List.range (j - i).toNat).map fun (k : Nat) => .int (i + (k : Int))) else none
  | _ => none
def itSeq : List D → Option (List D)
  | [.list xs] => if okLen xs.length then some xs else none
  | [.tuple xs] => if okLen xs.length then some xs else none
  | _ => none
def itD : Itk → List D → Option (List D)
  | .seq => itSeq
  | .range1 => itR1
  | .range2 => itR2
inductive Tg where
  | nm (i : Nat) | tp (is : List Nat)
def setAll : List (Option SV) → List Nat → List D → Option (List (Option SV))
  | ρ, [], [] => some ρ
  | ρ, i :: is, x :: xs => setAll (ρ.set i (some (.d x))) is xs
  | _, _, _ => none
def setTg (t : Tg) (x : D) : M Unit := fun s => match t with
  | .nm i => .ok () { s with ρ := s.ρ.set i (some (.d x)) }
  | .tp is => match x with
    | .tuple xs => match setAll s.ρ is xs with
      | some ρ' => .ok () { s with ρ := ρ' }
      | none => .stuck
    | _ => .stuck
def hideO : Option SV → Option SV
  | some (.own _) => none
  | o => o
def wipeL (ρ : List (Option SV)) : List Nat → List (Option SV)
  | [] => ρ
  | v :: vs => (wipeL ρ vs).set v none
def hide (ρ : List (Option SV)) (vs : List Nat) : List (Option SV) := wipeL (ρ.map hideO) vs
inductive IE where
  | nil | cons (a b : IE)
  | var (i : Nat)
  | cst (d : D)
  | glb (x : Str) (d : D)
  | tup (l : IE) | lst (l : IE)
  | op (o : Bop) (a b : IE) | neg (a : IE)
  | opB (o : Bop) (i : Nat) (b : IE)
  | cmp (o : Cop) (a b : IE) | cmpL (o : Cop) (i : Nat) (b : IE) | cmpR (o : Cop) (a : IE) (i : Nat)
  | chain (o o' : Cop) (a b c : IE)
  | not (a : IE) | and (a b : IE) | or (a b : IE)
  | ife (t a b : IE)
  | call (f : Nat) (l : IE) | callD (f : Nat) (i : Nat) (l : IE)
  | blt (b : Blt) (l : IE) | bltB (b : Blt) (i : Nat)
  | isi (a : IE) (t : Ty)
  | ix (a b : IE) | ixB (i : Nat) (b : IE)
  | slc (bl bh : Bool) (a lo hi : IE) | slcB (bl bh : Bool) (i : Nat) (lo hi : IE)
  | lc (fz vs : List Nat) (tg : Tg) (k : Itk) (l cond elt : IE)
def peek (i : Nat) : M D := fun s => match s.ρ[i]? with
  | some (some (.d x)) => .ok x s
  | some (some (.own xs)) => .ok (.list xs) s
  | some (some .dice) => .ok (.list [.int s.δ.1, .int s.δ.2]) s
  | _ => .stuck
def take (i : Nat) : M D := fun s => match s.ρ[i]? with
  | some (some (.d x)) => .ok x s
  | some (some (.own xs)) => .ok (.list xs) { s with ρ := s.ρ.set i (some (.d (.list xs))) }
  | _ => .stuck
def isDice (i : Nat) : M Unit := fun s => match s.ρ[i]? with
  | some (some .dice) => .ok () s
  | _ => .stuck
def isOwn (i : Nat) : M Unit := fun s => match s.ρ[i]? with
  | some (some (.own _)) => .ok () s
  | _ => .stuck
def asB : RV → M Bool
  | .d (.bool b) => pureM b
  | _ => stuckM
def asC (l : List RV) : M Bool := bindM (one l) asB
def part : List RV → M (Option Int)
  | [.d (.int i)] => pureM (some i)
  | _ => stuckM
def partB (b : Bool) (m : M (List RV)) : M (Option Int) := match b with
  | true => bindM m part
  | false => pureM none
def fromRC : RC → M (List RV)
  | .ok d δ => fun s => .ok [.d d] { s with δ := δ }
  | .exc c δ => fun s => .exc c { s with δ := δ }
  | .stuck => stuckM
def fromRC0 : RC → M (List RV)
  | .ok d _ => pureM [.d d]
  | .exc c _ => fun s => .exc c s
  | .stuck => stuckM
def frzAll : List Nat → S → S
  | [], s => s
  | i :: is, s => match s.ρ[i]? with
    | some (some (.own xs)) => frzAll is { s with ρ := s.ρ.set i (some (.d (.list xs))) }
    | _ => frzAll is s
def itM (k : Itk) (m : M (List RV)) : M (List D) := bindM m fun xs => optM (itD k (xs.map RV.toD))
def lcT (tg : Tg) (cond : M Bool) (elt : M (List RV)) (x : D) : M (Option D) := bindM (setTg tg x) fun _ => bindM cond fun b => match b with
  | true => bindM elt fun l => bindM (one l) fun r => pureM (some r.toD)
  | false => pureM none
def lcM (ρ0 : List (Option SV)) (tg : Tg) (cond : M Bool) (elt : M (List RV)) : List D → Int × Int → Option (List D × (Int × Int))
  | [], δ => some ([], δ)
  | x :: xs, δ => match lcT tg cond elt x ⟨ρ0, δ⟩ with
    | .ok (some d) s' => match lcM ρ0 tg cond elt xs s'.δ with
      | some (ys, δ') => some (d :: ys, δ')
      | none => none
    | .ok none s' => lcM ρ0 tg cond elt xs s'.δ
    | _ => none
def one1 (m : M (List RV)) : M D := bindM m fun l => bindM (one l) fun r => pureM r.toD
def ev (cf : CF) : IE → M (List RV)
  | .nil => pureM []
  | .cons a b => bindM (ev cf a) fun x => bindM (one x) fun r => bindM (ev cf b) fun xs => pureM (.d r.toD :: xs)
  | .var i => bindM (take i) fun d => pureM [.d d]
  | .cst d => pureM [.d d]
  | .glb _ d => pureM [.d d]
  | .tup l => bindM (ev cf l) fun xs => bindM (optM (guardL xs.length)) fun _ => pureM [.d (.tuple (xs.map RV.toD))]
  | .lst l => bindM (ev cf l) fun xs => bindM (optM (guardL xs.length)) fun _ => pureM [.own (xs.map RV.toD)]
  | .op o a b => bindM (one1 (ev cf a)) fun x => bindM (one1 (ev cf b)) fun y => bindM (optM (bop o (.d x) (.d y))) fun r => pureM [r]
  | .neg a => bindM (one1 (ev cf a)) fun x => match x with
    | .int i => pureM [.d (.int (-i))]
    | _ => stuckM
  | .opB o i b => bindM (peek i) fun _ => bindM (one1 (ev cf b)) fun y => bindM (peek i) fun x => bindM (optM (bop o (.d x) (.d y))) fun r => pureM [r]
  | .cmp o a b => bindM (one1 (ev cf a)) fun x => bindM (one1 (ev cf b)) fun y => bindM (optM (cop o x y)) fun c => pureM [.d (.bool c)]
  | .cmpL o i b => bindM (peek i) fun _ => bindM (one1 (ev cf b)) fun y => bindM (peek i) fun x => bindM (optM (cop o x y)) fun c => pureM [.d (.bool c)]
  | .cmpR o a i => bindM (one1 (ev cf a)) fun x => bindM (peek i) fun y => bindM (optM (cop o x y)) fun c => pureM [.d (.bool c)]
  | .chain o o' a b c => bindM (one1 (ev cf a)) fun x => bindM (one1 (ev cf b)) fun y => bindM (optM (cop o x y)) fun k => match k with
    | true => bindM (one1 (ev cf c)) fun z => bindM (optM (cop o' y z)) fun k' => pureM [.d (.bool k')]
    | false => pureM [.d (.bool false)]
  | .not a => bindM (bindM (ev cf a) asC) fun b => pureM [.d (.bool !b)]
  | .and a b => bindM (bindM (ev cf a) asC) fun c => match c with
    | true => ev cf b
    | false => pureM [.d (.bool false)]
  | .or a b => bindM (bindM (ev cf a) asC) fun c => match c with
    | true => pureM [.d (.bool true)]
    | false => ev cf b
  | .ife t a b => bindM (bindM (ev cf t) asC) fun c => match c with
    | true => ev cf a
    | false => ev cf b
  | .call f l => bindM (ev cf l) fun xs => fromRC0 (cf f false (xs.map RV.toD) (0, 0))
  | .callD f i l => bindM (isDice i) fun _ => bindM (ev cf l) fun xs s => fromRC (cf f true (xs.map RV.toD) s.δ) s
  | .blt b l => bindM (ev cf l) fun xs => bindM (optM (blt b (xs.map RV.toD))) fun r => pureM [r]
  | .bltB b i => bindM (peek i) fun x => bindM (optM (blt b [x])) fun r => pureM [r]
  | .isi a t => bindM (one1 (ev cf a)) fun x => bindM (optM (isiD x t)) fun b => pureM [.d (.bool b)]
  | .ix a b => bindM (one1 (ev cf a)) fun x => bindM (one1 (ev cf b)) fun y => bindM (optM (ixD x y)) fun d => pureM [.d d]
  | .ixB i b => bindM (peek i) fun _ => bindM (one1 (ev cf b)) fun y => bindM (peek i) fun x => bindM (optM (ixD x y)) fun d => pureM [.d d]
  | .slc bl bh a lo hi => bindM (one1 (ev cf a)) fun x => bindM (partB bl (ev cf lo)) fun l => bindM (partB bh (ev cf hi)) fun h => bindM (optM (slcD x l h)) fun r => pureM [r]
  | .slcB bl bh i lo hi => bindM (peek i) fun _ => bindM (partB bl (ev cf lo)) fun l => bindM (partB bh (ev cf hi)) fun h => bindM (peek i) fun x => bindM (optM (slcD x l h)) fun r => pureM [r]
  | .lc fz vs tg k l cond elt => bindM (itM k (ev cf l)) fun ys s => match lcM (hide (frzAll fz s).ρ vs) tg (bindM (ev cf cond) asC) (ev cf elt) ys s.δ with
    | some (zs, δ') => .ok [.own zs] { frzAll fz s with δ := δ' }
    | none => .stuck
inductive Fl where
  | next | ret (d : D) | brk | cont
inductive IS where
  | skip | seq (a b : IS)
  | asg (i : Nat) (e : IE)
  | asgT (is : List Nat) (e : IE)
  | par (i j : Nat) (a b : IE)
  | aug (o : Bop) (i : Nat) (e : IE)
  | setD (i : Nat) (k e : IE)
  | setI (i : Nat) (k e : IE)
  | app (i : Nat) (e : IE)
  | ife (t : IE) (a b : IS)
  | forS (tg : Tg) (k : Itk) (l : IE) (b : IS)
  | whl (t : IE) (b : IS)
  | ret (e : IE) | expr (e : IE)
  | raise (c : Str) | brk | cont
def slotI (s : S) (i : Nat) : Option Int := match s.ρ[i]? with
  | some (some (.d (.int x))) => some x
  | _ => none
def augI : Bop → Int → D → Option Int
  | .add, x, .int y => some (x + y)
  | .sub, x, .int y => some (x - y)
  | _, _, _ => none
def forM (tg : Tg) (body : M Fl) : List D → M Fl
  | [] => pureM .next
  | x :: xs => bindM (setTg tg x) fun _ => bindM body fun f => match f with
    | .next => forM tg body xs
    | .cont => forM tg body xs
    | .brk => pureM .next
    | .ret d => pureM (.ret d)
def whlM (t : M Bool) (body : M Fl) : Nat → M Fl
  | 0 => stuckM
  | n + 1 => bindM t fun b => match b with
    | false => pureM .next
    | true => bindM body fun f => match f with
      | .next => whlM t body n
      | .cont => whlM t body n
      | .brk => pureM .next
      | .ret d => pureM (.ret d)
def whlFuel : Nat := 1000000000000
def evS (cf : CF) : IS → M Fl
  | .skip => pureM .next
  | .seq a b => bindM (evS cf a) fun f => match f with
    | .next => evS cf b
    | f => pureM f
  | .asg i e => bindM (ev cf e) fun l => bindM (one l) fun r s => .ok .next { s with ρ := s.ρ.set i (some r.toSV) }
  | .asgT is e => bindM (one1 (ev cf e)) fun d => bindM (setTg (.tp is) d) fun _ => pureM .next
  | .par i j a b => bindM (ev cf a) fun l => bindM (one l) fun r => bindM (ev cf b) fun l' => bindM (one l') fun r' s => .ok .next { s with ρ := (s.ρ.set i (some r.toSV)).set j (some r'.toSV) }
  | .aug o i e => fun s => bindM (optM (slotI s i)) (fun x => bindM (one1 (ev cf e)) fun y => bindM (optM (augI o x y)) fun z s => .ok .next { s with ρ := s.ρ.set i (some (.d (.int z))) }) s
  | .setD i k e => bindM (one1 (ev cf e)) fun x => bindM (isDice i) fun _ => bindM (one1 (ev cf k)) fun j s => match x, j with
    | .int x, .int 0 => .ok .next { s with δ := (x, s.δ.2) }
    | .int x, .int 1 => .ok .next { s with δ := (s.δ.1, x) }
    | _, _ => .stuck
  | .setI i k e => bindM (one1 (ev cf e)) fun x => bindM (isOwn i) fun _ => bindM (one1 (ev cf k)) fun j s => match s.ρ[i]?, j with
    | some (some (.own xs)), .int j => match ixN xs.length j with
      | some n => .ok .next { s with ρ := s.ρ.set i (some (.own (xs.set n x))) }
      | none => .stuck
    | _, _ => .stuck
  | .app i e => bindM (isOwn i) fun _ => bindM (one1 (ev cf e)) fun x s => match s.ρ[i]? with
    | some (some (.own xs)) => if okLen xs.length then .ok .next { s with ρ := s.ρ.set i (some (.own (xs ++ [x]))) } else .stuck
    | _ => .stuck
  | .ife t a b => bindM (bindM (ev cf t) asC) fun c => match c with
    | true => evS cf a
    | false => evS cf b
  | .forS tg k l b => bindM (itM k (ev cf l)) fun ys => forM tg (evS cf b) ys
  | .whl t b => whlM (bindM (ev cf t) asC) (evS cf b) whlFuel
  | .ret e => bindM (one1 (ev cf e)) fun d => pureM (.ret d)
  | .expr e => bindM (one1 (ev cf e)) fun _ => pureM .next
  | .raise c => fun s => .exc c s
  | .brk => pureM .brk
  | .cont => pureM .cont
structure Def where
  n : Nat
  dice : Bool
  arity : Nat
  body : IS
def dcN : Bool → Nat
  | true => 1
  | false => 0
def dcL : Bool → List (Option SV)
  | true => [some .dice]
  | false => []
def startS (f : Def) (dc : Bool) (ds : List D) (δ : Int × Int) : S :=
  ⟨dcL dc ++ (ds.map (fun d => some (SV.d d)) ++ List.replicate (f.n - (dcN dc + ds.length)) none), δ⟩
def okCall (f : Def) (dc : Bool) (ds : List D) : Bool := dc == f.dice && decide (dcN dc + ds.length = f.arity) && decide (f.arity ≤ f.n)
def endRC : R Fl → RC
  | .ok (.ret d) s => .ok d s.δ
  | .ok .next s => .ok .none s.δ
  | .ok _ _ => .stuck
  | .exc c s => .exc c s.δ
  | .stuck => .stuck
def runDef (cf : CF) (f : Def) (dc : Bool) (ds : List D) (δ : Int × Int) : RC := match okCall f dc ds with
  | true => endRC (evS cf f.body (startS f dc ds δ))
  | false => .stuck
end PL
set_option maxHeartbeats 1000000
namespace PL
open PySem PySem.Spec PyProof.Rows L2
mutual
inductive Rp (K : PySem.W.Frag) (F : Hp) : V → D → Prop
  | non : Rp K F .non .none
  | bl (b : Bool) : Rp K F (.bl b) (.bool b)
  | int (i : Int) : Rp K F (.int i) (.int i)
  | str (x : Str) : Rp K F (.str x) (.str x)
  | lst {a : Addr} {xs : List V} {ds : List D} : F a = some (.lst xs) → Rps K F xs ds → Rp K F (.ref a) (.list ds)
  | tup {a : Addr} {xs : List V} {ds : List D} : SqT K F a xs → Rps K F xs ds → Rp K F (.ref a) (.tuple ds)
inductive Rps (K : PySem.W.Frag) (F : Hp) : List V → List D → Prop
  | nil : Rps K F [] []
  | cons {v : V} {vs : List V} {d : D} {ds : List D} : Rp K F v d → Rps K F vs ds → Rps K F (v :: vs) (d :: ds)
end
section
variable {K : PySem.W.Frag} {F F' H : Hp}
theorem sqT_mono {a : Addr} {xs : List V} (e : Same F F') (h : SqT K F a xs) : SqT K F' a xs := by
  rcases h with (h | ⟨o, h⟩) | h
  · exact .inl (.inl (e _ _ h))
  · exact .inl (.inr ⟨o, e _ _ h⟩)
  · exact .inr h
mutual
theorem Rp.mono (e : Same F F') : ∀ {v : V} {d : D}, Rp K F v d → Rp K F' v d
  | _, _, .non => .non
  | _, _, .bl b => .bl b
  | _, _, .int i => .int i
  | _, _, .str x => .str x
  | _, _, .lst h t => .lst (e _ _ h) (Rps.mono e t)
  | _, _, .tup h t => .tup (sqT_mono e h) (Rps.mono e t)
theorem Rps.mono (e : Same F F') : ∀ {vs : List V} {ds : List D}, Rps K F vs ds → Rps K F' vs ds
  | _, _, .nil => .nil
  | _, _, .cons h t => .cons (Rp.mono e h) (Rps.mono e t)
end
mutual
theorem Rp.dp (e : Same F H) : ∀ {v : V} {d : D}, Rp K F v d → Dp K H v d
  | _, _, .non => .non
  | _, _, .bl b => .bl b
  | _, _, .int i => .int i
  | _, _, .str x => .str x
  | _, _, .lst h t => .lst (.inl (.inl (e _ _ h))) (Rps.dp e t)
  | _, _, .tup h t => .tup (sqT_mono e h) (Rps.dp e t)
theorem Rps.dp (e : Same F H) : ∀ {vs : List V} {ds : List D}, Rps K F vs ds → DpAll K H vs ds
  | _, _, .nil => .nil
  | _, _, .cons h t => .cons (Rp.dp e h) (Rps.dp e t)
end
theorem Rps.length : ∀ {vs : List V} {ds : List D}, Rps K F vs ds → vs.length = ds.length
  | _, _, .nil => rfl
  | _, _, .cons _ t => congrArg (· + 1) (Rps.length t)
theorem Rps.append : ∀ {vs ws : List V} {ds es : List D}, Rps K F vs ds → Rps K F ws es → Rps K F (vs ++ ws) (ds ++ es)
  | _, _, _, _, .nil, h => h
  | _, _, _, _, .cons h t, g => .cons h (Rps.append t g)
theorem Rps.get : ∀ {vs : List V} {ds : List D} {i : Nat} {d : D}, Rps K F vs ds → ds[i]? = some d → ∃ v, vs[i]? = some v ∧ Rp K F v d
  | _, _, i, _, .nil, h => by simp at h
  | _, _, 0, _, .cons h t, e => by simp at e; subst e; exact ⟨_, rfl, h⟩
  | _, _, i + 1, d, .cons h t, e => by
    obtain ⟨v, h1, h2⟩ := Rps.get (i := i) (d := d) t (by simpa using e)
    exact ⟨v, by simpa using h1, h2⟩
theorem Rps.getV : ∀ {vs : List V} {ds : List D} {i : Nat} {v : V}, Rps K F vs ds → vs[i]? = some v → ∃ d, ds[i]? = some d ∧ Rp K F v d
  | _, _, i, _, .nil, h => by simp at h
  | _, _, 0, _, .cons h t, e => by simp at e; subst e; exact ⟨_, rfl, h⟩
  | _, _, i + 1, v, .cons h t, e => by
    obtain ⟨d, h1, h2⟩ := Rps.getV (i := i) (v := v) t (by simpa using e)
    exact ⟨d, by simpa using h1, h2⟩
theorem Rps.take : ∀ {vs : List V} {ds : List D} (n : Nat), Rps K F vs ds → Rps K F (vs.take n) (ds.take n)
  | _, _, 0, _ => by simp; exact .nil
  | _, _, _ + 1, .nil => by simp; exact .nil
  | _, _, n + 1, .cons h t => by simp; exact .cons h (Rps.take n t)
theorem Rps.drop : ∀ {vs : List V} {ds : List D} (n : Nat), Rps K F vs ds → Rps K F (vs.drop n) (ds.drop n)
  | _, _, 0, h => by simpa using h
  | _, _, _ + 1, .nil => by simp; exact .nil
  | _, _, n + 1, .cons h t => by simpa using Rps.drop n t
theorem Rps.set : ∀ {vs : List V} {ds : List D} (n : Nat) {v : V} {d : D}, Rps K F vs ds → Rp K F v d → Rps K F (vs.set n v) (ds.set n d)
  | _, _, _, _, _, .nil, _ => by simp; exact .nil
  | _, _, 0, _, _, .cons h t, g => by simp; exact .cons g t
  | _, _, n + 1, _, _, .cons h t, g => by simp; exact .cons h (Rps.set n t g)
theorem Rps.rep {vs : List V} {ds : List D} (h : Rps K F vs ds) : ∀ k : Nat, Rps K F (List.replicate k vs).flatten (List.replicate k ds).flatten
  | 0 => by simp; exact .nil
  | k + 1 => by
    rw [List.replicate_succ, List.replicate_succ, List.flatten_cons, List.flatten_cons]
    exact h.append (Rps.rep h k)
theorem Rps.bools : ∀ {ds : List D} {vs : List V} {bs : List Bool}, Rps K F vs ds → boolsD ds = some bs → vs = bs.map V.bl
  | [], _, bs, .nil, e => by simp [boolsD] at e; subst e; rfl
  | .bool b :: ds, _, bs, .cons (.bl _) t, e => by
    simp only [boolsD, Option.map_eq_some_iff] at e
    obtain ⟨cs, e1, rfl⟩ := e
    rw [Rps.bools t e1]; rfl
theorem Rps.intl : ∀ {ds : List D} {vs : List V} {bs : List Int}, Rps K F vs ds → intsD ds = some bs → vs = bs.map V.int
  | [], _, bs, .nil, e => by simp [intsD] at e; subst e; rfl
  | .int b :: ds, _, bs, .cons (.int _) t, e => by
    simp only [intsD, Option.map_eq_some_iff] at e
    obtain ⟨cs, e1, rfl⟩ := e
    rw [Rps.intl t e1]; rfl
theorem Rps.cut {vs : List V} {ds : List D} (h : Rps K F vs ds) (lo hi : Option Int) : Rps K F (cutV vs lo hi) (cutL ds lo hi) := by
  unfold cutV cutL
  rw [h.length]
  exact (h.drop _).take _
theorem Rps.atI {vs : List V} {ds : List D} {i : Int} {d : D} (h : Rps K F vs ds) (e : L2.atI ds i = some d) : ∃ v, L2.atI vs i = some v ∧ Rp K F v d := by
  unfold L2.atI at e ⊢
  rw [h.length]
  cases q : ixN ds.length i with
  | none => rw [q] at e; simp at e
  | some j =>
    rw [q] at e
    exact h.get (by simpa using e)
theorem Rp.flat : ∀ {v : V} {d : D}, Rp K F v d → flatD d = true → flatV v = true
  | _, _, .non, _ => rfl
  | _, _, .bl b, _ => rfl
  | _, _, .int i, _ => rfl
  | _, _, .str x, _ => rfl
  | _, _, .lst h t, e => by simp [flatD] at e
  | _, _, .tup h t, e => by simp [flatD] at e
theorem Rp.eqv_flat : ∀ {v w : V} {d e : D}, Rp K F v d → Rp K F w e → flatD d = true → flatD e = true → eqV v w = PyData.eqv d e := by
  intro v w d e h g h1 h2
  cases h <;> first | (simp [flatD] at h1; done) | (cases g <;> first | (simp [flatD] at h2; done) | (simp [eqV, PyData.eqv]))
theorem Rps.flat : ∀ {vs : List V} {ds : List D}, Rps K F vs ds → ds.all flatD = true → vs.all flatV = true
  | _, _, .nil, _ => rfl
  | _, _, .cons h t, e => by
    rw [List.all_cons, Bool.and_eq_true] at e
    rw [List.all_cons, h.flat e.1, Rps.flat t e.2]; rfl
theorem Rps.inV : ∀ {vs : List V} {ds : List D} {v : V} {d : D}, Rps K F vs ds → Rp K F v d → ds.all flatD = true → flatD d = true → inV v vs = ds.any fun z => PyData.eqv z d
  | _, _, _, _, .nil, _, _, _ => rfl
  | _, _, v, d, .cons h t, g, e, f => by
    rw [List.all_cons, Bool.and_eq_true] at e
    have ih := Rps.inV t g e.2 f
    unfold L2.inV at ih ⊢
    rw [List.any_cons, List.any_cons, ih, Rp.eqv_flat h g e.1 f]
end
structure Fx where
  da : Option Addr
  H0 : Hp
  F0 : Hp
def SlotOk (K : PySem.W.Frag) (fx : Fx) (Fz H : Hp) : SV → V → Prop
  | .d x, v => Rp K Fz v x
  | .own xs, v => ∃ a vs, v = .ref a ∧ H a = some (.lst vs) ∧ fx.H0 a = none ∧ Fz a = none ∧ Rps K Fz vs xs
  | .dice, v => ∃ a, fx.da = some a ∧ v = .ref a
structure Rel (K : PySem.W.Frag) (fx : Fx) (Fz : Hp) (σ : L2.St) (H : Hp) (s : S) : Prop where
  sub : Same Fz H
  old : ∀ b o, fx.H0 b = some o → fx.da ≠ some b → H b = some o
  f0 : Same fx.F0 Fz
  nf : ∀ b o, fx.H0 b = some o → fx.F0 b = none → Fz b = none
  dc : ∀ a, fx.da = some a → H a = some (.lst [.int s.δ.1, .int s.δ.2]) ∧ (∃ o, fx.H0 a = some o) ∧ fx.F0 a = none
  sl : ∀ (i : Nat) (x : SV), s.ρ[i]? = some (some x) → ∃ v, σ[i]? = some (some v) ∧ SlotOk K fx Fz H x v
  ap : ∀ (i j : Nat) (xs ys : List D) (a : Addr), s.ρ[i]? = some (some (.own xs)) → s.ρ[j]? = some (some (.own ys)) → σ[i]? = some (some (.ref a)) → σ[j]? = some (some (.ref a)) → i = j
  len : s.ρ.length = σ.length
def RvOk (K : PySem.W.Frag) (fx : Fx) (Fz : Hp) (σ : L2.St) (H : Hp) (s : S) : RV → V → Prop
  | .d x, v => Rp K Fz v x
  | .own xs, v => ∃ a vs, v = .ref a ∧ H a = some (.lst vs) ∧ fx.H0 a = none ∧ Fz a = none ∧ Rps K Fz vs xs ∧ ∀ (i : Nat) (ys : List D), s.ρ[i]? = some (some (.own ys)) → σ[i]? ≠ some (some (.ref a))
section
variable {K : PySem.W.Frag} {fx : Fx} {Fz H : Hp} {σ : L2.St} {s : S}
theorem Rel.dcF (r : Rel K fx Fz σ H s) {a : Addr} (e : fx.da = some a) : Fz a = none := by
  obtain ⟨_, ⟨o, h⟩, h2⟩ := r.dc a e
  exact r.nf a o h h2
theorem Rel.free (r : Rel K fx Fz σ H s) {p : Addr} (h : H p = none) : Fz p = none := r.sub.free h
theorem Rel.free0 (r : Rel K fx Fz σ H s) {p : Addr} (h : H p = none) : fx.H0 p = none := by
  cases q : fx.H0 p with
  | none => rfl
  | some o =>
    by_cases e : fx.da = some p
    · rw [(r.dc p e).1] at h; cases h
    · rw [r.old p o q e] at h; cases h
theorem same_upd {H : Hp} {p : Addr} {o : HO} (h : H p = none) : Same H (upd H p o) := fun b x e => by
  rw [upd_ne (ne_of_none e h)]
  exact e
theorem SlotOk.mono {Fz' H' : Hp} {x : SV} {v : V} (e : Same Fz Fz') (hH : ∀ a vs, H a = some (.lst vs) → Fz a = none → fx.H0 a = none → H' a = some (.lst vs) ∧ Fz' a = none) (h : SlotOk K fx Fz H x v) : SlotOk K fx Fz' H' x v := by
  cases x with
  | d x => exact Rp.mono e h
  | own xs =>
    obtain ⟨a, vs, h1, h2, h3, h4, h5⟩ := h
    obtain ⟨g1, g2⟩ := hH a vs h2 h4 h3
    exact ⟨a, vs, h1, g1, h3, g2, h5.mono e⟩
  | dice => exact h
theorem Rel.lay (r : Rel K fx Fz σ H s) {p : Addr} {o : HO} (h : H p = none) : Same Fz (upd Fz p o) ∧ Rel K fx (upd Fz p o) σ (upd H p o) s := by
  have hF := r.free h
  have h0 := r.free0 h
  have e1 : Same Fz (upd Fz p o) := same_upd hF
  have e2 : Same H (upd H p o) := same_upd h
  refine ⟨e1, ?_, fun b u q n => e2 _ _ (r.old b u q n), fun b u q => e1 _ _ (r.f0 b u q), fun b u q n => ?_, fun a e => ?_, fun i x q => ?_, r.ap, r.len⟩
  · intro b u q
    by_cases hb : b = p
    · subst hb; rw [upd_same] at q ⊢; exact q
    · rw [upd_ne hb] at q ⊢; exact r.sub b u q
  · rw [upd_ne (ne_of_none q h0)]
    exact r.nf b u q n
  · obtain ⟨g1, g2⟩ := r.dc a e
    exact ⟨e2 _ _ g1, g2⟩
  · obtain ⟨v, g1, g2⟩ := r.sl i x q
    refine ⟨v, g1, g2.mono e1 fun a vs k1 k2 k3 => ⟨e2 _ _ k1, ?_⟩⟩
    rw [upd_ne (ne_of_none k1 h)]
    exact k2
theorem Rel.layOwn (r : Rel K fx Fz σ H s) {p : Addr} {vs : List V} {xs : List D} (h : H p = none) (hv : Rps K Fz vs xs) : Rel K fx Fz σ (upd H p (.lst vs)) s ∧ RvOk K fx Fz σ (upd H p (.lst vs)) s (.own xs) (.ref p) := by
  have e2 : Same H (upd H p (.lst vs)) := same_upd h
  refine ⟨⟨r.sub.trans e2, fun b u q n => e2 _ _ (r.old b u q n), r.f0, r.nf, fun a e => ?_, fun i x q => ?_, r.ap, r.len⟩, p, vs, rfl, upd_same, r.free0 h, r.free h, hv, fun i ys q z => ?_⟩
  · obtain ⟨g1, g2⟩ := r.dc a e
    exact ⟨e2 _ _ g1, g2⟩
  · obtain ⟨v, g1, g2⟩ := r.sl i x q
    exact ⟨v, g1, g2.mono (Same.refl _) fun a vs k1 k2 k3 => ⟨e2 _ _ k1, k2⟩⟩
  · obtain ⟨v, g1, a, ws, rfl, g3, _⟩ := r.sl i _ q
    rw [g1] at z
    cases z
    rw [h] at g3; cases g3
theorem RvOk.freeze (r : Rel K fx Fz σ H s) {x : RV} {v : V} (h : RvOk K fx Fz σ H s x v) : ∃ Fz', Same Fz Fz' ∧ Rel K fx Fz' σ H s ∧ Rp K Fz' v x.toD := by
  cases x with
  | d x => exact ⟨Fz, Same.refl _, r, h⟩
  | own xs =>
    obtain ⟨a, vs, rfl, h2, h3, h4, h5, h6⟩ := h
    have e1 : Same Fz (upd Fz a (.lst vs)) := same_upd h4
    refine ⟨upd Fz a (.lst vs), e1, ⟨?_, r.old, fun b u q => e1 _ _ (r.f0 b u q), fun b u q n => ?_, r.dc, fun i x q => ?_, r.ap, r.len⟩, .lst upd_same (h5.mono e1)⟩
    · intro b u q
      by_cases hb : b = a
      · subst hb; rw [upd_same] at q; cases q; exact h2
      · rw [upd_ne hb] at q; exact r.sub b u q
    · rw [upd_ne (ne_of_none q h3)]
      exact r.nf b u q n
    · obtain ⟨w, g1, g2⟩ := r.sl i x q
      refine ⟨w, g1, ?_⟩
      cases x with
      | d x => exact Rp.mono e1 g2
      | dice => exact g2
      | own ys =>
        obtain ⟨b, ws, rfl, k2, k3, k4, k5⟩ := g2
        have hne : b ≠ a := fun z => h6 i ys q (by rw [g1, z])
        exact ⟨b, ws, rfl, k2, k3, by rw [upd_ne hne]; exact k4, k5.mono e1⟩
theorem Rel.freezeSlot (r : Rel K fx Fz σ H s) {i : Nat} {xs : List D} (q : s.ρ[i]? = some (some (.own xs))) : ∃ v Fz', σ[i]? = some (some v) ∧ Same Fz Fz' ∧ Rel K fx Fz' σ H { s with ρ := s.ρ.set i (some (.d (.list xs))) } ∧ Rp K Fz' v (.list xs) := by
  obtain ⟨v, g1, a, vs, rfl, h2, h3, h4, h5⟩ := r.sl i _ q
  have e1 : Same Fz (upd Fz a (.lst vs)) := same_upd h4
  have hi : i < s.ρ.length := (List.getElem?_eq_some_iff.mp q).1
  refine ⟨_, upd Fz a (.lst vs), g1, e1, ⟨?_, r.old, fun b u q => e1 _ _ (r.f0 b u q), fun b u q n => ?_, r.dc, fun j x hq => ?_, fun j k ys zs b q1 q2 q3 q4 => ?_, by simpa using r.len⟩, .lst upd_same (h5.mono e1)⟩
  · intro b u q
    by_cases hb : b = a
    · subst hb; rw [upd_same] at q; cases q; exact h2
    · rw [upd_ne hb] at q; exact r.sub b u q
  · rw [upd_ne (ne_of_none q h3)]
    exact r.nf b u q n
  · by_cases hj : j = i
    · subst hj
      simp only [List.getElem?_set_self hi] at hq
      cases hq
      exact ⟨_, g1, .lst upd_same (h5.mono e1)⟩
    · simp only [List.getElem?_set_ne (Ne.symm hj)] at hq
      obtain ⟨w, k1, k2⟩ := r.sl j x hq
      refine ⟨w, k1, ?_⟩
      cases x with
      | d x => exact Rp.mono e1 k2
      | dice => exact k2
      | own ys =>
        obtain ⟨b, ws, rfl, m2, m3, m4, m5⟩ := k2
        have hne : b ≠ a := fun z => hj (r.ap j i ys xs a hq q (by rw [k1, z]) g1)
        exact ⟨b, ws, rfl, m2, m3, by rw [upd_ne hne]; exact m4, m5.mono e1⟩
  · have nj : j ≠ i := fun z => by subst z; simp only [List.getElem?_set_self hi] at q1; cases q1
    have nk : k ≠ i := fun z => by subst z; simp only [List.getElem?_set_self hi] at q2; cases q2
    simp only [List.getElem?_set_ne (Ne.symm nj)] at q1
    simp only [List.getElem?_set_ne (Ne.symm nk)] at q2
    exact r.ap j k ys zs b q1 q2 q3 q4
theorem Rel.peek (r : Rel K fx Fz σ H s) {i : Nat} {d : D} {s' : S} (q : PL.peek i s = .ok d s') : s' = s ∧ ∃ v, σ[i]? = some (some v) ∧ Rp K H v d := by
  unfold PL.peek at q
  cases e : s.ρ[i]? with
  | none => rw [e] at q; cases q
  | some o =>
    cases o with
    | none => rw [e] at q; cases q
    | some x =>
      obtain ⟨v, g1, g2⟩ := r.sl i x e
      cases x with
      | d x => rw [e] at q; cases q; exact ⟨rfl, v, g1, Rp.mono r.sub g2⟩
      | own xs =>
        rw [e] at q; cases q
        obtain ⟨a, vs, rfl, h2, h3, h4, h5⟩ := g2
        exact ⟨rfl, _, g1, .lst h2 (h5.mono r.sub)⟩
      | dice =>
        rw [e] at q; cases q
        obtain ⟨a, h1, rfl⟩ := g2
        exact ⟨rfl, _, g1, .lst (r.dc a h1).1 (.cons (.int _) (.cons (.int _) .nil))⟩
theorem Rel.put (r : Rel K fx Fz σ H s) {i : Nat} {x : RV} {v : V} (h : RvOk K fx Fz σ H s x v) : Rel K fx Fz (σ.set i (some v)) H { s with ρ := s.ρ.set i (some x.toSV) } := by
  refine ⟨r.sub, r.old, r.f0, r.nf, r.dc, fun j y q => ?_, fun j k ys zs b q1 q2 q3 q4 => ?_, by simpa using r.len⟩
  · by_cases hj : j = i
    · subst hj
      have hi : j < s.ρ.length := by
        have := (List.getElem?_eq_some_iff.mp q).1
        simpa using this
      simp only [List.getElem?_set_self hi] at q
      cases q
      refine ⟨v, by rw [List.getElem?_set_self (by rw [← r.len]; exact hi)], ?_⟩
      cases x with
      | d x => exact h
      | own xs => obtain ⟨a, vs, h1, h2, h3, h4, h5, h6⟩ := h; exact ⟨a, vs, h1, h2, h3, h4, h5⟩
    · simp only [List.getElem?_set_ne (Ne.symm hj)] at q ⊢
      exact r.sl j y q
  · by_cases hj : j = i
    · by_cases hk : k = i
      · rw [hj, hk]
      · subst hj
        have hi : j < s.ρ.length := by have := (List.getElem?_eq_some_iff.mp q1).1; simpa using this
        simp only [List.getElem?_set_self hi] at q1
        rw [List.getElem?_set_self (by rw [← r.len]; exact hi)] at q3
        cases q3
        simp only [List.getElem?_set_ne (Ne.symm hk)] at q2 q4
        cases x with
        | d x => cases q1
        | own xs =>
          obtain ⟨a, vs, h1, h2, h3, h4, h5, h6⟩ := h
          cases h1
          exact absurd q4 (h6 k zs q2)
    · by_cases hk : k = i
      · subst hk
        have hi : k < s.ρ.length := by have := (List.getElem?_eq_some_iff.mp q2).1; simpa using this
        simp only [List.getElem?_set_self hi] at q2
        rw [List.getElem?_set_self (by rw [← r.len]; exact hi)] at q4
        cases q4
        simp only [List.getElem?_set_ne (Ne.symm hj)] at q1 q3
        cases x with
        | d x => cases q2
        | own xs =>
          obtain ⟨a, vs, h1, h2, h3, h4, h5, h6⟩ := h
          cases h1
          exact absurd q3 (h6 j ys q1)
      · simp only [List.getElem?_set_ne (Ne.symm hj)] at q1 q3
        simp only [List.getElem?_set_ne (Ne.symm hk)] at q2 q4
        exact r.ap j k ys zs b q1 q2 q3 q4
theorem Rel.forget (r : Rel K fx Fz σ H s) {σ' : L2.St} {ρ' : List (Option SV)} (hl : ρ'.length = σ'.length) (h : ∀ (i : Nat) x, ρ'[i]? = some (some x) → s.ρ[i]? = some (some x) ∧ σ'[i]? = σ[i]?) : Rel K fx Fz σ' H { s with ρ := ρ' } := by
  refine ⟨r.sub, r.old, r.f0, r.nf, r.dc, fun i x q => ?_, fun j k ys zs b q1 q2 q3 q4 => ?_, hl⟩
  · obtain ⟨h1, h2⟩ := h i x q
    rw [h2]
    exact r.sl i x h1
  · obtain ⟨h1, h2⟩ := h j _ q1
    obtain ⟨g1, g2⟩ := h k _ q2
    rw [h2] at q3
    rw [g2] at q4
    exact r.ap j k ys zs b h1 g1 q3 q4
end
end PL
set_option maxHeartbeats 1000000
namespace PL
open PySem PySem.Spec PyProof.Rows L2
section
variable (K : PySem.W.Frag) (mg : Str → Option Value) (W : WX)
def PostX (fx : Fx) (Fz : Hp) (σ : L2.St) (c : Str) (s' : S) : Prop := ∀ C H' Fz', mg c = some C → Same Fz Fz' → Rel K fx Fz' σ H' s' → W C none σ H'
def Post (fx : Fx) (Fz : Hp) (σ : L2.St) (res : R (List RV)) (Q : VK) : Prop := match res with
  | .ok [r] s' => ∀ v H' Fz', Same Fz Fz' → Rel K fx Fz' σ H' s' → RvOk K fx Fz' σ H' s' r v → Q v H'
  | .exc c s' => PostX K mg W fx Fz σ c s'
  | _ => False
def PostD (fx : Fx) (Fz : Hp) (σ : L2.St) (res : R D) (Q : VK) : Prop := match res with
  | .ok d s' => ∀ v H' Fz', Same Fz Fz' → Rel K fx Fz' σ H' s' → Rp K Fz' v d → Q v H'
  | .exc c s' => PostX K mg W fx Fz σ c s'
  | .stuck => False
def PostA (fx : Fx) (Fz : Hp) (σ : L2.St) (res : R (List RV)) (Q : List V → Hp → Prop) : Prop := match res with
  | .ok rs s' => ∀ vs H' Fz', Same Fz Fz' → Rel K fx Fz' σ H' s' → Rps K Fz' vs (rs.map RV.toD) → Q vs H'
  | .exc c s' => PostX K mg W fx Fz σ c s'
  | .stuck => False
def PostB (fx : Fx) (Fz : Hp) (σ : L2.St) (res : R Bool) (Q : Bool → Hp → Prop) : Prop := match res with
  | .ok b s' => ∀ H' Fz', Same Fz Fz' → Rel K fx Fz' σ H' s' → Q b H'
  | .exc c s' => PostX K mg W fx Fz σ c s'
  | .stuck => False
def tI (m : M (List RV)) : TE := fun σ H Q => ∃ fx Fz s, Rel K fx Fz σ H s ∧ Post K mg W fx Fz σ (m s) Q
def tD (m : M D) : TE := fun σ H Q => ∃ fx Fz s, Rel K fx Fz σ H s ∧ PostD K mg W fx Fz σ (m s) Q
def tA (m : M (List RV)) : TA := fun σ H Q => ∃ fx Fz s, Rel K fx Fz σ H s ∧ PostA K mg W fx Fz σ (m s) Q
def tBo (m : M Bool) : TT := fun σ H Q => ∃ fx Fz s, Rel K fx Fz σ H s ∧ PostB K mg W fx Fz σ (m s) Q
end
theorem PE.imp {X : Cx} {e : Expr} {t t' : TE} (h : PE X e t) (i : ∀ σ H Q, t' σ H Q → t σ H Q) : PE X e t' := ⟨fun pins s σ H Q I q => h.run pins s σ H Q I (i σ H Q q)⟩
theorem PT.imp {X : Cx} {e : Expr} {t t' : TT} (h : PT X e t) (i : ∀ σ H Q, t' σ H Q → t σ H Q) : PT X e t' := ⟨fun pins s σ H Q I q => h.run pins s σ H Q I (i σ H Q q)⟩
theorem PA.imp {X : Cx} {es : List Expr} {t t' : TA} (h : PA X es t) (i : ∀ σ H Q, t' σ H Q → t σ H Q) : PA X es t' := ⟨fun pos pins s σ H Q I q => h.run pos pins s σ H Q I (i σ H Q q)⟩
section
variable {K : PySem.W.Frag} {mg : Str → Option Value} {W : WX} {fx : Fx} {Fz Fz1 H : Hp} {σ : L2.St} {s : S}
theorem PostX.mono {c : Str} {s' : S} (e : Same Fz Fz1) (h : PostX K mg W fx Fz σ c s') : PostX K mg W fx Fz1 σ c s' := fun C H' Fz' q g r => h C H' Fz' q (e.trans g) r
theorem Post.mono {res : R (List RV)} {Q : VK} (e : Same Fz Fz1) (h : Post K mg W fx Fz σ res Q) : Post K mg W fx Fz1 σ res Q := by
  cases res with
  | ok l s' =>
    cases l with
    | nil => exact h
    | cons r l =>
      cases l with
      | nil => exact fun v H' Fz' g => h v H' Fz' (e.trans g)
      | cons _ _ => exact h
  | exc c s' => exact PostX.mono e h
  | stuck => exact h
theorem Post.toD {m : M (List RV)} {Q : VK} (h : PostD K mg W fx Fz σ (one1 m s) Q) : Post K mg W fx Fz σ (m s) Q := by
  unfold one1 bindM R.bind at h
  cases e : m s with
  | ok l s' =>
    rw [e] at h
    cases l with
    | nil => exact h.elim
    | cons r l =>
      cases l with
      | nil =>
        intro v H' Fz' g rl rv
        obtain ⟨F2, g2, rl2, rp⟩ := rv.freeze rl
        exact h v H' F2 (g.trans g2) rl2 rp
      | cons _ _ => exact h.elim
  | exc c s' => rw [e] at h; exact h
  | stuck => rw [e] at h; exact h.elim
theorem Post.bindD {m : M D} {f : D → M (List RV)} {Q : VK} (h : Post K mg W fx Fz σ (bindM m f s) Q) :
    PostD K mg W fx Fz σ (m s) fun v H1 => ∃ Fz1 s1 d, Same Fz Fz1 ∧ Rel K fx Fz1 σ H1 s1 ∧ Rp K Fz1 v d ∧ m s = .ok d s1 ∧ Post K mg W fx Fz1 σ (f d s1) Q := by
  unfold bindM R.bind at h
  cases e : m s with
  | ok d s' =>
    rw [e] at h
    exact fun v H' Fz' g rl rp => ⟨Fz', s', d, g, rl, rp, rfl, h.mono g⟩
  | exc c s' => rw [e] at h; exact h
  | stuck => rw [e] at h; exact h.elim
theorem Post.bindA {m : M (List RV)} {f : List RV → M (List RV)} {Q : VK} (h : Post K mg W fx Fz σ (bindM m f s) Q) :
    PostA K mg W fx Fz σ (m s) fun vs H1 => ∃ Fz1 s1 rs, Same Fz Fz1 ∧ Rel K fx Fz1 σ H1 s1 ∧ Rps K Fz1 vs (rs.map RV.toD) ∧ m s = .ok rs s1 ∧ Post K mg W fx Fz1 σ (f rs s1) Q := by
  unfold bindM R.bind at h
  cases e : m s with
  | ok d s' =>
    rw [e] at h
    exact fun v H' Fz' g rl rp => ⟨Fz', s', d, g, rl, rp, rfl, h.mono g⟩
  | exc c s' => rw [e] at h; exact h
  | stuck => rw [e] at h; exact h.elim
theorem Post.bindB {m : M Bool} {f : Bool → M (List RV)} {Q : VK} (h : Post K mg W fx Fz σ (bindM m f s) Q) :
    PostB K mg W fx Fz σ (m s) fun b H1 => ∃ Fz1 s1, Same Fz Fz1 ∧ Rel K fx Fz1 σ H1 s1 ∧ m s = .ok b s1 ∧ Post K mg W fx Fz1 σ (f b s1) Q := by
  unfold bindM R.bind at h
  cases e : m s with
  | ok d s' =>
    rw [e] at h
    exact fun H' Fz' g rl => ⟨Fz', s', g, rl, rfl, h.mono g⟩
  | exc c s' => rw [e] at h; exact h
  | stuck => rw [e] at h; exact h.elim
theorem Post.bindO {α : Type} {o : Option α} {f : α → M (List RV)} {Q : VK} (h : Post K mg W fx Fz σ (bindM (optM o) f s) Q) : ∃ a, o = some a ∧ Post K mg W fx Fz σ (f a s) Q := by
  unfold bindM R.bind optM at h
  cases o with
  | none => exact h.elim
  | some a => exact ⟨a, rfl, h⟩
theorem Post.ret {r : RV} {Q : VK} {v : V} (rl : Rel K fx Fz σ H s) (rv : RvOk K fx Fz σ H s r v) (h : Post K mg W fx Fz σ (pureM [r] s) Q) : Q v H := h v H Fz (Same.refl _) rl rv
theorem Post.retD {d : D} {Q : VK} {v : V} (rl : Rel K fx Fz σ H s) (rv : Rp K Fz v d) (h : Post K mg W fx Fz σ (pureM [.d d] s) Q) : Q v H := h v H Fz (Same.refl _) rl rv
theorem Post.peek {i : Nat} {f : D → M (List RV)} {Q : VK} (rl : Rel K fx Fz σ H s) (h : Post K mg W fx Fz σ (bindM (peek i) f s) Q) : ∃ d v, σ[i]? = some (some v) ∧ Rp K H v d ∧ Post K mg W fx Fz σ (f d s) Q := by
  unfold bindM R.bind at h
  cases e : PL.peek i s with
  | ok d s' =>
    rw [e] at h
    obtain ⟨rfl, v, h1, h2⟩ := rl.peek e
    exact ⟨d, v, h1, h2, h⟩
  | exc c s' => unfold PL.peek at e; repeat' split at e <;> cases e
  | stuck => rw [e] at h; exact h.elim
end
section
variable {X : Cx} {W : WX} {cf : CF} {e a b c : Expr} {pos : Pos}
abbrev PX (X : Cx) (W : WX) (e : Expr) (m : M (List RV)) : Prop := PE X e (tI X.K X.mg W m)
abbrev PXD (X : Cx) (W : WX) (e : Expr) (m : M D) : Prop := PE X e (tD X.K X.mg W m)
abbrev PXA (X : Cx) (W : WX) (es : List Expr) (m : M (List RV)) : Prop := PA X es (tA X.K X.mg W m)
abbrev PXT (X : Cx) (W : WX) (e : Expr) (m : M Bool) : Prop := PT X e (tBo X.K X.mg W m)
theorem PX.d {m : M (List RV)} (h : PX X W e m) : PXD X W e (one1 m) := PE.imp h fun σ H Q ⟨fx, Fz, s, rl, p⟩ => ⟨fx, Fz, s, rl, Post.toD p⟩
theorem px_cst_int {i : Int} {j : Nat} : PX X W (.Constant (.int i) j pos) (ev cf (.cst (.int i))) := PE.imp pe_int fun σ H Q ⟨fx, Fz, s, rl, p⟩ => Post.retD rl (.int i) p
theorem px_cst_bool {i : Bool} {j : Nat} : PX X W (.Constant (.bool i) j pos) (ev cf (.cst (.bool i))) := PE.imp pe_bl fun σ H Q ⟨fx, Fz, s, rl, p⟩ => Post.retD rl (.bl i) p
theorem px_cst_str {i : Str} {j : Nat} : PX X W (.Constant (.str i) j pos) (ev cf (.cst (.str i))) := PE.imp pe_str fun σ H Q ⟨fx, Fz, s, rl, p⟩ => Post.retD rl (.str i) p
theorem px_cst_none {j : Nat} : PX X W (.Constant .none j pos) (ev cf (.cst .none)) := PE.imp pe_non fun σ H Q ⟨fx, Fz, s, rl, p⟩ => Post.retD rl .non p
theorem tVar_of {i : Nat} {σ : L2.St} {H : Hp} {Q : VK} {v : V} (h : σ[i]? = some (some v)) (q : Q v H) : tVar i σ H Q := ⟨v, h, q⟩
theorem px_var {i : Nat} {x : Str} (h : PE X (.Name x pos) (tVar i)) : PX X W (.Name x pos) (ev cf (.var i)) := PE.imp h fun σ H Q ⟨fx, Fz, s, rl, p⟩ => by
  show tVar i σ H Q
  have p : Post X.K X.mg W fx Fz σ (bindM (take i) (fun d => pureM [.d d]) s) Q := p
  unfold bindM R.bind take at p
  cases e : s.ρ[i]? with
  | none => rw [e] at p; exact p.elim
  | some o =>
    cases o with
    | none => rw [e] at p; exact p.elim
    | some x =>
      rw [e] at p
      cases x with
      | d x =>
        obtain ⟨v, g1, g2⟩ := rl.sl i _ e
        exact tVar_of g1 (Post.retD (d := x) rl g2 p)
      | own xs =>
        obtain ⟨v, F', g1, g2, g3, g4⟩ := rl.freezeSlot e
        exact tVar_of g1 (Post.retD (d := .list xs) g3 g4 (Post.mono g2 p))
      | dice => exact p.elim
theorem px_glb {x : Str} {v : V} {d : D} (h : PE X (.Name x pos) (tC v)) (r : ∀ F, Rp X.K F v d) : PX X W (.Name x pos) (ev cf (.glb x d)) := PE.imp h fun σ H Q ⟨fx, Fz, s, rl, p⟩ => Post.retD (d := d) rl (r Fz) p
theorem pxa_nil : PXA X W [] (ev cf .nil) := PA.imp pa_nil fun σ H Q ⟨fx, Fz, s, rl, p⟩ => p [] H Fz (Same.refl _) rl .nil
theorem pxa_cons {es : List Expr} {ia ib : IE} (ha : PX X W e (ev cf ia)) (hb : PXA X W es (ev cf ib)) (hs : starEach (e :: es) X.env = (false, eval e X.env) :: starEach es X.env) : PXA X W (e :: es) (ev cf (.cons ia ib)) :=
  PA.imp (pa_cons ha hb hs) fun σ H Q ⟨fx, Fz, s, rl, p⟩ => by
    refine ⟨fx, Fz, s, rl, ?_⟩
    have p : PostA X.K X.mg W fx Fz σ (bindM (ev cf ia) (fun x => bindM (one x) fun r => bindM (ev cf ib) fun xs => pureM (.d r.toD :: xs)) s) Q := p
    unfold bindM R.bind at p
    cases e1 : ev cf ia s with
    | ok l s1 =>
      rw [e1] at p
      cases l with
      | nil => exact p.elim
      | cons r l =>
        cases l with
        | cons _ _ => exact p.elim
        | nil =>
          have p : PostA X.K X.mg W fx Fz σ ((ev cf ib s1).bind fun xs => pureM (.d r.toD :: xs)) Q := p
          intro v H1 F1 g1 rl1 rv
          obtain ⟨F2, g2, rl2, rp⟩ := rv.freeze rl1
          refine ⟨fx, F2, s1, rl2, ?_⟩
          cases e2 : ev cf ib s1 with
          | ok rs s2 =>
            rw [e2] at p
            intro vs H2 F3 g3 rl3 rps
            exact p (v :: vs) H2 F3 ((g1.trans g2).trans g3) rl3 (.cons (rp.mono g3) rps)
          | exc c s2 => rw [e2] at p; exact PostX.mono (g1.trans g2) p
          | stuck => rw [e2] at p; exact p.elim
    | exc c s1 => rw [e1] at p; exact p
    | stuck => rw [e1] at p; exact p.elim
theorem len_le {n : Nat} (h : okLen n = true) : n ≤ sizeLine := Nat.le_trans (of_decide_eq_true h) (by rw [sizeLine_eq]; decide)
end
end PL
set_option maxHeartbeats 1000000
namespace PL
open PySem PySem.Spec PyProof.Rows L2
section
variable {X : Cx} {W : WX} {cf : CF} {e a b c : Expr} {pos : Pos} {ia ib ic : IE}
theorem red1 {σ : L2.St} {H : Hp} {Q : VK} {R : V → Hp → Prop} {m : M D} {f : D → M (List RV)}
    (hr : ∀ fx Fz H s x d, Rel X.K fx Fz σ H s → Rp X.K Fz x d → Post X.K X.mg W fx Fz σ (f d s) Q → R x H) (h : tI X.K X.mg W (bindM m f) σ H Q) :
    tD X.K X.mg W m σ H R := by
  obtain ⟨fx, Fz, s, rl, p⟩ := h
  refine ⟨fx, Fz, s, rl, ?_⟩
  have q := Post.bindD p
  cases e : m s with
  | ok d s1 =>
    rw [e] at q
    intro v H1 F1 g1 rl1 rp
    obtain ⟨F2, s2, d2, g2, rl2, rp2, e2, p2⟩ := q v H1 F1 g1 rl1 rp
    exact hr fx F2 H1 s2 v d2 rl2 rp2 p2
  | exc c s1 => rw [e] at q; exact q
  | stuck => rw [e] at q; exact q.elim
theorem redA {σ : L2.St} {H : Hp} {Q : VK} {R : List V → Hp → Prop} {m : M (List RV)} {f : List RV → M (List RV)}
    (hr : ∀ fx Fz H s xs rs, Rel X.K fx Fz σ H s → Rps X.K Fz xs (rs.map RV.toD) → Post X.K X.mg W fx Fz σ (f rs s) Q → R xs H) (h : tI X.K X.mg W (bindM m f) σ H Q) :
    tA X.K X.mg W m σ H R := by
  obtain ⟨fx, Fz, s, rl, p⟩ := h
  refine ⟨fx, Fz, s, rl, ?_⟩
  have q := Post.bindA p
  cases e : m s with
  | ok d s1 =>
    rw [e] at q
    intro v H1 F1 g1 rl1 rp
    obtain ⟨F2, s2, d2, g2, rl2, rp2, e2, p2⟩ := q v H1 F1 g1 rl1 rp
    exact hr fx F2 H1 s2 v d2 rl2 rp2 p2
  | exc c s1 => rw [e] at q; exact q
  | stuck => rw [e] at q; exact q.elim
theorem redB {σ : L2.St} {H : Hp} {Q : VK} {R : Bool → Hp → Prop} {m : M Bool} {f : Bool → M (List RV)}
    (hr : ∀ fx Fz H s b, Rel X.K fx Fz σ H s → Post X.K X.mg W fx Fz σ (f b s) Q → R b H) (h : tI X.K X.mg W (bindM m f) σ H Q) :
    tBo X.K X.mg W m σ H R := by
  obtain ⟨fx, Fz, s, rl, p⟩ := h
  refine ⟨fx, Fz, s, rl, ?_⟩
  have q := Post.bindB p
  cases e : m s with
  | ok d s1 =>
    rw [e] at q
    intro H1 F1 g1 rl1
    obtain ⟨F2, s2, g2, rl2, e2, p2⟩ := q H1 F1 g1 rl1
    exact hr fx F2 H1 s2 d rl2 p2
  | exc c s1 => rw [e] at q; exact q
  | stuck => rw [e] at q; exact q.elim
theorem red2 {σ : L2.St} {H : Hp} {Q : VK} {R : V → V → Hp → Prop} {m m' : M D} {f : D → D → M (List RV)}
    (hr : ∀ fx Fz H s x y d e, Rel X.K fx Fz σ H s → Rp X.K Fz x d → Rp X.K Fz y e → Post X.K X.mg W fx Fz σ (f d e s) Q → R x y H)
    (h : tI X.K X.mg W (bindM m fun d => bindM m' fun e => f d e) σ H Q) : tD X.K X.mg W m σ H fun x H1 => tD X.K X.mg W m' σ H1 fun y H2 => R x y H2 := by
  refine red1 (f := fun d => bindM m' fun e => f d e) (fun fx Fz H1 s x d rl rp p => ?_) h
  refine ⟨fx, Fz, s, rl, ?_⟩
  have q := Post.bindD p
  cases e : m' s with
  | ok d' s1 =>
    rw [e] at q
    intro v H2 F1 g1 rl1 rp1
    obtain ⟨F2, s2, d2, g2, rl2, rp2, e2, p2⟩ := q v H2 F1 g1 rl1 rp1
    exact hr fx F2 H2 s2 x v d d2 rl2 (rp.mono g2) rp2 p2
  | exc c s1 => rw [e] at q; exact q
  | stuck => rw [e] at q; exact q.elim
theorem guardL_some {n : Nat} {u : Unit} (h : guardL n = some u) : n ≤ sizeLine := by
  unfold guardL at h
  split at h
  · exact len_le (by assumption)
  · cases h
theorem px_tup {es : List Expr} {k : Nat} (h : PXA X W es (ev cf ia)) : PX X W (.Tuple es k pos) (ev cf (.tup ia)) :=
  PE.imp (pe_tup h) fun σ H Q h => redA (f := fun xs => bindM (optM (guardL xs.length)) fun _ => pureM [.d (.tuple (xs.map RV.toD))]) (fun fx Fz H s xs rs rl rp p => by
    obtain ⟨u, hg, p⟩ := Post.bindO p
    have hl : xs.length = rs.length := by rw [rp.length, List.length_map]
    refine ⟨by rw [hl]; exact guardL_some hg, fun q hq => ?_⟩
    obtain ⟨g, rl'⟩ := rl.lay (o := .tup xs) hq
    exact Post.retD (d := .tuple (rs.map RV.toD)) rl' (.tup (.inl (.inl upd_same)) (rp.mono g)) (Post.mono g p)) h
theorem px_lst {es : List Expr} (h : PXA X W es (ev cf ia)) : PX X W (.List es pos) (ev cf (.lst ia)) :=
  PE.imp (pe_lst h) fun σ H Q h => redA (f := fun xs => bindM (optM (guardL xs.length)) fun _ => pureM [.own (xs.map RV.toD)]) (fun fx Fz H s xs rs rl rp p => by
    obtain ⟨u, hg, p⟩ := Post.bindO p
    have hl : xs.length = rs.length := by rw [rp.length, List.length_map]
    refine ⟨by rw [hl]; exact guardL_some hg, fun q hq => ?_⟩
    obtain ⟨rl', rv⟩ := rl.layOwn hq rp
    exact Post.ret (r := .own (rs.map RV.toD)) rl' rv p) h
def Rq (K : PySem.W.Frag) (Fz H : Hp) (v : V) (d : D) : Prop := Rp K Fz v d ∨ ∃ a vs xs, v = .ref a ∧ d = .list xs ∧ H a = some (.lst vs) ∧ Rps K Fz vs xs
theorem Rq.h {K : PySem.W.Frag} {fx : Fx} {Fz H : Hp} {σ : L2.St} {s : S} {v : V} {d : D} (rl : Rel K fx Fz σ H s) (h : Rq K Fz H v d) : Rp K H v d := by
  rcases h with h | ⟨a, vs, xs, rfl, rfl, h1, h2⟩
  · exact h.mono rl.sub
  · exact .lst h1 (h2.mono rl.sub)
theorem Rq.lst {K : PySem.W.Frag} {fx : Fx} {Fz H : Hp} {σ : L2.St} {s : S} {v : V} {xs : List D} (rl : Rel K fx Fz σ H s) (h : Rq K Fz H v (.list xs)) : ∃ a vs, v = .ref a ∧ H a = some (.lst vs) ∧ Rps K Fz vs xs := by
  rcases h with h | ⟨a, vs, ys, rfl, e, h1, h2⟩
  · cases h with
    | lst h1 h2 => exact ⟨_, _, rfl, rl.sub _ _ h1, h2⟩
  · cases e; exact ⟨a, vs, rfl, h1, h2⟩
theorem Rq.tup {K : PySem.W.Frag} {Fz H : Hp} {v : V} {xs : List D} (h : Rq K Fz H v (.tuple xs)) : ∃ a vs, v = .ref a ∧ SqT K Fz a vs ∧ Rps K Fz vs xs := by
  rcases h with h | ⟨a, vs, ys, rfl, e, h1, h2⟩
  · cases h with
    | tup h1 h2 => exact ⟨_, _, rfl, h1, h2⟩
  · cases e
theorem Rq.int {K : PySem.W.Frag} {Fz H : Hp} {v : V} {i : Int} (h : Rq K Fz H v (.int i)) : v = .int i := by
  rcases h with h | ⟨a, vs, ys, rfl, e, h1, h2⟩
  · cases h; rfl
  · cases e
theorem Rq.str {K : PySem.W.Frag} {Fz H : Hp} {v : V} {i : Str} (h : Rq K Fz H v (.str i)) : v = .str i := by
  rcases h with h | ⟨a, vs, ys, rfl, e, h1, h2⟩
  · cases h; rfl
  · cases e
theorem Rq.bool {K : PySem.W.Frag} {Fz H : Hp} {v : V} {i : Bool} (h : Rq K Fz H v (.bool i)) : v = .bl i := by
  rcases h with h | ⟨a, vs, ys, rfl, e, h1, h2⟩
  · cases h; rfl
  · cases e
theorem Rq.flat {K : PySem.W.Frag} {Fz H : Hp} {v : V} {d : D} (h : Rq K Fz H v d) (f : flatD d = true) : Rp K Fz v d := by
  rcases h with h | ⟨a, vs, ys, rfl, rfl, h1, h2⟩
  · exact h
  · simp [flatD] at f
theorem Rel.peekQ {K : PySem.W.Frag} {fx : Fx} {Fz H : Hp} {σ : L2.St} {s s' : S} (r : Rel K fx Fz σ H s) {i : Nat} {d : D} (q : PL.peek i s = .ok d s') : s' = s ∧ ∃ v, σ[i]? = some (some v) ∧ Rq K Fz H v d := by
  unfold PL.peek at q
  cases e : s.ρ[i]? with
  | none => rw [e] at q; cases q
  | some o =>
    cases o with
    | none => rw [e] at q; cases q
    | some x =>
      obtain ⟨v, g1, g2⟩ := r.sl i x e
      cases x with
      | d x => rw [e] at q; cases q; exact ⟨rfl, v, g1, .inl g2⟩
      | own xs =>
        rw [e] at q; cases q
        obtain ⟨a, vs, rfl, h2, h3, h4, h5⟩ := g2
        exact ⟨rfl, _, g1, .inr ⟨a, vs, xs, rfl, rfl, h2, h5⟩⟩
      | dice =>
        rw [e] at q; cases q
        obtain ⟨a, h1, rfl⟩ := g2
        exact ⟨rfl, _, g1, .inr ⟨a, _, _, rfl, rfl, (r.dc a h1).1, .cons (.int _) (.cons (.int _) .nil)⟩⟩
theorem Post.peekQ {fx : Fx} {Fz H : Hp} {σ : L2.St} {s : S} {i : Nat} {f : D → M (List RV)} {Q : VK} (rl : Rel X.K fx Fz σ H s) (h : Post X.K X.mg W fx Fz σ (bindM (PL.peek i) f s) Q) : ∃ d v, σ[i]? = some (some v) ∧ Rq X.K Fz H v d ∧ Post X.K X.mg W fx Fz σ (f d s) Q := by
  unfold bindM R.bind at h
  cases e : PL.peek i s with
  | ok d s' =>
    rw [e] at h
    obtain ⟨rfl, v, h1, h2⟩ := rl.peekQ e
    exact ⟨d, v, h1, h2, h⟩
  | exc c s' => unfold PL.peek at e; repeat' split at e <;> cases e
  | stuck => rw [e] at h; exact h.elim
def rBop (K : PySem.W.Frag) : Bop → R2
  | .add => fun x y H Q => rI0 (fun i j => .int (i + j)) x y H Q ∨ rCatA K x y H Q ∨ rCat x y H Q ∨ (∃ i j, x = .str i ∧ y = .str j ∧ i.length + j.length ≤ sizeLine ∧ Q (.str (i ++ j)) H)
  | .sub => rI0 fun i j => .int (i - j)
  | .mul => fun x y H Q => rI (fun i j => IntMulOk i j) (fun i j => .int (i * j)) x y H Q ∨ rRepT K x y H Q
  | .fdiv => rI (fun _ j => j ≠ 0 ∧ j.natAbs.log2 < 9000) fun i j => .int (i.fdiv j)
  | .mod => rI (fun _ j => j ≠ 0) fun i j => .int (i.fmod j)
  | .pow => rI CPow fun i j => .int (i ^ j.toNat)
def opOf : Bop → Operator
  | .add => .Add | .sub => .Sub | .mul => .Mult | .fdiv => .FloorDiv | .mod => .Mod | .pow => .Pow
theorem op_bop : ∀ o : Bop, OpR X (binaryOp (opOf o)) (rBop X.K o)
  | .add => op_add.or (op_catA.or (op_cat.or op_add_str))
  | .sub => op_sub
  | .mul => OpR.or (opI fun _ _ _ _ _ _ _ hc q => mul_int q hc) op_repT
  | .fdiv => opI fun _ _ _ _ _ _ _ hc q => floordiv_int hc.1 q (.inl (PyProof.noPylong_of_log2 hc.2))
  | .mod => op_modN
  | .pow => op_pow
theorem okMul_ok {i j : Int} (h : okMul i j = true) : IntMulOk i j := by
  unfold okMul at h
  unfold IntMulOk
  intro z
  rw [z] at h
  cases h
theorem bop_ok {fx : Fx} {Fz H : Hp} {σ : L2.St} {s : S} {Q : VK} {o : Bop} {x y : V} {d e : D} {v : RV} (rl : Rel X.K fx Fz σ H s) (hx : Rq X.K Fz H x d) (hy : Rq X.K Fz H y e) (ho : bop o (.d d) (.d e) = some v)
    (p : Post X.K X.mg W fx Fz σ (pureM [v] s) Q) : rBop X.K o x y H Q := by
  unfold bop at ho
  split at ho
  · next h1 h2 => cases h1; cases h2; cases ho; cases hx.int; cases hy.int; exact .inl ⟨_, _, rfl, rfl, Post.retD rl (.int _) p⟩
  · next h1 h2 =>
    cases h1; cases h2
    split at ho
    · next hl =>
      cases ho
      obtain ⟨a, vs, rfl, t1, r1⟩ := hx.tup
      obtain ⟨b, ws, rfl, t2, r2⟩ := hy.tup
      refine .inr (.inl ⟨a, b, vs, ws, rfl, rfl, sqT_mono rl.sub t1, sqT_mono rl.sub t2, ?_, fun z => ?_, fun _ z => ?_, fun _ _ q hq => ?_⟩)
      · rw [r1.length, r2.length]; exact len_le hl
      · subst z; cases r1; exact Post.retD rl (.tup t2 (by simpa using r2)) p
      · subst z; cases r2; exact Post.retD rl (.tup t1 (by simpa using r1)) p
      · obtain ⟨g, rl'⟩ := rl.lay (o := .tup (vs ++ ws)) hq
        exact Post.retD rl' (.tup (.inl (.inl upd_same)) ((r1.append r2).mono g)) (Post.mono g p)
    · cases ho
  · next h1 h2 =>
    cases h1; cases h2
    split at ho
    · next hl =>
      cases ho
      obtain ⟨a, vs, rfl, t1, r1⟩ := hx.lst rl
      obtain ⟨b, ws, rfl, t2, r2⟩ := hy.lst rl
      refine .inr (.inr (.inl ⟨a, b, vs, ws, rfl, rfl, t1, t2, ?_, fun q hq => ?_⟩))
      · rw [r1.length, r2.length]; exact len_le hl
      · obtain ⟨rl', rv⟩ := rl.layOwn hq (r1.append r2)
        exact Post.ret rl' rv p
    · cases ho
  · next h1 h2 =>
    cases h1; cases h2
    split at ho
    · next hl =>
      cases ho; cases hx.str; cases hy.str
      exact .inr (.inr (.inr ⟨_, _, rfl, rfl, len_le hl, Post.retD rl (.str _) p⟩))
    · cases ho
  · next h1 h2 => cases h1; cases h2; cases ho; cases hx.int; cases hy.int; exact ⟨_, _, rfl, rfl, Post.retD rl (.int _) p⟩
  · next h1 h2 =>
    cases h1; cases h2
    split at ho
    · next hl => cases ho; cases hx.int; cases hy.int; exact .inl ⟨_, _, rfl, rfl, okMul_ok hl, Post.retD rl (.int _) p⟩
    · cases ho
  · next h1 h2 =>
    cases h1; cases h2
    split at ho
    · next hl =>
      cases ho; cases hy.int
      obtain ⟨a, vs, rfl, t1, r1⟩ := hx.tup
      obtain ⟨k1, k2, k3, k4⟩ := hl
      refine .inr ⟨a, _, vs, rfl, rfl, sqT_mono rl.sub t1, fun z => ?_, k2, k3, by rw [r1.length]; exact k4, fun q hq => ?_⟩
      · subst z; cases r1; exact k1 rfl
      · obtain ⟨g, rl'⟩ := rl.lay (o := .tup (List.replicate _ vs).flatten) hq
        exact Post.retD rl' (.tup (.inl (.inl upd_same)) ((r1.rep _).mono g)) (Post.mono g p)
    · cases ho
  · next h1 h2 =>
    cases h1; cases h2
    split at ho
    · next hl =>
      cases ho; cases hx.int; cases hy.int
      unfold okDiv at hl
      rw [Bool.and_eq_true] at hl
      exact ⟨_, _, rfl, rfl, ⟨by simpa using hl.1, of_decide_eq_true hl.2⟩, Post.retD rl (.int _) p⟩
    · cases ho
  · next h1 h2 =>
    cases h1; cases h2
    split at ho
    · next hl => cases ho; cases hx.int; cases hy.int; exact ⟨_, _, rfl, rfl, hl, Post.retD rl (.int _) p⟩
    · cases ho
  · next h1 h2 =>
    cases h1; cases h2
    split at ho
    · next hl =>
      cases ho; cases hx.int; cases hy.int
      unfold okPow at hl
      rw [Bool.and_eq_true, Bool.and_eq_true] at hl
      exact ⟨_, _, rfl, rfl, ⟨of_decide_eq_true hl.1.1, of_decide_eq_true hl.1.2, of_decide_eq_true hl.2⟩, Post.retD rl (.int _) p⟩
    · cases ho
  · cases ho
theorem px_op {o : Bop} (ha : PX X W a (ev cf ia)) (hb : PX X W b (ev cf ib)) : PX X W (.BinOp a (opOf o) b pos) (ev cf (.op o ia ib)) :=
  PE.imp (pe_op (op_bop o) (PX.d ha) (PX.d hb)) fun σ H Q h => red2 (f := fun x y => bindM (optM (bop o (.d x) (.d y))) fun r => pureM [r]) (fun fx Fz H s x y d e rl r1 r2 p => by
    obtain ⟨v, hv, p⟩ := Post.bindO p
    exact bop_ok rl (.inl r1) (.inl r2) hv p) h
theorem redV {σ : L2.St} {H : Hp} {Q : VK} {i : Nat} {R : V → V → Hp → Prop} {m : M D} {f : D → D → M (List RV)}
    (hr : ∀ fx Fz H s x y d e, Rel X.K fx Fz σ H s → Rq X.K Fz H x d → Rp X.K Fz y e → Post X.K X.mg W fx Fz σ (f d e s) Q → R x y H)
    (h : tI X.K X.mg W (bindM (PL.peek i) fun _ => bindM m fun e => bindM (PL.peek i) fun d => f d e) σ H Q) : tVar i σ H fun x H1 => tD X.K X.mg W m σ H1 fun y H2 => R x y H2 := by
  obtain ⟨fx, Fz, s, rl, p⟩ := h
  obtain ⟨d, v, h1, h2, p⟩ := Post.peekQ rl p
  refine ⟨v, h1, red1 (f := fun e => bindM (PL.peek i) fun d => f d e) (fun fx Fz H1 s x d rl rp p => ?_) ⟨fx, Fz, s, rl, p⟩⟩
  obtain ⟨d', v', g1, g2, p⟩ := Post.peekQ rl p
  rw [h1] at g1
  cases g1
  exact hr fx Fz H1 s v x d' d rl g2 rp p
theorem redW {σ : L2.St} {H : Hp} {Q : VK} {i : Nat} {R : V → V → Hp → Prop} {m : M D} {f : D → D → M (List RV)}
    (hr : ∀ fx Fz H s x y d e, Rel X.K fx Fz σ H s → Rp X.K Fz x d → Rq X.K Fz H y e → Post X.K X.mg W fx Fz σ (f d e s) Q → R x y H)
    (h : tI X.K X.mg W (bindM m fun d => bindM (PL.peek i) fun e => f d e) σ H Q) : tD X.K X.mg W m σ H fun x H1 => tVar i σ H1 fun y H2 => R x y H2 := by
  refine red1 (f := fun d => bindM (PL.peek i) fun e => f d e) (fun fx Fz H1 s x d rl rp p => ?_) h
  obtain ⟨d', v', g1, g2, p⟩ := Post.peekQ rl p
  exact ⟨v', g1, hr fx Fz H1 s x v' d d' rl rp g2 p⟩
theorem px_opB {o : Bop} {i : Nat} (ha : PE X a (tVar i)) (hb : PX X W b (ev cf ib)) : PX X W (.BinOp a (opOf o) b pos) (ev cf (.opB o i ib)) :=
  PE.imp (pe_op (op_bop o) ha (PX.d hb)) fun σ H Q h => redV (f := fun x y => bindM (optM (bop o (.d x) (.d y))) fun r => pureM [r]) (fun fx Fz H s x y d e rl r1 r2 p => by
    obtain ⟨v, hv, p⟩ := Post.bindO p
    exact bop_ok rl r1 (.inl r2) hv p) h
theorem px_neg (ha : PX X W a (ev cf ia)) : PX X W (.UnaryOp .USub a pos) (ev cf (.neg ia)) :=
  PE.imp (pe_un un_neg (PX.d ha)) fun σ H Q h => red1 (f := fun x => match x with | .int i => pureM [.d (.int (-i))] | _ => stuckM) (fun fx Fz H s x d rl rp p => by
    cases rp with
    | int i => exact ⟨i, rfl, Post.retD rl (.int _) p⟩
    | _ => exact p.elim) h
def rCop (K : PySem.W.Frag) : Cop → R2
  | .eq => fun x y H Q => rEqD K x y H Q ∨ rEq x y H Q
  | .ne => fun x y H Q => rNeD K x y H Q ∨ rNe x y H Q
  | .lt => rI0 fun i j => .bl (decide (i < j))
  | .le => rI0 fun i j => .bl (decide (i ≤ j))
  | .gt => rI0 fun i j => .bl (decide (j < i))
  | .ge => rI0 fun i j => .bl (decide (j ≤ i))
  | .isN => fun x y H Q => y = .non ∧ Q (.bl (decide (x = .non))) H
  | .notN => fun x y H Q => y = .non ∧ Q (.bl (!decide (x = .non))) H
  | .inn => fun x y H Q => rInD K x y H Q ∨ rIn K false x y H Q
  | .notIn => fun x y H Q => rNotInD K x y H Q ∨ rIn K true x y H Q
  | .isB => fun x y H Q => (∃ a b, x = .bl a ∧ y = .bl b ∧ Q (.bl (decide (a = b))) H) ∨ ∃ i b, x = .int i ∧ y = .bl b ∧ Q (.bl false) H
  | .notB => fun x y H Q => (∃ a b, x = .bl a ∧ y = .bl b ∧ Q (.bl (!decide (a = b))) H) ∨ ∃ i b, x = .int i ∧ y = .bl b ∧ Q (.bl true) H
def copOf : Cop → CmpOp
  | .eq => .Eq | .ne => .NotEq | .lt => .Lt | .le => .LtE | .gt => .Gt | .ge => .GtE | .isN => .Is | .notN => .IsNot | .inn => .In | .notIn => .NotIn | .isB => .Is | .notB => .IsNot
theorem op_is_ib : OpR X (compareOp .Is) (fun x y H Q => ∃ i b, x = .int i ∧ y = .bl b ∧ Q (.bl false) H) := by
  intro pins s σ H x y v u Q I rx ry h
  obtain ⟨a, b, rfl, rfl, q⟩ := h
  obtain ⟨t, rfl⟩ := rx
  cases (show u = Value.bool b from ry)
  exact wpAny_is_other rfl (fun z => nomatch z) ⟨.bl false, H, I, rfl, q⟩
theorem op_isnot_ib : OpR X (compareOp .IsNot) (fun x y H Q => ∃ i b, x = .int i ∧ y = .bl b ∧ Q (.bl true) H) := by
  intro pins s σ H x y v u Q I rx ry h
  obtain ⟨a, b, rfl, rfl, q⟩ := h
  obtain ⟨t, rfl⟩ := rx
  cases (show u = Value.bool b from ry)
  exact wpAny_isNot_other rfl (fun z => nomatch z) ⟨.bl true, H, I, rfl, q⟩
theorem op_cop (hu : X.A.units + 65 < cLine) : ∀ o : Cop, OpR X (compareOp (copOf o)) (rCop X.K o)
  | .eq => (op_eqD (by omega)).or op_eq
  | .ne => (op_neD (by omega)).or op_ne
  | .lt => op_lt
  | .le => op_le
  | .gt => op_gt
  | .ge => op_ge
  | .isN => op_isN
  | .notN => op_notN
  | .inn => (op_inD hu).or op_in_seq
  | .notIn => (op_notInD hu).or op_notIn_seq
  | .isB => op_is_bl.or op_is_ib
  | .notB => op_isnot_bl.or op_isnot_ib
theorem Rp.non_iff {K : PySem.W.Frag} {F : Hp} {v : V} {d : D} (h : Rp K F v d) : decide (v = .non) = isNoneD d := by
  cases h <;> simp [isNoneD]
theorem cop_ok {fx : Fx} {Fz H : Hp} {σ : L2.St} {s : S} {Q : VK} {o : Cop} {x y : V} {d e : D} {k : Bool} (rl : Rel X.K fx Fz σ H s) (hx : Rq X.K Fz H x d) (hy : Rq X.K Fz H y e) (ho : cop o d e = some k)
    (p : Q (.bl k) H) : rCop X.K o x y H Q := by
  have px : Dp X.K H x d := (hx.h rl).dp (Same.refl _)
  have py : Dp X.K H y e := (hy.h rl).dp (Same.refl _)
  unfold cop at ho
  split at ho
  · cases ho; cases hx.int; cases hy.int; exact .inr ⟨rfl, by rw [dec_int]; exact p⟩
  · cases ho; cases hx.int; cases hy.int; exact .inr ⟨rfl, by rw [dec_int]; exact p⟩
  · cases ho; cases hx.str; cases hy.str; exact .inr ⟨rfl, by rw [dec_str]; exact p⟩
  · cases ho; cases hx.str; cases hy.str; exact .inr ⟨rfl, by rw [dec_str]; exact p⟩
  · split at ho
    · next h => rw [Bool.and_eq_true] at h; cases ho; exact .inl ⟨_, _, px, py, h.1, h.2, p⟩
    · cases ho
  · split at ho
    · next h => rw [Bool.and_eq_true] at h; cases ho; exact .inl ⟨_, _, px, py, h.1, h.2, p⟩
    · cases ho
  · cases ho; cases hx.int; cases hy.int; exact ⟨_, _, rfl, rfl, p⟩
  · cases ho; cases hx.int; cases hy.int; exact ⟨_, _, rfl, rfl, p⟩
  · cases ho; cases hx.int; cases hy.int; exact ⟨_, _, rfl, rfl, p⟩
  · cases ho; cases hx.int; cases hy.int; exact ⟨_, _, rfl, rfl, p⟩
  · have hy' : Rp X.K Fz y .none := hy.flat rfl
    cases hy'; cases ho
    refine ⟨rfl, ?_⟩
    rw [(hx.h rl).non_iff]
    exact p
  · have hy' : Rp X.K Fz y .none := hy.flat rfl
    cases hy'; cases ho
    refine ⟨rfl, ?_⟩
    rw [(hx.h rl).non_iff]
    exact p
  · split at ho
    · next h => rw [Bool.and_eq_true] at h; cases ho; exact .inl ⟨_, _, px, py, h.1, h.2, p⟩
    · cases ho
  · split at ho
    · next h => rw [Bool.and_eq_true] at h; cases ho; exact .inl ⟨_, _, px, py, h.1, h.2, p⟩
    · cases ho
  · split at ho
    · next h =>
      rw [Bool.and_eq_true] at h
      cases ho
      obtain ⟨a, vs, rfl, t1, r1⟩ := hy.tup
      refine .inr ⟨a, vs, rfl, .inr (sqT_mono rl.sub t1), (hx.flat h.1).flat h.1, r1.flat h.2, ?_⟩
      rw [r1.inV (hx.flat h.1) h.2 h.1]
      exact p
    · cases ho
  · split at ho
    · next h =>
      rw [Bool.and_eq_true] at h
      cases ho
      obtain ⟨a, vs, rfl, t1, r1⟩ := hy.tup
      refine .inr ⟨a, vs, rfl, .inr (sqT_mono rl.sub t1), (hx.flat h.1).flat h.1, r1.flat h.2, ?_⟩
      rw [r1.inV (hx.flat h.1) h.2 h.1]
      exact p
    · cases ho
  · cases ho; cases hx.bool; cases hy.bool; exact .inl ⟨_, _, rfl, rfl, p⟩
  · cases ho; cases hx.bool; cases hy.bool; exact .inl ⟨_, _, rfl, rfl, p⟩
  · cases ho; cases hx.int; cases hy.bool; exact .inr ⟨_, _, rfl, rfl, p⟩
  · cases ho; cases hx.int; cases hy.bool; exact .inr ⟨_, _, rfl, rfl, p⟩
  · cases ho
variable {o o' : Cop}
theorem px_cmp (hu : X.A.units + 65 < cLine) (ha : PX X W a (ev cf ia)) (hb : PX X W b (ev cf ib)) (hm : behindInMarks (copOf o) b = false) : PX X W (.Compare a [copOf o] [b] pos) (ev cf (.cmp o ia ib)) :=
  PE.imp (pe_cmpR (op_cop hu o) (PX.d ha) (PX.d hb) hm) fun σ H Q h => red2 (f := fun x y => bindM (optM (cop o x y)) fun c => pureM [.d (.bool c)]) (fun fx Fz H s x y d e rl r1 r2 p => by
    obtain ⟨v, hv, p⟩ := Post.bindO p
    exact cop_ok rl (.inl r1) (.inl r2) hv (Post.retD rl (.bl _) p)) h
theorem px_cmpL {i : Nat} (hu : X.A.units + 65 < cLine) (ha : PE X a (tVar i)) (hb : PX X W b (ev cf ib)) (hm : behindInMarks (copOf o) b = false) : PX X W (.Compare a [copOf o] [b] pos) (ev cf (.cmpL o i ib)) :=
  PE.imp (pe_cmpR (op_cop hu o) ha (PX.d hb) hm) fun σ H Q h => redV (f := fun x y => bindM (optM (cop o x y)) fun c => pureM [.d (.bool c)]) (fun fx Fz H s x y d e rl r1 r2 p => by
    obtain ⟨v, hv, p⟩ := Post.bindO p
    exact cop_ok rl r1 (.inl r2) hv (Post.retD rl (.bl _) p)) h
theorem px_cmpR {i : Nat} (hu : X.A.units + 65 < cLine) (ha : PX X W a (ev cf ia)) (hb : PE X b (tVar i)) (hm : behindInMarks (copOf o) b = false) : PX X W (.Compare a [copOf o] [b] pos) (ev cf (.cmpR o ia i)) :=
  PE.imp (pe_cmpR (op_cop hu o) (PX.d ha) hb hm) fun σ H Q h => redW (f := fun x y => bindM (optM (cop o x y)) fun c => pureM [.d (.bool c)]) (fun fx Fz H s x y d e rl r1 r2 p => by
    obtain ⟨v, hv, p⟩ := Post.bindO p
    exact cop_ok rl (.inl r1) r2 hv (Post.retD rl (.bl _) p)) h
end
end PL
set_option maxHeartbeats 1000000
namespace PL
open PySem PySem.Spec PyProof.Rows L2
abbrev evB (cf : CF) (i : IE) : M Bool := bindM (ev cf i) asC
section
variable {X : Cx} {W : WX} {cf : CF} {e a b c : Expr} {pos : Pos} {ia ib ic : IE} {o o' : Cop}
theorem asC_ok {l : List RV} {s s' : S} {k : Bool} (h : asC l s = .ok k s') : l = [.d (.bool k)] ∧ s' = s := by
  unfold asC bindM one at h
  cases l with
  | nil => cases h
  | cons r l =>
    cases l with
    | cons _ _ => cases h
    | nil =>
      cases r with
      | own _ => cases h
      | d d =>
        cases d <;> first | (cases h; exact ⟨rfl, rfl⟩) | cases h
theorem asC_exc {l : List RV} {s s' : S} {c : Str} (h : asC l s = .exc c s') : False := by
  unfold asC bindM one at h
  cases l with
  | nil => cases h
  | cons r l =>
    cases l with
    | cons _ _ => cases h
    | nil =>
      cases r with
      | own _ => cases h
      | d d => cases d <;> cases h
theorem Post.bindC {fx : Fx} {Fz : Hp} {σ : L2.St} {s : S} {Q : VK} {m : M (List RV)} {k : Bool → M (List RV)} (h : Post X.K X.mg W fx Fz σ (bindM (bindM m asC) k s) Q) :
    Post X.K X.mg W fx Fz σ (m s) fun x H1 => ∃ c Fz1 s1, x = .bl c ∧ Same Fz Fz1 ∧ Rel X.K fx Fz1 σ H1 s1 ∧ Post X.K X.mg W fx Fz1 σ (k c s1) Q := by
  unfold bindM R.bind at h
  cases e : m s with
  | ok l s1 =>
    rw [e] at h
    dsimp only at h
    cases e2 : asC l s1 with
    | ok b s2 =>
      rw [e2] at h
      obtain ⟨rfl, rfl⟩ := asC_ok e2
      intro v H' Fz' g rl rv
      have rv : Rp X.K Fz' v (.bool b) := rv
      cases rv
      exact ⟨b, Fz', s2, rfl, g, rl, Post.mono g h⟩
    | exc c s2 => exact (asC_exc e2).elim
    | stuck => rw [e2] at h; exact h.elim
  | exc c s1 => rw [e] at h; exact h
  | stuck => rw [e] at h; exact h.elim
theorem PostB.toV {fx : Fx} {Fz : Hp} {σ : L2.St} {s : S} {Q : Bool → Hp → Prop} {m : M (List RV)} (h : PostB X.K X.mg W fx Fz σ (bindM m asC s) Q) :
    Post X.K X.mg W fx Fz σ (m s) fun x H1 => ∃ c, x = .bl c ∧ Q c H1 := by
  unfold bindM R.bind at h
  cases e : m s with
  | ok l s1 =>
    rw [e] at h
    dsimp only at h
    cases e2 : asC l s1 with
    | ok b s2 =>
      rw [e2] at h
      obtain ⟨rfl, rfl⟩ := asC_ok e2
      intro v H' Fz' g rl rv
      have rv : Rp X.K Fz' v (.bool b) := rv
      cases rv
      exact ⟨b, rfl, h H' Fz' g rl⟩
    | exc c s2 => exact (asC_exc e2).elim
    | stuck => rw [e2] at h; exact h.elim
  | exc c s1 => rw [e] at h; exact h
  | stuck => rw [e] at h; exact h.elim
theorem tBo.toV {σ : L2.St} {H : Hp} {Q : Bool → Hp → Prop} {m : M (List RV)} (h : tBo X.K X.mg W (bindM m asC) σ H Q) : tI X.K X.mg W m σ H fun x H1 => ∃ c, x = .bl c ∧ Q c H1 := by
  obtain ⟨fx, Fz, s, rl, p⟩ := h
  exact ⟨fx, Fz, s, rl, PostB.toV p⟩
theorem pxt_val (h : PX X W e (ev cf ia)) (he : ∀ whole, isTrue e X.env whole = (do let v ← whole; standAt e.pos; holding [v] (truthy v))) : PXT X W e (evB cf ia) :=
  PT.imp (pt_val h he) fun σ H Q h => tBo.toV h
theorem pxt_cmp (hu : X.A.units + 65 < cLine) (ha : PX X W a (ev cf ia)) (hb : PX X W b (ev cf ib)) (hm : behindInMarks (copOf o) b = false) : PXT X W (.Compare a [copOf o] [b] pos) (evB cf (.cmp o ia ib)) :=
  PT.imp (pt_cmpR (op_cop hu o) (PX.d ha) (PX.d hb) hm) fun σ H Q h => red2 (f := fun x y => bindM (optM (cop o x y)) fun c => pureM [.d (.bool c)]) (fun fx Fz H s x y d e rl r1 r2 p => by
    obtain ⟨v, hv, p⟩ := Post.bindO p
    exact cop_ok rl (.inl r1) (.inl r2) hv (Post.retD rl (.bl _) p)) (tBo.toV h)
theorem pxt_cmpL {i : Nat} (hu : X.A.units + 65 < cLine) (ha : PE X a (tVar i)) (hb : PX X W b (ev cf ib)) (hm : behindInMarks (copOf o) b = false) : PXT X W (.Compare a [copOf o] [b] pos) (evB cf (.cmpL o i ib)) :=
  PT.imp (pt_cmpR (op_cop hu o) ha (PX.d hb) hm) fun σ H Q h => redV (f := fun x y => bindM (optM (cop o x y)) fun c => pureM [.d (.bool c)]) (fun fx Fz H s x y d e rl r1 r2 p => by
    obtain ⟨v, hv, p⟩ := Post.bindO p
    exact cop_ok rl r1 (.inl r2) hv (Post.retD rl (.bl _) p)) (tBo.toV h)
theorem pxt_cmpR {i : Nat} (hu : X.A.units + 65 < cLine) (ha : PX X W a (ev cf ia)) (hb : PE X b (tVar i)) (hm : behindInMarks (copOf o) b = false) : PXT X W (.Compare a [copOf o] [b] pos) (evB cf (.cmpR o ia i)) :=
  PT.imp (pt_cmpR (op_cop hu o) (PX.d ha) hb hm) fun σ H Q h => redW (f := fun x y => bindM (optM (cop o x y)) fun c => pureM [.d (.bool c)]) (fun fx Fz H s x y d e rl r1 r2 p => by
    obtain ⟨v, hv, p⟩ := Post.bindO p
    exact cop_ok rl (.inl r1) r2 hv (Post.retD rl (.bl _) p)) (tBo.toV h)
theorem red_chain {σ : L2.St} {H : Hp} {Q : VK} (h : tI X.K X.mg W (ev cf (.chain o o' ia ib ic)) σ H Q) :
    tChain (rCop X.K o) (rCop X.K o') (tD X.K X.mg W (one1 (ev cf ia))) (tD X.K X.mg W (one1 (ev cf ib))) (tD X.K X.mg W (one1 (ev cf ic))) σ H Q := by
  refine red2 (f := fun x y => bindM (optM (cop o x y)) fun k => match k with
    | true => bindM (one1 (ev cf ic)) fun z => bindM (optM (cop o' y z)) fun k' => pureM [.d (.bool k')]
    | false => pureM [.d (.bool false)]) (fun fx Fz H s x y d e rl r1 r2 p => ?_) h
  obtain ⟨k, hk, p⟩ := Post.bindO p
  refine cop_ok rl (.inl r1) (.inl r2) hk ⟨k, rfl, ?_⟩
  cases k with
  | true =>
    rw [if_pos rfl]
    refine ⟨fx, Fz, s, rl, ?_⟩
    have q := Post.bindD p
    cases e : one1 (ev cf ic) s with
    | ok d' s1 =>
      rw [e] at q
      intro v H2 F1 g1 rl1 rp1
      obtain ⟨F2, s2, d2, g2, rl2, rp2, e2, p2⟩ := q v H2 F1 g1 rl1 rp1
      obtain ⟨k', hk', p2⟩ := Post.bindO p2
      exact cop_ok rl2 (.inl (r2.mono g2)) (.inl rp2) hk' (Post.retD rl2 (.bl _) p2)
    | exc c s1 => rw [e] at q; exact q
    | stuck => rw [e] at q; exact q.elim
  | false => rw [if_neg Bool.false_ne_true]; exact Post.retD rl (.bl _) p
theorem px_chain (hu : X.A.units + 65 < cLine) (ha : PX X W a (ev cf ia)) (hb : PX X W b (ev cf ib)) (hc : PX X W c (ev cf ic)) (hm : lastMarks [copOf o, copOf o'] [b, c] = false) : PX X W (.Compare a [copOf o, copOf o'] [b, c] pos) (ev cf (.chain o o' ia ib ic)) :=
  PE.imp (pe_chain (op_cop hu o) (op_cop hu o') (PX.d ha) (PX.d hb) (PX.d hc) hm) fun σ H Q h => red_chain h
theorem pxt_chain (hu : X.A.units + 65 < cLine) (ha : PX X W a (ev cf ia)) (hb : PX X W b (ev cf ib)) (hc : PX X W c (ev cf ic)) (hm : lastMarks [copOf o, copOf o'] [b, c] = false) : PXT X W (.Compare a [copOf o, copOf o'] [b, c] pos) (evB cf (.chain o o' ia ib ic)) :=
  PT.imp (pt_chain (op_cop hu o) (op_cop hu o') (PX.d ha) (PX.d hb) (PX.d hc) hm) fun σ H Q h => red_chain (tBo.toV h)
theorem px_not (ha : PX X W a (ev cf ia)) : PX X W (.UnaryOp .Not a pos) (ev cf (.not ia)) :=
  PE.imp (pe_not ha) fun σ H Q ⟨fx, Fz, s, rl, p⟩ => ⟨fx, Fz, s, rl, by
    have q := Post.bindC (k := fun b => pureM [.d (.bool !b)]) p
    cases e : ev cf ia s with
    | ok l s1 =>
      rw [e] at q
      cases l with
      | nil => exact q.elim
      | cons r l =>
        cases l with
        | cons _ _ => exact q.elim
        | nil =>
          intro v H' Fz' g rl' rv
          obtain ⟨c, F1, s1, rfl, g1, rl1, p1⟩ := q v H' Fz' g rl' rv
          exact ⟨c, rfl, Post.retD rl1 (.bl _) p1⟩
    | exc c s1 => rw [e] at q; exact q
    | stuck => rw [e] at q; exact q.elim⟩
theorem Post.imp {fx : Fx} {Fz : Hp} {σ : L2.St} {res : R (List RV)} {Q Q' : VK} (h : Post X.K X.mg W fx Fz σ res Q) (i : ∀ v H', Q v H' → Q' v H') : Post X.K X.mg W fx Fz σ res Q' := by
  cases res with
  | ok l s' =>
    cases l with
    | nil => exact h
    | cons r l =>
      cases l with
      | nil => exact fun v H' Fz' g rl rv => i v H' (h v H' Fz' g rl rv)
      | cons _ _ => exact h
  | exc c s' => exact h
  | stuck => exact h
theorem px_and {rest : List Expr} (ha : PX X W a (ev cf ia)) (hb : PX X W (.BoolOp .And (b :: rest) pos) (ev cf ib)) : PX X W (.BoolOp .And (a :: b :: rest) pos) (ev cf (.and ia ib)) :=
  PE.imp (pe_and ha hb) fun σ H Q ⟨fx, Fz, s, rl, p⟩ => ⟨fx, Fz, s, rl, Post.imp (Post.bindC (k := fun c => match c with | true => ev cf ib | false => pureM [.d (.bool false)]) p) fun v H' ⟨c, F1, s1, e, g1, rl1, p1⟩ => ⟨c, e, by
    cases c with
    | true => exact iteT ⟨fx, F1, s1, rl1, p1⟩
    | false => exact iteF (Post.retD rl1 (.bl _) p1)⟩⟩
theorem px_or {rest : List Expr} (ha : PX X W a (ev cf ia)) (hb : PX X W (.BoolOp .Or (b :: rest) pos) (ev cf ib)) : PX X W (.BoolOp .Or (a :: b :: rest) pos) (ev cf (.or ia ib)) :=
  PE.imp (pe_or ha hb) fun σ H Q ⟨fx, Fz, s, rl, p⟩ => ⟨fx, Fz, s, rl, Post.imp (Post.bindC (k := fun c => match c with | true => pureM [.d (.bool true)] | false => ev cf ib) p) fun v H' ⟨c, F1, s1, e, g1, rl1, p1⟩ => ⟨c, e, by
    cases c with
    | true => exact iteT (Post.retD rl1 (.bl _) p1)
    | false => exact iteF ⟨fx, F1, s1, rl1, p1⟩⟩⟩
theorem px_one {op : BoolOp} (ha : PX X W a (ev cf ia)) : PX X W (.BoolOp op [a] pos) (ev cf ia) := pe_one ha
theorem PostB.bindC {fx : Fx} {Fz : Hp} {σ : L2.St} {s : S} {Q : VK} {m : M Bool} {k : Bool → M (List RV)} (h : Post X.K X.mg W fx Fz σ (bindM m k s) Q) :
    PostB X.K X.mg W fx Fz σ (m s) fun c H1 => ∃ Fz1 s1, Same Fz Fz1 ∧ Rel X.K fx Fz1 σ H1 s1 ∧ Post X.K X.mg W fx Fz1 σ (k c s1) Q := by
  unfold bindM R.bind at h
  cases e : m s with
  | ok b s1 =>
    rw [e] at h
    exact fun H' Fz' g rl => ⟨Fz', s1, g, rl, Post.mono g h⟩
  | exc c s1 => rw [e] at h; exact h
  | stuck => rw [e] at h; exact h.elim
theorem PostB.imp {fx : Fx} {Fz : Hp} {σ : L2.St} {res : R Bool} {Q Q' : Bool → Hp → Prop} (h : PostB X.K X.mg W fx Fz σ res Q) (i : ∀ v H', Q v H' → Q' v H') : PostB X.K X.mg W fx Fz σ res Q' := by
  cases res with
  | ok l s' => exact fun H' Fz' g rl => i l H' (h H' Fz' g rl)
  | exc c s' => exact h
  | stuck => exact h
theorem px_ife {t : Expr} {it : IE} (ht : PXT X W t (evB cf it)) (ha : PX X W a (ev cf ia)) (hb : PX X W b (ev cf ib)) : PX X W (.IfExp t a b pos) (ev cf (.ife it ia ib)) :=
  PE.imp (pe_ifExp ht ha hb) fun σ H Q ⟨fx, Fz, s, rl, p⟩ => ⟨fx, Fz, s, rl, PostB.imp (PostB.bindC (m := evB cf it) (k := fun c => match c with | true => ev cf ia | false => ev cf ib) p) fun c H' ⟨F1, s1, g1, rl1, p1⟩ => by
    cases c with
    | true => exact iteT ⟨fx, F1, s1, rl1, p1⟩
    | false => exact iteF ⟨fx, F1, s1, rl1, p1⟩⟩
abbrev PXW (X : Cx) (W : WX) (e : Expr) (m : M Bool) : Prop := PW X e (tBo X.K X.mg W m)
theorem PW.imp {X : Cx} {e : Expr} {t t' : TT} (h : PW X e t) (i : ∀ σ H Q, t' σ H Q → t σ H Q) : PW X e t' := ⟨fun wh pins s σ H Q I q => h.run wh pins s σ H Q I (i σ H Q q)⟩
theorem pxt_not (ha : PXT X W a (evB cf ia)) : PXT X W (.UnaryOp .Not a pos) (evB cf (.not ia)) :=
  PT.imp (pt_not ha) fun σ H Q ⟨fx, Fz, s, rl, p⟩ => ⟨fx, Fz, s, rl, by
    have p : PostB X.K X.mg W fx Fz σ (bindM (bindM (evB cf ia) fun b => pureM [.d (.bool !b)]) asC s) Q := p
    unfold bindM at p
    show PostB X.K X.mg W fx Fz σ (bindM (ev cf ia) asC s) _
    cases e : bindM (ev cf ia) asC s with
    | ok b s1 =>
      unfold bindM at e
      unfold evB bindM at p
      rw [e] at p
      exact p
    | exc c s1 =>
      unfold bindM at e
      unfold evB bindM at p
      rw [e] at p
      exact p
    | stuck =>
      unfold bindM at e
      unfold evB bindM at p
      rw [e] at p
      exact p.elim⟩
theorem evB_and (s : S) : evB cf (.and ia ib) s = bindM (evB cf ia) (fun c => match c with | true => evB cf ib | false => pureM false) s := by
  show bindM (bindM (bindM (ev cf ia) asC) fun c => match c with | true => ev cf ib | false => pureM [.d (.bool false)]) asC s = _
  unfold evB
  unfold bindM
  cases e : ((ev cf ia s).bind asC) with
  | ok b s1 => cases b <;> rfl
  | exc c s1 => rfl
  | stuck => rfl
theorem evB_or (s : S) : evB cf (.or ia ib) s = bindM (evB cf ia) (fun c => match c with | true => pureM true | false => evB cf ib) s := by
  show bindM (bindM (bindM (ev cf ia) asC) fun c => match c with | true => pureM [.d (.bool true)] | false => ev cf ib) asC s = _
  unfold evB
  unfold bindM
  cases e : ((ev cf ia s).bind asC) with
  | ok b s1 => cases b <;> rfl
  | exc c s1 => rfl
  | stuck => rfl
theorem PostB.bindBB {fx : Fx} {Fz : Hp} {σ : L2.St} {s : S} {Q : Bool → Hp → Prop} {m : M Bool} {k : Bool → M Bool} (h : PostB X.K X.mg W fx Fz σ (bindM m k s) Q) :
    PostB X.K X.mg W fx Fz σ (m s) fun c H1 => ∃ Fz1 s1, Same Fz Fz1 ∧ Rel X.K fx Fz1 σ H1 s1 ∧ PostB X.K X.mg W fx Fz1 σ (k c s1) Q := by
  unfold bindM R.bind at h
  cases e : m s with
  | ok b s1 =>
    rw [e] at h
    refine fun H' Fz' g rl => ⟨Fz', s1, g, rl, ?_⟩
    dsimp only at h
    cases e2 : k b s1 with
    | ok b2 s2 => rw [e2] at h; exact fun H2 F2 g2 rl2 => h H2 F2 (g.trans g2) rl2
    | exc c s2 => rw [e2] at h; exact PostX.mono g h
    | stuck => rw [e2] at h; exact h.elim
  | exc c s1 => rw [e] at h; exact h
  | stuck => rw [e] at h; exact h.elim
theorem pxw_and1 (ha : PXT X W a (evB cf ia)) : PXW X W (.BoolOp .And [a] pos) (evB cf ia) := pw_and1 ha
theorem pxw_or1 (ha : PXT X W a (evB cf ia)) : PXW X W (.BoolOp .Or [a] pos) (evB cf ia) := pw_or1 ha
theorem pxw_and {rest : List Expr} (ha : PXT X W a (evB cf ia)) (hb : PXW X W (.BoolOp .And (b :: rest) pos) (evB cf ib)) : PXW X W (.BoolOp .And (a :: b :: rest) pos) (evB cf (.and ia ib)) :=
  PW.imp (pw_and ha hb) fun σ H Q ⟨fx, Fz, s, rl, p⟩ => ⟨fx, Fz, s, rl, by
    rw [evB_and] at p
    refine PostB.imp (PostB.bindBB p) fun c H' ⟨F1, s1, g1, rl1, p1⟩ => ?_
    cases c with
    | true => exact iteT ⟨fx, F1, s1, rl1, p1⟩
    | false => exact iteF (p1 H' F1 (Same.refl _) rl1)⟩
theorem pxw_or {rest : List Expr} (ha : PXT X W a (evB cf ia)) (hb : PXW X W (.BoolOp .Or (b :: rest) pos) (evB cf ib)) : PXW X W (.BoolOp .Or (a :: b :: rest) pos) (evB cf (.or ia ib)) :=
  PW.imp (pw_or ha hb) fun σ H Q ⟨fx, Fz, s, rl, p⟩ => ⟨fx, Fz, s, rl, by
    rw [evB_or] at p
    refine PostB.imp (PostB.bindBB p) fun c H' ⟨F1, s1, g1, rl1, p1⟩ => ?_
    cases c with
    | true => exact iteT (p1 H' F1 (Same.refl _) rl1)
    | false => exact iteF ⟨fx, F1, s1, rl1, p1⟩⟩
theorem ix_ok {fx : Fx} {Fz H : Hp} {σ : L2.St} {s : S} {Q : VK} {x y : V} {d e r : D} (rl : Rel X.K fx Fz σ H s) (hx : Rq X.K Fz H x d) (hy : Rq X.K Fz H y e) (ho : ixD d e = some r)
    (p : Post X.K X.mg W fx Fz σ (pureM [.d r] s) Q) : rIx X.K x y H Q := by
  unfold ixD at ho
  split at ho
  · cases hy.int
    obtain ⟨a, vs, rfl, t1, r1⟩ := hx.lst rl
    obtain ⟨v, h1, h2⟩ := r1.atI ho
    exact .inl ⟨a, vs, _, v, rfl, rfl, SqL.of t1, h1, Post.retD rl h2 p⟩
  · cases hy.int
    obtain ⟨a, vs, rfl, t1, r1⟩ := hx.tup
    obtain ⟨v, h1, h2⟩ := r1.atI ho
    exact .inr (.inl ⟨a, vs, _, v, rfl, rfl, sqT_mono rl.sub t1, h1, Post.retD rl h2 p⟩)
  · cases ho
theorem px_ix (ha : PX X W a (ev cf ia)) (hb : PX X W b (ev cf ib)) (hs : PlainIx b) : PX X W (.Subscript a b pos) (ev cf (.ix ia ib)) :=
  PE.imp (pe_ix ix_seq (PX.d ha) (PX.d hb) hs) fun σ H Q h => red2 (f := fun x y => bindM (optM (ixD x y)) fun d => pureM [.d d]) (fun fx Fz H s x y d e rl r1 r2 p => by
    obtain ⟨v, hv, p⟩ := Post.bindO p
    exact ix_ok rl (.inl r1) (.inl r2) hv p) h
theorem px_ixB {i : Nat} (ha : PE X a (tVar i)) (hb : PX X W b (ev cf ib)) (hs : PlainIx b) : PX X W (.Subscript a b pos) (ev cf (.ixB i ib)) :=
  PE.imp (pe_ix ix_seq ha (PX.d hb) hs) fun σ H Q h => redV (f := fun x y => bindM (optM (ixD x y)) fun d => pureM [.d d]) (fun fx Fz H s x y d e rl r1 r2 p => by
    obtain ⟨v, hv, p⟩ := Post.bindO p
    exact ix_ok rl r1 (.inl r2) hv p) h
def tOpt (K : PySem.W.Frag) (mg : Str → Option Value) (W : WX) (m : M (Option Int)) : TO := fun σ H Q => ∃ fx Fz s, Rel K fx Fz σ H s ∧ (match m s with
  | .ok o s' => ∀ H' Fz', Same Fz Fz' → Rel K fx Fz' σ H' s' → Q o H'
  | .exc c s' => PostX K mg W fx Fz σ c s'
  | .stuck => False)
theorem PO.imp {X : Cx} {e : Option Expr} {t t' : TO} (h : PO X e t) (i : ∀ σ H Q, t' σ H Q → t σ H Q) : PO X e t' := ⟨fun pins s σ H Q I q => h.run pins s σ H Q I (i σ H Q q)⟩
abbrev PXO (X : Cx) (W : WX) (e : Option Expr) (m : M (Option Int)) : Prop := PO X e (tOpt X.K X.mg W m)
end
end PL
set_option maxHeartbeats 1000000
namespace PL
open PySem PySem.Spec PyProof.Rows L2
section
variable {X : Cx} {W : WX} {cf : CF} {e a b c : Expr} {pos p2 : Pos} {ia ib ic il ih : IE} {o o' : Cop} {bl bh : Bool}
theorem pxo_none {m : M (List RV)} : PXO X W none (partB false m) := PO.imp po_none fun σ H Q ⟨fx, Fz, s, rl, p⟩ => p H Fz (Same.refl _) rl
theorem part_ok {l : List RV} {s s' : S} {o : Option Int} (h : part l s = .ok o s') : ∃ i, l = [.d (.int i)] ∧ o = some i ∧ s' = s := by
  unfold part at h
  split at h
  · cases h; exact ⟨_, rfl, rfl, rfl⟩
  · cases h
theorem part_exc {l : List RV} {s s' : S} {c : Str} (h : part l s = .exc c s') : False := by
  unfold part at h
  split at h <;> cases h
theorem pxo_some (h : PX X W e (ev cf ia)) : PXO X W (some e) (partB true (ev cf ia)) := PO.imp (po_some h) fun σ H Q ⟨fx, Fz, s, rl, p⟩ => ⟨fx, Fz, s, rl, by
  unfold partB bindM R.bind at p
  dsimp only at p
  cases e1 : ev cf ia s with
  | ok l s1 =>
    rw [e1] at p
    dsimp only at p
    cases e2 : part l s1 with
    | ok o s2 =>
      rw [e2] at p
      obtain ⟨i, rfl, rfl, rfl⟩ := part_ok e2
      intro v H' Fz' g rl' rv
      have rv : Rp X.K Fz' v (.int i) := rv
      cases rv
      exact ⟨_, rfl, p H' Fz' g rl'⟩
    | exc c s2 => exact (part_exc e2).elim
    | stuck => rw [e2] at p; exact p.elim
  | exc c s1 => rw [e1] at p; exact p
  | stuck => rw [e1] at p; exact p.elim⟩
theorem Post.bindP {fx : Fx} {Fz H : Hp} {σ : L2.St} {s : S} {Q : VK} {m : M (Option Int)} {f : Option Int → M (List RV)} {Rr : Option Int → Hp → Prop} (rl : Rel X.K fx Fz σ H s) (h : Post X.K X.mg W fx Fz σ (bindM m f s) Q)
    (hr : ∀ Fz1 H1 s1 o, Same Fz Fz1 → Rel X.K fx Fz1 σ H1 s1 → Post X.K X.mg W fx Fz1 σ (f o s1) Q → Rr o H1) : tOpt X.K X.mg W m σ H Rr := by
  refine ⟨fx, Fz, s, rl, ?_⟩
  unfold bindM R.bind at h
  cases e : m s with
  | ok o s1 =>
    rw [e] at h
    exact fun H' Fz' g rl' => hr Fz' H' s1 o g rl' (Post.mono g h)
  | exc c s1 => rw [e] at h; exact h
  | stuck => rw [e] at h; exact h.elim
def rSl (K : PySem.W.Frag) : V → Option Int → Option Int → Hp → VK → Prop := fun x lo hi H Q => rSlL K x lo hi H Q ∨ rSlA K x lo hi H Q
theorem sl_any : SlR X (rSl X.K) := sl_list.or sl_tupA
theorem cutV_all {xs : List V} {lo hi : Option Int} (h : HT.sIx xs.length 0 lo = 0 ∧ HT.sIx xs.length xs.length hi = xs.length) : cutV xs lo hi = xs := by
  unfold cutV
  rw [h.1, h.2]
  simp
theorem sl_ok {fx : Fx} {Fz H : Hp} {σ : L2.St} {s : S} {Q : VK} {x : V} {d : D} {lo hi : Option Int} {r : RV} (rl : Rel X.K fx Fz σ H s) (hx : Rq X.K Fz H x d) (ho : slcD d lo hi = some r)
    (p : Post X.K X.mg W fx Fz σ (pureM [r] s) Q) : rSl X.K x lo hi H Q := by
  unfold slcD at ho
  split at ho
  · cases ho
    obtain ⟨a, vs, rfl, t1, r1⟩ := hx.lst rl
    refine .inl ⟨a, vs, rfl, SqL.of t1, fun q hq => ?_⟩
    obtain ⟨rl', rv⟩ := rl.layOwn hq (r1.cut lo hi)
    exact Post.ret rl' rv p
  · cases ho
    obtain ⟨a, vs, rfl, t1, r1⟩ := hx.tup
    refine .inr ⟨a, vs, rfl, sqT_mono rl.sub t1, fun z => ?_, fun z q hq => ?_⟩
    · have r2 := r1.cut lo hi
      rw [cutV_all z] at r2
      exact Post.retD rl (.tup t1 r2) p
    · obtain ⟨g, rl'⟩ := rl.lay (o := .tup (cutV vs lo hi)) hq
      exact Post.retD rl' (.tup (.inl (.inl upd_same)) ((r1.cut lo hi).mono g)) (Post.mono g p)
  · cases ho
variable {lo hi : Option Expr}
theorem px_slc (ha : PX X W a (ev cf ia)) (hl : PXO X W lo (partB bl (ev cf il))) (hh : PXO X W hi (partB bh (ev cf ih))) : PX X W (.Subscript a (.Slice lo hi none p2) pos) (ev cf (.slc bl bh ia il ih)) :=
  PE.imp (pe_slice sl_any (PX.d ha) hl hh) fun σ H Q h => red1 (f := fun x => bindM (partB bl (ev cf il)) fun l => bindM (partB bh (ev cf ih)) fun h => bindM (optM (slcD x l h)) fun r => pureM [r]) (fun fx Fz H s x d rl rp p =>
    Post.bindP rl p fun F1 H1 s1 l g1 rl1 p1 => Post.bindP rl1 p1 fun F2 H2 s2 h g2 rl2 p2 => by
      obtain ⟨r, hr, p3⟩ := Post.bindO p2
      exact sl_ok rl2 (.inl (rp.mono (g1.trans g2))) hr p3) h
theorem px_slcB {i : Nat} (ha : PE X a (tVar i)) (hl : PXO X W lo (partB bl (ev cf il))) (hh : PXO X W hi (partB bh (ev cf ih))) : PX X W (.Subscript a (.Slice lo hi none p2) pos) (ev cf (.slcB bl bh i il ih)) :=
  PE.imp (pe_slice sl_any ha hl hh) fun σ H Q ⟨fx, Fz, s, rl, p⟩ => by
    obtain ⟨d, v, h1, h2, p⟩ := Post.peekQ rl p
    refine ⟨v, h1, Post.bindP rl p fun F1 H1 s1 l g1 rl1 p1 => Post.bindP rl1 p1 fun F2 H2 s2 h g2 rl2 p2 => ?_⟩
    obtain ⟨d', v', k1, k2, p3⟩ := Post.peekQ rl2 p2
    rw [h1] at k1; cases k1
    obtain ⟨r, hr, p4⟩ := Post.bindO p3
    exact sl_ok rl2 k2 hr p4
def rBlt (X : Cx) : Blt → List V → Hp → VK → Prop
  | .len => fun xs H Q => (∃ p ys, xs = [.ref p] ∧ (SqL X.K H p ys ∨ SqT X.K H p ys) ∧ Q (.int ys.length) H) ∨ ∃ z, xs = [.str z] ∧ z.length ≤ sizeLine ∧ Q (.int z.length) H
  | .all => rAll X.K
  | .any => rAny X.K
  | .sum => rSum X.K
  | .abs => fun xs H Q => ∃ i, xs = [.int i] ∧ Q (.int (if i < 0 then -i else i)) H
  | .max2 => fun xs H Q => ∃ i j, xs = [.int i, .int j] ∧ Q (.int (if j > i then j else i)) H
  | .min2 => fun xs H Q => ∃ i j, xs = [.int i, .int j] ∧ Q (.int (if j < i then j else i)) H
  | .tuple => fun xs H Q => ∃ p ys, xs = [.ref p] ∧ ((SqL X.K H p ys ∧ ∀ l, H l = none → Q (.ref l) (upd H l (.tup ys))) ∨ (SqT X.K H p ys ∧ Q (.ref p) H))
  | .list => fun xs H Q => ∃ p ys, xs = [.ref p] ∧ (SqL X.K H p ys ∨ SqT X.K H p ys) ∧ ∀ l, H l = none → Q (.ref l) (upd H l (.lst ys))
def bltName : Blt → Str
  | .len => "len" | .all => "all" | .any => "any" | .sum => "sum" | .abs => "abs" | .max2 => "max" | .min2 => "min" | .tuple => "tuple" | .list => "list"
theorem pe_blt (hc : X.calm = true) {k : Blt} {x : Str} {p : Pos} {es : List Expr} {t : TA} (hx : x = bltName k) (hg : Gl X x) (hm : X.mg x = none) (ha : PA X (e :: es) t)
    (he : starEach (e :: es) X.env = (false, eval e X.env) :: starEach es X.env) (hpl : (backTo pos (starEach es X.env)).any (·.1) = false) : PE X (.Call (.Name x p) (e :: es) [] pos) (tCB (rBlt X k) t) := by
  subst hx
  cases k with
  | len => exact pe_callB (call_len_seq.or call_len_str) hg hm PySem.boot_len ha (by decide +kernel) (by decide +kernel) he hpl
  | all => exact pe_callB (cr_all hc) hg hm (by decide +kernel) ha (by decide +kernel) (by decide +kernel) he hpl
  | any => exact pe_callB (cr_any hc) hg hm (by decide +kernel) ha (by decide +kernel) (by decide +kernel) he hpl
  | sum => exact pe_callB (cr_sum hc) hg hm (by decide +kernel) ha (by decide +kernel) (by decide +kernel) he hpl
  | abs => exact pe_callB call_abs hg hm (by decide +kernel) ha (by decide +kernel) (by decide +kernel) he hpl
  | max2 => exact pe_callB (call_max2 hc) hg hm (by decide +kernel) ha (by decide +kernel) (by decide +kernel) he hpl
  | min2 => exact pe_callB (call_min2 hc) hg hm (by decide +kernel) ha (by decide +kernel) (by decide +kernel) he hpl
  | tuple => exact pe_callTy call_tuple_of hg hm (by decide +kernel) ha (by decide +kernel) (by decide +kernel) he hpl
  | list => exact pe_callTy call_list_of hg hm (by decide +kernel) ha (by decide +kernel) (by decide +kernel) he hpl
theorem blt_ok {fx : Fx} {Fz H : Hp} {σ : L2.St} {s : S} {Q : VK} {k : Blt} {xs : List V} {ds : List D} {r : RV} (rl : Rel X.K fx Fz σ H s) (hx : Paired (Rq X.K Fz H) xs ds) (ho : blt k ds = some r)
    (p : Post X.K X.mg W fx Fz σ (pureM [r] s) Q) : rBlt X k xs H Q := by
  unfold blt at ho
  split at ho
  · cases ho; cases hx with | cons h1 t => cases t; obtain ⟨a, vs, rfl, t1, r1⟩ := h1.lst rl; exact .inl ⟨a, vs, rfl, .inl (SqL.of t1), by rw [r1.length]; exact Post.retD rl (.int _) p⟩
  · cases ho; cases hx with | cons h1 t => cases t; obtain ⟨a, vs, rfl, t1, r1⟩ := h1.tup; exact .inl ⟨a, vs, rfl, .inr (sqT_mono rl.sub t1), by rw [r1.length]; exact Post.retD rl (.int _) p⟩
  · split at ho
    · next hl => cases ho; cases hx with | cons h1 t => cases t; cases h1.str; exact .inr ⟨_, rfl, len_le hl, Post.retD rl (.int _) p⟩
    · cases ho
  · cases hx with | cons h1 t =>
    cases t
    obtain ⟨a, vs, rfl, t1, r1⟩ := h1.lst rl
    simp only [Option.map_eq_some_iff] at ho
    obtain ⟨bs, h2, rfl⟩ := ho
    have := r1.bools h2
    subst this
    exact ⟨a, bs, rfl, SqL.of t1, Post.retD rl (.bl _) p⟩
  · cases hx with | cons h1 t =>
    cases t
    obtain ⟨a, vs, rfl, t1, r1⟩ := h1.lst rl
    simp only [Option.map_eq_some_iff] at ho
    obtain ⟨bs, h2, rfl⟩ := ho
    have := r1.bools h2
    subst this
    exact ⟨a, bs, rfl, SqL.of t1, Post.retD rl (.bl _) p⟩
  · cases hx with | cons h1 t =>
    cases t
    obtain ⟨a, vs, rfl, t1, r1⟩ := h1.lst rl
    simp only [Option.map_eq_some_iff] at ho
    obtain ⟨bs, h2, rfl⟩ := ho
    have := r1.intl h2
    subst this
    exact ⟨a, bs, rfl, SqL.of t1, Post.retD rl (.int _) p⟩
  · cases ho; cases hx with | cons h1 t => cases t; cases h1.int; exact ⟨_, rfl, Post.retD rl (.int _) p⟩
  · cases ho; cases hx with | cons h1 t => cases t with | cons h2 t => cases t; cases h1.int; cases h2.int; exact ⟨_, _, rfl, Post.retD rl (.int _) p⟩
  · cases ho; cases hx with | cons h1 t => cases t with | cons h2 t => cases t; cases h1.int; cases h2.int; exact ⟨_, _, rfl, Post.retD rl (.int _) p⟩
  · cases ho; cases hx with | cons h1 t =>
    cases t
    obtain ⟨a, vs, rfl, t1, r1⟩ := h1.lst rl
    refine ⟨a, vs, rfl, .inl ⟨SqL.of t1, fun q hq => ?_⟩⟩
    obtain ⟨g, rl'⟩ := rl.lay (o := .tup vs) hq
    exact Post.retD rl' (.tup (.inl (.inl upd_same)) (r1.mono g)) (Post.mono g p)
  · cases ho; cases hx with | cons h1 t =>
    cases t
    obtain ⟨a, vs, rfl, t1, r1⟩ := h1.tup
    exact ⟨a, vs, rfl, .inr ⟨sqT_mono rl.sub t1, Post.retD rl (.tup t1 r1) p⟩⟩
  · cases ho; cases hx with | cons h1 t =>
    cases t
    obtain ⟨a, vs, rfl, t1, r1⟩ := h1.lst rl
    refine ⟨a, vs, rfl, .inl (SqL.of t1), fun q hq => ?_⟩
    obtain ⟨rl', rv⟩ := rl.layOwn hq r1
    exact Post.ret rl' rv p
  · cases ho; cases hx with | cons h1 t =>
    cases t
    obtain ⟨a, vs, rfl, t1, r1⟩ := h1.tup
    refine ⟨a, vs, rfl, .inr (sqT_mono rl.sub t1), fun q hq => ?_⟩
    obtain ⟨rl', rv⟩ := rl.layOwn hq r1
    exact Post.ret rl' rv p
  · cases ho
theorem Rps.q {K : PySem.W.Frag} {Fz H : Hp} : ∀ {vs : List V} {ds : List D}, Rps K Fz vs ds → Paired (Rq K Fz H) vs ds
  | _, _, .nil => .nil
  | _, _, .cons h t => .cons (.inl h) (Rps.q t)
theorem px_blt (hc : X.calm = true) {k : Blt} {x : Str} {p : Pos} {es : List Expr} (hx : x = bltName k) (hg : Gl X x) (hm : X.mg x = none) (ha : PXA X W (e :: es) (ev cf ia))
    (he : starEach (e :: es) X.env = (false, eval e X.env) :: starEach es X.env) (hpl : (backTo pos (starEach es X.env)).any (·.1) = false) : PX X W (.Call (.Name x p) (e :: es) [] pos) (ev cf (.blt k ia)) :=
  PE.imp (pe_blt hc hx hg hm ha he hpl) fun σ H Q h => redA (f := fun xs => bindM (optM (blt k (xs.map RV.toD))) fun r => pureM [r]) (fun fx Fz H s xs rs rl rp p => by
    obtain ⟨r, hr, p⟩ := Post.bindO p
    exact blt_ok rl rp.q hr p) h
theorem px_bltB (hc : X.calm = true) {k : Blt} {x : Str} {p : Pos} {i : Nat} (hx : x = bltName k) (hg : Gl X x) (hm : X.mg x = none) (ha : PE X e (tVar i))
    (he : starEach [e] X.env = [(false, eval e X.env)]) : PX X W (.Call (.Name x p) [e] [] pos) (ev cf (.bltB k i)) :=
  PE.imp (pe_blt hc hx hg hm (pa_cons ha pa_nil he) he rfl) fun σ H Q ⟨fx, Fz, s, rl, p⟩ => by
    obtain ⟨d, v, h1, h2, p⟩ := Post.peekQ rl p
    obtain ⟨r, hr, p⟩ := Post.bindO p
    exact ⟨v, h1, blt_ok rl (.cons h2 .nil) hr p⟩
def tyN : Ty → String
  | .int => "int" | .bool => "bool" | .str => "str" | .tuple => "tuple" | .list => "list"
theorem Rp.ty {K : PySem.W.Frag} {H : Hp} {v : V} {d : D} (h : Rp K H v d) : ∃ T : String, TyX K H v (.type T) ∧ ∀ t b, isiD d t = some b → kitB T (tyN t) = some b := by
  cases h with
  | non => exact ⟨"NoneType", .base .non, fun t b h => by cases t <;> (cases h; decide +kernel)⟩
  | bl k => exact ⟨"bool", .base (.bl _), fun t b h => by cases t <;> (cases h; decide +kernel)⟩
  | int k => exact ⟨"int", .base (.int _), fun t b h => by cases t <;> (cases h; decide +kernel)⟩
  | str k => exact ⟨"str", .base (.str _), fun t b h => by cases t <;> (cases h; decide +kernel)⟩
  | lst h1 h2 => exact ⟨"list", .base (.lst h1), fun t b h => by cases t <;> (cases h; decide +kernel)⟩
  | tup h1 h2 =>
    refine ⟨"tuple", ?_, fun t b h => by cases t <;> (cases h; decide +kernel)⟩
    rcases h1 with (h1 | ⟨o, h1⟩) | ⟨o, its, n, h1, h2, _⟩
    · exact .base (.tup h1)
    · exact .fTuple h1
    · exact .kTuple h1 h2
theorem px_isi {x y : Str} {p p' : Pos} {t : Ty} (hx : x = "isinstance") (hg : Gl X x) (hm : X.mg x = none) (hg' : Gl X y) (hm' : X.mg y = none) (hv : bootBuiltins y = some (.type (tyN t))) (hn : y ≠ "__name__") (hd : (y == ("__debug__" : Str)) = false) (ha : PX X W a (ev cf ia))
    (he : starEach [a, .Name y p'] X.env = (false, eval a X.env) :: starEach [.Name y p'] X.env) : PX X W (.Call (.Name x p) [a, .Name y p'] [] pos) (ev cf (.isi ia t)) := by
  subst hx
  have hc : PE X (.Name y p') (tC (.ty (tyN t))) := pe_bltn hg' hm' hv rfl hn hd
  refine PE.imp (pe_callB call_isi hg hm (by decide +kernel) (pa_cons (PX.d ha) (pa_cons hc pa_nil rfl) he) (by decide +kernel) (by decide +kernel) he rfl) fun σ H Q h => ?_
  refine red1 (f := fun x => bindM (optM (isiD x t)) fun b => pureM [.d (.bool b)]) (fun fx Fz H s x d rl rp p => ?_) h
  obtain ⟨b, hb, p⟩ := Post.bindO p
  obtain ⟨T, h1, h2⟩ := (rp.mono rl.sub).ty
  exact ⟨x, .ty (tyN t), .type T, .type (tyN t), b, rfl, .ty (tyN t), h1, kit_ty (h2 t b hb), Post.retD rl (.bl _) p⟩
end
end PL
set_option maxHeartbeats 1000000
namespace PL
open PySem PySem.Spec PyProof.Rows L2
structure After (da : Option Addr) (Fz H Fz' H' : Hp) (δ' : Int × Int) : Prop where
  sub : Same Fz' H'
  f : Same Fz Fz'
  old : ∀ b o, H b = some o → da ≠ some b → H' b = some o
  nf : ∀ b o, H b = some o → Fz b = none → Fz' b = none
  dc : ∀ a, da = some a → H' a = some (.lst [.int δ'.1, .int δ'.2])
def PostC (K : PySem.W.Frag) (mg : Str → Option Value) (da : Option Addr) (Fz H : Hp) (res : RC) (Q : VK) (E : XK) : Prop := match res with
  | .ok d δ' => ∀ v H' Fz', After da Fz H Fz' H' δ' → Rp K Fz' v d → Q v H'
  | .exc c δ' => ∀ C H' Fz', mg c = some C → After da Fz H Fz' H' δ' → E C none H'
  | .stuck => False
def spD (K : PySem.W.Frag) (mg : Str → Option Value) (F : Bool → List D → Int × Int → RC) (dc : Bool) : Sp := fun vs H Q E => ∃ (da : Option Addr) (Fz : Hp) (ds : List D) (δ : Int × Int) (ws : List V),
  (match dc with | true => ∃ a, da = some a ∧ vs = .ref a :: ws | false => da = none ∧ vs = ws ∧ δ = (0, 0)) ∧ Same Fz H ∧ (∀ a, da = some a → H a = some (.lst [.int δ.1, .int δ.2]) ∧ Fz a = none) ∧ Rps K Fz ws ds ∧
  PostC K mg da Fz H (F dc ds δ) Q E
section
variable {K : PySem.W.Frag} {fx : Fx} {Fz H Fz' H' : Hp} {σ : L2.St} {s : S} {δ' : Int × Int}
theorem Rel.H0ne (rl : Rel K fx Fz σ H s) {a b : Addr} (h : fx.da = some a) (h0 : fx.H0 b = none) : b ≠ a := fun e => by
  obtain ⟨_, ⟨o, q⟩, _⟩ := rl.dc a h
  rw [e, q] at h0; cases h0
theorem Rel.after {da : Option Addr} {δ2 : Int × Int} (rl : Rel K fx Fz σ H s) (h : After da Fz H Fz' H' δ') (hd : (da = none ∧ δ2 = s.δ) ∨ (da = fx.da ∧ δ2 = δ')) : Rel K fx Fz' σ H' { s with δ := δ2 } := by
  have nd : ∀ b, fx.da ≠ some b → da ≠ some b := fun b n e => by
    rcases hd with ⟨z, _⟩ | ⟨z, _⟩
    · rw [z] at e; cases e
    · rw [z] at e; exact n e
  refine ⟨h.sub, fun b o q n => h.old b o (rl.old b o q n) (nd b n), fun b o q => h.f _ _ (rl.f0 b o q), fun b o q n => ?_, fun a e => ?_, fun i x q => ?_, rl.ap, rl.len⟩
  · have hF := rl.nf b o q n
    by_cases e : fx.da = some b
    · exact h.nf b _ (rl.dc b e).1 hF
    · exact h.nf b o (rl.old b o q e) hF
  · obtain ⟨g1, g2⟩ := rl.dc a e
    refine ⟨?_, g2⟩
    rcases hd with ⟨z, z2⟩ | ⟨z, z2⟩
    · rw [z2]; exact h.old a _ g1 (by rw [z]; exact fun w => nomatch w)
    · rw [z2]; exact h.dc a (by rw [z]; exact e)
  · obtain ⟨v, g1, g2⟩ := rl.sl i x q
    refine ⟨v, g1, g2.mono h.f fun a vs k1 k2 k3 => ⟨h.old a _ k1 (nd a fun e => ?_), h.nf a _ k1 k2⟩⟩
    exact rl.H0ne e k3 rfl
end
section
variable {X : Cx} {W : WX} {cf : CF} {e a b c : Expr} {pos p : Pos} {ia ib ic : IE} {k : Nat} {f : Addr} {fd : FuncData} {ps : List Str} {x : Str} {es : List Expr}
theorem px_call {n : Nat} (F : FnOk X.prog X.w X.K X.mg X.base (L2.CX X.prog X.w) k f fd ps (spD X.K X.mg (cf n) false)) (hr : Room k X.A) (hg : Gl X x) (hm : X.mg x = some (.ref f)) (hk : PySem.W.keepIn X.K (.ref f) = true) (hb : Binds X.K fd ps []) (tk : Takes X W)
    (ha : PXA X W (e :: es) (ev cf ia)) (hdb : (x == ("__debug__" : Str)) = false) (he : starEach (e :: es) X.env = (false, eval e X.env) :: starEach es X.env) (hpl : (backTo pos (starEach es X.env)).any (·.1) = false) :
    PX X W (.Call (.Name x p) (e :: es) [] pos) (ev cf (.call n ia)) :=
  PE.imp (pe_callS F hr hg hm hk hb (fun σ => passAt tk σ) ha hdb he hpl) fun σ H Q h => redA (f := fun xs => fromRC0 (cf n false (xs.map RV.toD) (0, 0))) (fun fx Fz H s xs rs rl rp p => by
    refine ⟨none, Fz, rs.map RV.toD, (0, 0), xs, ⟨rfl, rfl, rfl⟩, rl.sub, (fun a z => nomatch z), rp, ?_⟩
    unfold fromRC0 at p
    cases e1 : cf n false (rs.map RV.toD) (0, 0) with
    | ok d δ' =>
      rw [e1] at p
      intro v H' F' af rv
      have rl' := rl.after (δ2 := s.δ) af (.inl ⟨rfl, rfl⟩)
      exact Post.retD (d := d) rl' rv (Post.mono af.f p)
    | exc c δ' =>
      rw [e1] at p
      intro C H' F' hc af
      exact p C H' F' hc af.f (rl.after (δ2 := s.δ) af (.inl ⟨rfl, rfl⟩))
    | stuck => rw [e1] at p; exact p.elim) h
theorem px_callD {n i : Nat} (F : FnOk X.prog X.w X.K X.mg X.base (L2.CX X.prog X.w) k f fd ps (spD X.K X.mg (cf n) true)) (hr : Room k X.A) (hg : Gl X x) (hm : X.mg x = some (.ref f)) (hk : PySem.W.keepIn X.K (.ref f) = true) (hb : Binds X.K fd ps []) (tk : Takes X W)
    (h0 : PE X e (tVar i)) (ha : PXA X W es (ev cf ia)) (hdb : (x == ("__debug__" : Str)) = false) (he : starEach (e :: es) X.env = (false, eval e X.env) :: starEach es X.env) (hpl : (backTo pos (starEach es X.env)).any (·.1) = false) :
    PX X W (.Call (.Name x p) (e :: es) [] pos) (ev cf (.callD n i ia)) :=
  PE.imp (pe_callS F hr hg hm hk hb (fun σ => passAt tk σ) (pa_cons h0 ha he) hdb he hpl) fun σ H Q h => by
    obtain ⟨fx, Fz, s, rl, p⟩ := h
    have p : Post X.K X.mg W fx Fz σ (bindM (isDice i) (fun _ => bindM (ev cf ia) fun xs s => fromRC (cf n true (xs.map RV.toD) s.δ) s) s) Q := p
    have hd : s.ρ[i]? = some (some .dice) := by
      unfold bindM R.bind isDice at p
      split at p
      · next h => split at h <;> first | assumption | cases h
      · next h => split at h <;> cases h
      · exact p.elim
    have p : Post X.K X.mg W fx Fz σ (bindM (ev cf ia) (fun xs s => fromRC (cf n true (xs.map RV.toD) s.δ) s) s) Q := by
      have e1 : isDice i s = .ok () s := by unfold isDice; rw [hd]
      unfold bindM R.bind at p
      rw [e1] at p
      exact p
    obtain ⟨v, hv, a, da, rfl⟩ := rl.sl i _ hd
    refine ⟨_, hv, fx, Fz, s, rl, ?_⟩
    have q := Post.bindA p
    cases e1 : ev cf ia s with
    | ok rs s1 =>
      rw [e1] at q
      intro vs H1 F1 g1 rl1 rps
      obtain ⟨F2, s2, rs2, g2, rl2, rps2, e2, p2⟩ := q vs H1 F1 g1 rl1 rps
      refine ⟨fx.da, F2, rs2.map RV.toD, s2.δ, vs, ⟨a, da, rfl⟩, rl2.sub, fun b hb => ⟨(rl2.dc b hb).1, rl2.dcF hb⟩, rps2, ?_⟩
      unfold fromRC at p2
      cases e3 : cf n true (rs2.map RV.toD) s2.δ with
      | ok d δ' =>
        rw [e3] at p2
        intro v H' F' af rv
        exact Post.retD (d := d) (rl2.after (δ2 := δ') af (.inr ⟨rfl, rfl⟩)) rv (Post.mono af.f p2)
      | exc c δ' =>
        rw [e3] at p2
        intro C H' F' hc af
        exact p2 C H' F' hc af.f (rl2.after (δ2 := δ') af (.inr ⟨rfl, rfl⟩))
      | stuck => rw [e3] at p2; exact p2.elim
    | exc c s1 => rw [e1] at q; exact q
    | stuck => rw [e1] at q; exact q.elim
end
end PL
set_option maxHeartbeats 1000000
namespace PL
open PySem PySem.Spec PyProof.Rows L2
def Wk (K : PySem.W.Frag) (Fz : Hp) (J : It) (ys : List D) : Prop := ∀ Fz' H', Same Fz Fz' → Same Fz' H' → ∀ i : Nat,
  (∀ d, ys[i]? = some d → J.go i H' ∧ ∀ x H'', J.yld i H' x H'' → ∃ Fz'', Same Fz' Fz'' ∧ (∀ fx σ s, Rel K fx Fz' σ H' s → Rel K fx Fz'' σ H'' s) ∧ Rp K Fz'' x d) ∧ (ys.length ≤ i → J.stop i H')
def PostI (K : PySem.W.Frag) (mg : Str → Option Value) (W : WX) (fx : Fx) (Fz : Hp) (σ : L2.St) (res : R (List D)) (Rr : It → Hp → Prop) : Prop := match res with
  | .ok ys s' => ∀ J H' Fz', Same Fz Fz' → Rel K fx Fz' σ H' s' → Wk K Fz' J ys → Rr J H'
  | .exc c s' => PostX K mg W fx Fz σ c s'
  | .stuck => False
def tIt (K : PySem.W.Frag) (mg : Str → Option Value) (W : WX) (m : M (List D)) : TI := fun σ H Rr => ∃ fx Fz s, Rel K fx Fz σ H s ∧ PostI K mg W fx Fz σ (m s) Rr
abbrev PXI (X : Cx) (W : WX) (tg it : Expr) (m : M (List D)) : Prop := PI X tg it (tIt X.K X.mg W m)
theorem PI.imp {X : Cx} {tg it : Expr} {t t' : TI} (h : PI X tg it t) (i : ∀ σ H Q, t' σ H Q → t σ H Q) : PI X tg it t' := ⟨fun pins s σ H Q I q => h.run pins s σ H Q I (i σ H Q q)⟩
section
variable {X : Cx} {W : WX} {cf : CF} {e a b c tg : Expr} {pos p : Pos} {ia ib ic : IE}
def iSeq (K : PySem.W.Frag) (tl : TE) : TI := fun σ H R => tl σ H fun x H1 => (∃ a, x = .ref a ∧ (∃ xs, SqL K H1 a xs) ∧ R (Itl K a) H1) ∨ ∃ a, x = .ref a ∧ (∃ xs, SqT K H1 a xs) ∧ R (Itt K a) H1
theorem pi_seq {l : Expr} {tl : TE} (hl : PE X l tl) : PI X tg l (iSeq X.K tl) := by
  refine ⟨fun pins s σ H R I h => ?_⟩
  refine thn (hl.run pins s σ H _ I h) fun v s1 ⟨x, H1, I1, r1, q1⟩ => ?_
  rcases q1 with ⟨a, e, ⟨xs, hq⟩, q⟩ | ⟨a, e, ⟨xs, hq⟩, q⟩
  · subst e
    cases r1
    obtain ⟨its, rv, p, hz⟩ := I1.list hq
    refine wpAny_pyIter_list p.isList ?_
    refine ⟨s1.heap.objs.size, [s1.heap.objs.size], _, _, H1, rfl, I1.kept (t' := s1.toks) fun b o e => Heap.get?_push_of_some _ e, turn_list a _, ⟨_, Heap.get?_push_size _ rfl, rfl, rfl⟩, fun b hb => ?_, q⟩
    have e : b = s1.heap.objs.size := by simpa using hb
    subst e
    exact I1.fpOk (Nat.le_refl _) (I1.hok.fresh (Nat.le_refl _))
  · subst e
    cases r1
    obtain ⟨its, rv, p, hz⟩ := I1.tuple hq
    refine wpAny_pyIter_tuple (show s1.heap.IsTuple a its.toArray from p) ?_
    refine ⟨s1.heap.objs.size, [s1.heap.objs.size], _, _, H1, rfl, I1.kept (t' := s1.toks) fun b o e => Heap.get?_push_of_some _ e, turn_tuple a _, ⟨_, Heap.get?_push_size _ rfl, rfl, rfl⟩, fun b hb => ?_, q⟩
    have e : b = s1.heap.objs.size := by simpa using hb
    subst e
    exact I1.fpOk (Nat.le_refl _) (I1.hok.fresh (Nat.le_refl _))
theorem wk_list {K : PySem.W.Frag} {Fz : Hp} {a : Addr} {vs : List V} {ys : List D} (h : Fz a = some (.lst vs)) (r : Rps K Fz vs ys) : Wk K Fz (Itl K a) ys := fun F' H' g1 g2 i => by
  have hs : SqL K H' a vs := SqL.of (g2 _ _ (g1 _ _ h))
  refine ⟨fun d hd => ?_, fun hi => ⟨vs, hs, by rw [r.length]; exact hi⟩⟩
  obtain ⟨v, h1, h2⟩ := r.get hd
  refine ⟨⟨vs, v, hs, h1⟩, fun x H'' hy => ?_⟩
  obtain ⟨rfl, hy⟩ := hy
  have := (hy vs hs).symm.trans h1
  cases this
  exact ⟨F', Same.refl _, fun _ _ _ z => z, h2.mono g1⟩
theorem wk_tup {K : PySem.W.Frag} {Fz : Hp} {a : Addr} {vs : List V} {ys : List D} (h : SqT K Fz a vs) (r : Rps K Fz vs ys) : Wk K Fz (Itt K a) ys := fun F' H' g1 g2 i => by
  have hs : SqT K H' a vs := sqT_mono g2 (sqT_mono g1 h)
  refine ⟨fun d hd => ?_, fun hi => ⟨vs, hs, by rw [r.length]; exact hi⟩⟩
  obtain ⟨v, h1, h2⟩ := r.get hd
  refine ⟨⟨vs, v, hs, h1⟩, fun x H'' hy => ?_⟩
  obtain ⟨rfl, hy⟩ := hy
  have := (hy vs hs).symm.trans h1
  cases this
  exact ⟨F', Same.refl _, fun _ _ _ z => z, h2.mono g1⟩
theorem wk_range {K : PySem.W.Frag} {Fz : Hp} {lo : Int} {n : Nat} : Wk K Fz (Itr lo n) ((List.range n).map fun (k : Nat) => .int (lo + (k : Int))) := fun F' H' g1 g2 i => by
  refine ⟨fun d hd => ?_, fun hi => by simpa [Itr] using hi⟩
  rw [List.getElem?_map] at hd
  have hi : i < n := by
    cases q : (List.range n)[i]? with
    | none => rw [q] at hd; cases hd
    | some z =>
      have := (List.getElem?_eq_some_iff.mp q).1
      simpa using this
  rw [List.getElem?_range hi] at hd
  cases hd
  refine ⟨hi, fun x H'' hy => ?_⟩
  obtain ⟨rfl, rfl⟩ := hy
  exact ⟨F', Same.refl _, fun _ _ _ z => z, .int _⟩
theorem itM_arg {k : Itk} {m : M (List RV)} {σ : L2.St} {H : Hp} {Rr : It → Hp → Prop} {R2 : List V → Hp → Prop} (h : tIt X.K X.mg W (itM k m) σ H Rr)
    (hr : ∀ fx Fz H s xs ds ys, Rel X.K fx Fz σ H s → Rps X.K Fz xs ds → itD k ds = some ys → (∀ J, Wk X.K Fz J ys → Rr J H) → R2 xs H) : tA X.K X.mg W m σ H R2 := by
  obtain ⟨fx, Fz, s, rl, p⟩ := h
  refine ⟨fx, Fz, s, rl, ?_⟩
  unfold itM bindM R.bind at p
  cases e : m s with
  | ok rs s1 =>
    rw [e] at p
    dsimp only at p
    unfold optM at p
    cases e2 : itD k (rs.map RV.toD) with
    | none => rw [e2] at p; exact p.elim
    | some ys =>
      rw [e2] at p
      intro vs H' F' g rl' rp
      exact hr fx F' H' s1 vs _ ys rl' rp e2 fun J hj => p J H' F' g rl' hj
  | exc c s1 => rw [e] at p; exact p
  | stuck => rw [e] at p; exact p.elim
theorem itD_seq {d : D} {ys : List D} (h : itD .seq [d] = some ys) : (d = .list ys ∨ d = .tuple ys) ∧ ys.length ≤ 1000000 := by
  cases d with
  | list xs =>
    simp only [itD, itSeq] at h
    by_cases q : okLen xs.length = true
    · rw [if_pos q] at h; cases h; exact ⟨.inl rfl, of_decide_eq_true q⟩
    · rw [if_neg q] at h; cases h
  | tuple xs =>
    simp only [itD, itSeq] at h
    by_cases q : okLen xs.length = true
    · rw [if_pos q] at h; cases h; exact ⟨.inr rfl, of_decide_eq_true q⟩
    · rw [if_neg q] at h; cases h
  | _ => simp [itD, itSeq] at h
theorem ev_cons_nil (s : S) : ev cf (.cons ia .nil) s = (bindM (one1 (ev cf ia)) fun d => pureM [RV.d d]) s := by
  show (bindM (ev cf ia) fun x => bindM (one x) fun r => bindM (pureM []) fun xs => pureM (RV.d r.toD :: xs)) s = _
  unfold one1 bindM
  cases e1 : ev cf ia s with
  | ok l s1 => cases l with
    | nil => rfl
    | cons r l => cases l <;> rfl
  | exc c s1 => rfl
  | stuck => rfl
theorem pxi_seq (h : PX X W e (ev cf ia)) : PXI X W tg e (itM .seq (ev cf (.cons ia .nil))) :=
  PI.imp (pi_seq (PX.d h)) fun σ H Rr q => by
    obtain ⟨fx, Fz, s, rl, p⟩ := q
    refine ⟨fx, Fz, s, rl, ?_⟩
    unfold itM bindM at p
    rw [ev_cons_nil] at p
    unfold bindM at p
    cases e1 : one1 (ev cf ia) s with
    | ok d s1 =>
      rw [e1] at p
      have p2 : PostI X.K X.mg W fx Fz σ (optM (itD .seq [d]) s1) Rr := p
      clear p
      intro v H' F' g rl' rp
      cases e2 : itD .seq [d] with
      | none => rw [e2] at p2; exact p2.elim
      | some ys =>
        rw [e2] at p2
        have p : PostI X.K X.mg W fx Fz σ (.ok ys s1) Rr := p2
        obtain ⟨hd | hd, _⟩ := itD_seq e2
        · subst hd
          cases rp with
          | lst h1 h2 => exact .inl ⟨_, rfl, ⟨_, SqL.of (rl'.sub _ _ h1)⟩, p _ H' F' g rl' (wk_list h1 h2)⟩
        · subst hd
          cases rp with
          | tup h1 h2 => exact .inr ⟨_, rfl, ⟨_, sqT_mono rl'.sub h1⟩, p _ H' F' g rl' (wk_tup h1 h2)⟩
    | exc c s1 => rw [e1] at p; exact p
    | stuck => rw [e1] at p; exact p.elim
theorem itD_r1 {ds ys : List D} (h : itD .range1 ds = some ys) : ∃ j, ds = [.int j] ∧ -1000000 < j ∧ j < 1000000 ∧ ys = (List.range j.toNat).map fun (k : Nat) => .int (0 + (k : Int)) := by
  have h : itR1 ds = some ys := h
  unfold itR1 at h
  split at h
  · next j =>
    split at h
    · next hj => cases h; exact ⟨_, rfl, hj.1, hj.2, by simp⟩
    · cases h
  · cases h
theorem itD_r2 {ds ys : List D} (h : itD .range2 ds = some ys) : ∃ i j, ds = [.int i, .int j] ∧ -400000 < i ∧ i < 400000 ∧ -400000 < j ∧ j < 400000 ∧ ys = (List.range (j - i).toNat).map fun (k : Nat) => .int (i + (k : Int)) := by
  have h : itR2 ds = some ys := h
  unfold itR2 at h
  split at h
  · next i j =>
    split at h
    · next hj => cases h; exact ⟨_, _, rfl, hj.1, hj.2.1, hj.2.2.1, hj.2.2.2, rfl⟩
    · cases h
  · cases h
theorem itD_len {k : Itk} {ds ys : List D} (h : itD k ds = some ys) : ys.length ≤ 1000000 := by
  cases k with
  | seq =>
    cases ds with
    | nil => simp [itD, itSeq] at h
    | cons d ds =>
      cases ds with
      | nil => exact (itD_seq h).2
      | cons _ _ => simp [itD, itSeq] at h
  | range1 =>
    obtain ⟨j, _, h1, h2, rfl⟩ := itD_r1 h
    rw [List.length_map, List.length_range]; omega
  | range2 =>
    obtain ⟨i, j, _, h1, h2, h3, h4, rfl⟩ := itD_r2 h
    rw [List.length_map, List.length_range]; omega
theorem pxi_range1 {x : Str} (hx : x = "range") (hg : Gl X x) (hm : X.mg x = none) (ha : PXA X W [a] (ev cf ia)) (hs : starEach [a] X.env = [(false, eval a X.env)]) : PXI X W tg (.Call (.Name x p) [a] [] pos) (itM .range1 (ev cf ia)) := by
  subst hx
  refine PI.imp (pi_range1 hg hm ha hs) fun σ H Rr q => itM_arg q fun fx Fz H s xs ds ys rl rp e k => ?_
  obtain ⟨j, rfl, h1, h2, rfl⟩ := itD_r1 e
  cases rp with
  | cons h t =>
    cases t
    cases h
    exact ⟨j, rfl, by omega, by omega, k _ wk_range⟩
theorem pxi_range2 {x : Str} (hx : x = "range") (hg : Gl X x) (hm : X.mg x = none) (ha : PXA X W [a, b] (ev cf ia)) (hs : starEach [a, b] X.env = [(false, eval a X.env), (false, eval b X.env)]) (hs2 : starEach [b] X.env = [(false, eval b X.env)]) : PXI X W tg (.Call (.Name x p) [a, b] [] pos) (itM .range2 (ev cf ia)) := by
  subst hx
  refine PI.imp (pi_range2 hg hm ha hs hs2) fun σ H Rr q => itM_arg q fun fx Fz H s xs ds ys rl rp e k => ?_
  obtain ⟨i, j, rfl, h1, h2, h3, h4, rfl⟩ := itD_r2 e
  cases rp with
  | cons h t =>
    cases t with
    | cons h' t =>
      cases t
      cases h
      cases h'
      exact ⟨i, j, rfl, ⟨by omega, by omega, by omega, by omega⟩, k _ wk_range⟩
def gNames : List Nat → TGs
  | [] => gNil
  | i :: is => gCons (gName i) (gNames is)
def tgR (K : PySem.W.Frag) : Tg → TG
  | .nm i => gName i
  | .tp is => gTup K is.length (gNames is)
def tgSlots : Tg → List Nat
  | .nm i => [i]
  | .tp is => is
theorem gNames_ok {K : PySem.W.Frag} {fx : Fx} {Fz H : Hp} {Q : L2.St → Hp → Prop} : ∀ {is : List Nat} {vs : List V} {ds : List D} {σ : L2.St} {ρ ρ' : List (Option SV)} {δ : Int × Int}, Rel K fx Fz σ H ⟨ρ, δ⟩ → Rps K Fz vs ds → setAll ρ is ds = some ρ' →
    (∀ σ', Rel K fx Fz σ' H ⟨ρ', δ⟩ → σ'.length = σ.length → (∀ j : Nat, j ∉ is → σ'[j]? = σ[j]?) → Q σ' H) → gNames is vs σ H Q
  | [], _, _, σ, ρ, ρ', δ, rl, .nil, h, q => by
    simp [setAll] at h
    subst h
    exact ⟨rfl, q σ rl rfl fun _ _ => rfl⟩
  | [], _, _, σ, ρ, ρ', δ, rl, .cons _ _, h, q => by simp [setAll] at h
  | i :: is, _, _, σ, ρ, ρ', δ, rl, .nil, h, q => by simp [setAll] at h
  | i :: is, _, _, σ, ρ, ρ', δ, rl, .cons (v := v) (vs := vs) (d := d) (ds := ds) h1 t, h, q => by
    simp only [setAll] at h
    have rl1 := rl.put (i := i) (x := .d d) (v := v) h1
    refine ⟨v, vs, rfl, ?_⟩
    exact gNames_ok (δ := δ) rl1 t h fun σ' r' hl hj => q σ' r' (by rw [hl, List.length_set]) fun j hn => by
      rw [hj j fun z => hn (List.mem_cons_of_mem _ z), List.getElem?_set_ne fun z => hn (by rw [z]; exact List.mem_cons_self)]
theorem setTg_ok {K : PySem.W.Frag} {fx : Fx} {Fz H : Hp} {Q : L2.St → Hp → Prop} {tg : Tg} {v : V} {d : D} {σ : L2.St} {s s' : S} {u : Unit} (rl : Rel K fx Fz σ H s) (h : Rp K Fz v d) (e : setTg tg d s = .ok u s')
    (q : ∀ σ', Rel K fx Fz σ' H s' → σ'.length = σ.length → (∀ j : Nat, j ∉ tgSlots tg → σ'[j]? = σ[j]?) → s'.δ = s.δ → Q σ' H) : tgR K tg v σ H Q := by
  unfold setTg at e
  cases tg with
  | nm i =>
    cases e
    exact q _ (rl.put (i := i) (x := .d d) h) (by rw [List.length_set]) (fun j hj => List.getElem?_set_ne fun z => hj (by rw [z]; exact List.mem_cons_self)) rfl
  | tp is =>
    dsimp only at e
    cases d with
    | tuple xs =>
      dsimp only at e
      cases e1 : setAll s.ρ is xs with
      | none => rw [e1] at e; cases e
      | some ρ' =>
        rw [e1] at e
        cases e
        have hl : is.length = xs.length := by
          have : ∀ (is : List Nat) (xs : List D) (ρ ρ' : List (Option SV)), setAll ρ is xs = some ρ' → is.length = xs.length := by
            intro is
            induction is with
            | nil => intro xs ρ ρ' h; cases xs with
              | nil => rfl
              | cons _ _ => simp [setAll] at h
            | cons i is ih => intro xs ρ ρ' h; cases xs with
              | nil => simp [setAll] at h
              | cons x xs => simp only [setAll] at h; simp [ih xs _ _ h]
          exact this is xs _ _ e1
        cases h with
        | tup h1 h2 =>
          refine ⟨_, _, rfl, sqT_mono rl.sub h1, by rw [h2.length, hl], gNames_ok (δ := s.δ) rl h2 e1 fun σ' r' a b => q σ' r' a b rfl⟩
    | _ => cases e
theorem setTg_exc {tg : Tg} {d : D} {s s' : S} {c : Str} (e : setTg tg d s = .exc c s') : False := by
  unfold setTg at e
  cases tg with
  | nm i => cases e
  | tp is =>
    dsimp only at e
    cases d with
    | tuple xs => dsimp only at e; split at e <;> cases e
    | _ => cases e
end
end PL
set_option maxHeartbeats 1000000
namespace PL
open PySem PySem.Spec PyProof.Rows L2
section
variable {K : PySem.W.Frag} {fx : Fx} {Fz H : Hp} {σ : L2.St} {s : S}
theorem Rel.frz : ∀ (is : List Nat) {Fz : Hp} {s : S}, Rel K fx Fz σ H s → ∃ Fz', Same Fz Fz' ∧ Rel K fx Fz' σ H (frzAll is s) ∧ (frzAll is s).δ = s.δ
  | [], Fz, s, rl => ⟨Fz, Same.refl _, rl, rfl⟩
  | i :: is, Fz, s, rl => by
    unfold frzAll
    cases e : s.ρ[i]? with
    | none => exact Rel.frz is rl
    | some o =>
      cases o with
      | none => exact Rel.frz is rl
      | some x =>
        cases x with
        | d x => exact Rel.frz is rl
        | dice => exact Rel.frz is rl
        | own xs =>
          obtain ⟨v, F1, g1, g2, g3, g4⟩ := rl.freezeSlot e
          obtain ⟨F2, k1, k2, k3⟩ := Rel.frz is g3
          exact ⟨F2, g2.trans k1, k2, k3⟩
theorem wipeL_length (ρ : List (Option SV)) : ∀ vs : List Nat, (wipeL ρ vs).length = ρ.length
  | [] => rfl
  | v :: vs => by unfold wipeL; rw [List.length_set, wipeL_length ρ vs]
theorem wipeL_some {ρ : List (Option SV)} {i : Nat} {x : SV} : ∀ {vs : List Nat}, (wipeL ρ vs)[i]? = some (some x) → ρ[i]? = some (some x) ∧ i ∉ vs
  | [], h => ⟨h, by simp⟩
  | v :: vs, h => by
    unfold wipeL at h
    by_cases hi : v = i
    · subst hi
      by_cases hv : v < (wipeL ρ vs).length
      · rw [List.getElem?_set_self hv] at h; cases h
      · rw [List.getElem?_eq_none (by simpa using hv)] at h; cases h
    · rw [List.getElem?_set_ne hi] at h
      obtain ⟨h1, h2⟩ := wipeL_some h
      exact ⟨h1, by simp only [List.mem_cons, not_or]; exact ⟨fun e => hi e.symm, h2⟩⟩
theorem hide_some {ρ : List (Option SV)} {vs : List Nat} {i : Nat} {x : SV} (h : (hide ρ vs)[i]? = some (some x)) : ρ[i]? = some (some x) ∧ i ∉ vs ∧ ∀ xs, x ≠ .own xs := by
  obtain ⟨h1, h2⟩ := wipeL_some h
  rw [List.getElem?_map] at h1
  cases q : ρ[i]? with
  | none => rw [q] at h1; cases h1
  | some o =>
    rw [q] at h1
    have h1 : hideO o = some x := by simpa using h1
    cases o with
    | none => cases h1
    | some y =>
      cases y with
      | own xs => cases h1
      | d y => cases h1; exact ⟨rfl, h2, fun xs z => nomatch z⟩
      | dice => cases h1; exact ⟨rfl, h2, fun xs z => nomatch z⟩
theorem wipe_out' {σ : L2.St} {i : Nat} : ∀ {vs : List Nat}, i ∉ vs → (wipe σ vs)[i]? = σ[i]? := fun h => wipe_out h
theorem Rel.block (rl : Rel K fx Fz σ H s) (vs : List Nat) : Rel K ⟨fx.da, H, Fz⟩ Fz (wipe σ vs) H ⟨hide s.ρ vs, s.δ⟩ := by
  refine ⟨rl.sub, fun b o q _ => q, Same.refl _, fun b o _ q => q, fun a e => ⟨(rl.dc a e).1, ⟨_, (rl.dc a e).1⟩, rl.dcF e⟩, fun i x q => ?_, fun i j xs ys a q1 => ?_, ?_⟩
  · obtain ⟨h1, h2, h3⟩ := hide_some q
    obtain ⟨v, g1, g2⟩ := rl.sl i x h1
    refine ⟨v, by rw [wipe_out h2]; exact g1, ?_⟩
    cases x with
    | d x => exact g2
    | dice => exact g2
    | own xs => exact absurd rfl (h3 xs)
  · obtain ⟨_, _, h3⟩ := hide_some q1
    exact absurd rfl (h3 xs)
  · unfold hide
    rw [wipeL_length, List.length_map, wipe_length]
    exact rl.len
theorem Rel.unblock {F4 H4 : Hp} {σ4 : L2.St} {s4 : S} (rl : Rel K fx Fz σ H s) (r4 : Rel K ⟨fx.da, H, Fz⟩ F4 σ4 H4 s4) : Rel K fx F4 σ H4 { s with δ := s4.δ } := by
  refine ⟨r4.sub, fun b o q n => r4.old b o (rl.old b o q n) n, fun b o q => r4.f0 b o (rl.f0 b o q), fun b o q n => ?_, fun a e => ⟨(r4.dc a e).1, (rl.dc a e).2⟩, fun i x q => ?_, rl.ap, rl.len⟩
  · have hF := rl.nf b o q n
    by_cases e : fx.da = some b
    · exact r4.nf b _ (rl.dc b e).1 hF
    · exact r4.nf b o (rl.old b o q e) hF
  · obtain ⟨v, g1, g2⟩ := rl.sl i x q
    refine ⟨v, g1, g2.mono r4.f0 fun a vs k1 k2 k3 => ⟨r4.old a _ k1 fun e => ?_, r4.nf a _ k1 k2⟩⟩
    exact rl.H0ne e k3 rfl
theorem Rel.grow {a : Addr} {vs ws : List V} {xs : List D} (rl : Rel K fx Fz σ H s) (hH : H a = some (.lst vs)) (h0 : fx.H0 a = none) (hF : Fz a = none) (hn : ∀ (i : Nat) ys, s.ρ[i]? = some (some (.own ys)) → σ[i]? ≠ some (some (.ref a))) (r : Rps K Fz ws xs) :
    Rel K fx Fz σ (upd H a (.lst ws)) s ∧ RvOk K fx Fz σ (upd H a (.lst ws)) s (.own xs) (.ref a) := by
  refine ⟨⟨fun b o q => ?_, fun b o q n => ?_, rl.f0, rl.nf, fun b e => ?_, fun i x q => ?_, rl.ap, rl.len⟩, a, ws, rfl, upd_same, h0, hF, r, hn⟩
  · rw [upd_ne (fun z => by rw [z, hF] at q; cases q)]; exact rl.sub b o q
  · rw [upd_ne (fun z => by rw [z, h0] at q; cases q)]; exact rl.old b o q n
  · obtain ⟨g1, g2⟩ := rl.dc b e
    refine ⟨?_, g2⟩
    rw [upd_ne (rl.H0ne e h0).symm]; exact g1
  · obtain ⟨v, g1, g2⟩ := rl.sl i x q
    refine ⟨v, g1, ?_⟩
    cases x with
    | d x => exact g2
    | dice => exact g2
    | own ys =>
      obtain ⟨b, us, rfl, k1, k2, k3, k4⟩ := g2
      have : b ≠ a := fun z => hn i ys q (by rw [g1, z])
      exact ⟨b, us, rfl, by rw [upd_ne this]; exact k1, k2, k3, k4⟩
end
section
variable {X : Cx} {W : WX} {cf : CF} {elt tgE iter : Expr} {ifs : List Expr} {scope : Scope} {own : List (Str × Nat)} {pos : Pos} {tg : Tg} {k : Itk} {il ic ie : IE} {fz : List Nat}
abbrev W0 : WX := fun _ _ _ _ => False
theorem wipe_eq {σ σ' : L2.St} (hl : σ'.length = σ.length) : ∀ {vs : List Nat}, (∀ j : Nat, j ∉ vs → σ'[j]? = σ[j]?) → wipe σ' vs = wipe σ vs := fun {vs} h => by
  refine List.ext_getElem? fun i => ?_
  by_cases hi : i ∈ vs
  · have key : ∀ (τ : L2.St) (vs : List Nat), i ∈ vs → (wipe τ vs)[i]? = if i < τ.length then some none else none := by
      intro τ vs
      induction vs with
      | nil => intro h; cases h
      | cons v vs ih =>
        intro h
        unfold wipe
        by_cases hv : v = i
        · subst hv
          by_cases hl : v < τ.length
          · rw [List.getElem?_set_self (by rw [wipe_length]; exact hl), if_pos hl]
          · rw [List.getElem?_eq_none (by rw [List.length_set, wipe_length]; omega), if_neg hl]
        · rw [List.getElem?_set_ne hv]
          exact ih ((List.mem_cons.mp h).resolve_left fun z => hv z.symm)
    rw [key σ' vs hi, key σ vs hi, hl]
  · rw [wipe_out hi, wipe_out hi, h i hi]
theorem wipe_wipe {σ : L2.St} {vs : List Nat} : wipe (wipe σ vs) vs = wipe σ vs := wipe_eq (wipe_length _ _) fun j hj => wipe_out hj
theorem lcT_ok {cond : M Bool} {el : M (List RV)} {x : D} {s s' : S} {o : Option D} (h : lcT tg cond el x s = .ok o s') : ∃ u s1 b s2, setTg tg x s = .ok u s1 ∧ cond s1 = .ok b s2 ∧ ((b = false ∧ o = none ∧ s' = s2) ∨ (b = true ∧ ∃ r, el s2 = .ok [r] s' ∧ o = some r.toD)) := by
  unfold lcT bindM R.bind at h
  cases e1 : setTg tg x s with
  | ok u s1 =>
    rw [e1] at h
    dsimp only at h
    cases e2 : cond s1 with
    | ok b s2 =>
      rw [e2] at h
      dsimp only at h
      cases b with
      | false => cases h; exact ⟨u, s1, false, _, rfl, e2, .inl ⟨rfl, rfl, rfl⟩⟩
      | true =>
        dsimp only at h
        cases e3 : el s2 with
        | ok l s3 =>
          rw [e3] at h
          dsimp only at h
          cases l with
          | nil => cases h
          | cons r l => cases l with
            | nil => cases h; exact ⟨u, s1, true, s2, rfl, e2, .inr ⟨rfl, r, e3, rfl⟩⟩
            | cons _ _ => cases h
        | exc c s3 => rw [e3] at h; cases h
        | stuck => rw [e3] at h; cases h
    | exc c s2 => rw [e2] at h; cases h
    | stuck => rw [e2] at h; cases h
  | exc c s1 => rw [e1] at h; cases h
  | stuck => rw [e1] at h; cases h
theorem lcM_cons {ρ0 : List (Option SV)} {cond : M Bool} {el : M (List RV)} {x : D} {xs zs : List D} {δ δ' : Int × Int} (h : lcM ρ0 tg cond el (x :: xs) δ = some (zs, δ')) :
    ∃ o s', lcT tg cond el x ⟨ρ0, δ⟩ = .ok o s' ∧ ∃ ys, lcM ρ0 tg cond el xs s'.δ = some (ys, δ') ∧ zs = o.toList ++ ys := by
  rw [lcM] at h
  cases e : lcT tg cond el x ⟨ρ0, δ⟩ with
  | ok o s' =>
    rw [e] at h
    cases o with
    | some d =>
      dsimp only at h
      cases e2 : lcM ρ0 tg cond el xs s'.δ with
      | none => rw [e2] at h; cases h
      | some q =>
        rw [e2] at h
        obtain ⟨ys, δ2⟩ := q
        cases h
        exact ⟨_, _, rfl, ys, e2, rfl⟩
    | none => exact ⟨_, _, rfl, zs, h, rfl⟩
  | exc c s' => rw [e] at h; cases h
  | stuck => rw [e] at h; cases h
theorem red_lc {σ : L2.St} {H : Hp} {Q : VK} (hv : ∀ i ∈ tgSlots tg, i ∈ own.map (·.2)) (h : tI X.K X.mg W (ev cf (.lc fz (own.map (·.2)) tg k il ic ie)) σ H Q) :
    tLc (tIt X.K X.mg W (itM k (ev cf il))) (tgR X.K tg) (tBo X.K X.mg W0 (evB cf ic)) (tI X.K X.mg W0 (ev cf ie)) (own.map (·.2)) σ H Q := by
  obtain ⟨fx, Fz, s, rl, p⟩ := h
  generalize hvs : own.map (·.2) = vs at hv p ⊢
  have p : Post X.K X.mg W fx Fz σ (bindM (itM k (ev cf il)) (fun ys s => match lcM (hide (frzAll fz s).ρ vs) tg (evB cf ic) (ev cf ie) ys s.δ with | some (zs, δ') => .ok [.own zs] { frzAll fz s with δ := δ' } | none => .stuck) s) Q := p
  refine ⟨fx, Fz, s, rl, ?_⟩
  unfold bindM R.bind at p
  cases e1 : itM k (ev cf il) s with
  | exc c s1 => rw [e1] at p; exact p
  | stuck => rw [e1] at p; exact p.elim
  | ok ys s1 =>
    rw [e1] at p
    dsimp only at p
    have hlen : ys.length ≤ 1000000 := by
      unfold itM bindM R.bind at e1
      cases e2 : ev cf il s with
      | ok l s2 =>
        rw [e2] at e1
        dsimp only at e1
        unfold optM at e1
        cases e3 : itD k (l.map RV.toD) with
        | none => rw [e3] at e1; cases e1
        | some zs => rw [e3] at e1; cases e1; exact itD_len e3
      | exc c s2 => rw [e2] at e1; cases e1
      | stuck => rw [e2] at e1; cases e1
    intro J H1 F1 g1 rl1 wk Dd nD
    obtain ⟨F2, g2, rl2, eδ⟩ := Rel.frz fz rl1
    cases e4 : lcM (hide (frzAll fz s1).ρ vs) tg (evB cf ic) (ev cf ie) ys s1.δ with
    | none => rw [e4] at p; exact p.elim
    | some q =>
      obtain ⟨zs, δ'⟩ := q
      rw [e4] at p
      dsimp only at p
      generalize hsf : frzAll fz s1 = sf at rl2 eδ e4 p
      -- the invariant
      refine ⟨fun i m H => m = ys.length - i ∧ i ≤ ys.length ∧ ∃ Fi δi ds vi rest, Same F2 Fi ∧ Rel X.K fx Fi σ H { sf with δ := δi } ∧ H Dd = some (.lst vi) ∧ fx.H0 Dd = none ∧ Fi Dd = none ∧ Rps X.K Fi vi ds ∧
        (∀ (j : Nat) xs, sf.ρ[j]? = some (some (.own xs)) → σ[j]? ≠ some (some (.ref Dd))) ∧ lcM (hide sf.ρ vs) tg (evB cf ic) (ev cf ie) (ys.drop i) δi = some (rest, δ') ∧ zs = ds ++ rest ∧ ds.length ≤ i, ?_, ?_⟩
      · obtain ⟨r1, a, us, z1, z2, z3, z4, z5, z6⟩ := rl2.layOwn (p := Dd) (vs := []) (xs := []) nD .nil
        cases z1
        exact ⟨_, rfl, Nat.zero_le _, F2, sf.δ, [], [], zs, Same.refl _, r1, upd_same, z3, z4, .nil, z6, by rw [List.drop_zero, eδ]; exact e4, rfl, Nat.le_refl _⟩
      · rintro i m Hi ⟨rfl, hi, Fi, δi, ds, vi, rest, gi, rli, hD, h0, hF, rps, hn, el, ez, dl⟩
        obtain ⟨wgo, wstop⟩ := wk Fi Hi (g2.trans gi) rli.sub i
        by_cases hlt : i < ys.length
        · have hd : ys[i]? = some ys[i] := List.getElem?_eq_getElem hlt
          obtain ⟨go, yld⟩ := wgo _ hd
          rw [List.drop_eq_getElem_cons hlt] at el
          obtain ⟨o, s5, et, rest2, el2, er⟩ := lcM_cons el
          obtain ⟨u, s3, b, s4, t1, t2, t3⟩ := lcT_ok et
          refine .inr ⟨go, fun H' => ∃ Fj vj dj, Same Fi Fj ∧ Rel X.K fx Fj σ H' { sf with δ := s5.δ } ∧ H' Dd = some (.lst vj) ∧ Fj Dd = none ∧ Rps X.K Fj vj dj ∧ dj = ds ++ o.toList, fun H' ⟨Fj, vj, dj, k1, k2, k3, k4, k5, k6⟩ => ?_, fun x H' hy => ?_⟩
          · refine ⟨ys.length - (i + 1), by omega, rfl, hlt, Fj, s5.δ, dj, vj, rest2, gi.trans k1, k2, k3, h0, k4, k5, hn, el2, ?_, ?_⟩
            · rw [k6, ez, er, List.append_assoc]
            · rw [k6, List.length_append]
              have : o.toList.length ≤ 1 := by cases o <;> simp
              omega
          · obtain ⟨F3, g3, tr, rpx⟩ := yld x H' hy
            have rb := tr _ _ _ (rli.block vs)
            refine setTg_ok rb rpx t1 fun σ' r' hl hj hδ => ?_
            have hw : wipe σ' vs = wipe σ vs := by
              rw [← wipe_wipe (σ := σ) (vs := vs)]
              exact wipe_eq hl fun j hn => hj j fun z => hn (hv j z)
            refine ⟨hw, ?_⟩
            refine ⟨_, F3, s3, r', ?_⟩
            rw [t2]
            intro H4 F4 g4 r4
            -- what stands behind the turn
            have fin : ∀ {F5 H5 : Hp} {σ5 : L2.St} {s6 : S}, Same F4 F5 → Rel X.K ⟨fx.da, Hi, Fi⟩ F5 σ5 H5 s6 → Same Fi F5 ∧ Rel X.K fx F5 σ H5 { sf with δ := s6.δ } ∧ H5 Dd = some (.lst vi) ∧ F5 Dd = none := fun {F5 H5 σ5 s6} g5 r5 => by
              refine ⟨r5.f0, rli.unblock r5, r5.old Dd _ hD fun e => ?_, r5.nf Dd _ hD hF⟩
              exact rli.H0ne e h0 rfl
            rcases t3 with ⟨rfl, rfl, rfl⟩ | ⟨rfl, r, t3, rfl⟩
            · refine iteF ?_
              obtain ⟨k1, k2, k3, k4⟩ := fin (Same.refl _) r4
              exact ⟨F4, vi, ds, k1, k2, k3, k4, rps.mono k1, by simp⟩
            · refine iteT ⟨_, F4, s4, r4, ?_⟩
              rw [t3]
              intro y H5 F5 g5 r5 rv
              obtain ⟨F6, g6, r6, rp6⟩ := rv.freeze r5
              obtain ⟨k1, k2, k3, k4⟩ := fin (g5.trans g6) r6
              refine ⟨vi, k3, ?_, ?_⟩
              · rw [rps.length]
                exact Nat.lt_of_le_of_lt (Nat.le_trans dl (Nat.le_trans hi hlen)) (by rw [sizeLine_eq]; decide)
              · have rp7 : Rps X.K F6 (vi ++ [y]) (ds ++ [r.toD]) := (rps.mono k1).append (.cons rp6 .nil)
                obtain ⟨q1, a, us, z1, z2, z3, z4, z5, z6⟩ := k2.grow k3 h0 k4 hn rp7
                cases z1
                exact ⟨F6, vi ++ [y], ds ++ [r.toD], k1, q1, upd_same, k4, rp7, rfl⟩
        · have hi' : i = ys.length := by omega
          subst hi'
          rw [List.drop_length] at el
          have el : some (([] : List D), δi) = some (rest, δ') := el
          cases el
          refine .inl ⟨wstop (Nat.le_refl _), ?_⟩
          rw [List.append_nil] at ez
          subst ez
          exact p (.ref Dd) Hi Fi ((g1.trans g2).trans gi) rli ⟨Dd, vi, rfl, hD, h0, hF, rps, hn⟩
theorem px_lc (hc : X.calm = true) (hN : X.N.Nodup) (hi : PXI X W tgE iter (itM k (ev cf il))) (ok : BlkOk X.N X.env.scope scope own) (hv : ∀ i ∈ tgSlots tg, i ∈ own.map (·.2))
    (hg : ∀ (s : Shared) (H : Hp) (C : Addr) (cl : List (Str × Addr)) (fp : List Addr), PG (X.blk s H scope (compEnvC scope cl C X.env) fp) tgE (tgR X.K tg))
    (ht : ∀ (s : Shared) (H : Hp) (C : Addr) (cl : List (Str × Addr)) (fp : List Addr), PTs (X.blk s H scope (compEnvC scope cl C X.env) fp) ifs (tBo X.K X.mg W0 (evB cf ic)))
    (he : ∀ (s : Shared) (H : Hp) (C : Addr) (cl : List (Str × Addr)) (fp : List Addr), PX (X.blk s H scope (compEnvC scope cl C X.env) fp) W0 elt (ev cf ie)) (hs : ∀ x, foldedSetIterable iter X.env x = pure x) :
    PX X W (.ListComp elt [⟨tgE, iter, ifs, 0⟩] scope pos) (ev cf (.lc fz (own.map (·.2)) tg k il ic ie)) :=
  PE.imp (pe_lc hc hN hi ok hg ht he hs) fun σ H Q h => red_lc hv h
end
end PL
set_option maxHeartbeats 1000000
namespace PL
open PySem PySem.Spec PyProof.Rows L2
section
variable (K : PySem.W.Frag) (mg : Str → Option Value) (W : WX)
def PostS (fx : Fx) (Fz : Hp) (res : R Fl) (Dn : Ends) : Prop := match res with
  | .ok .next s' => ∀ σ' H' Fz', Same Fz Fz' → Rel K fx Fz' σ' H' s' → Dn.nx σ' H'
  | .ok .brk s' => ∀ σ' H' Fz', Same Fz Fz' → Rel K fx Fz' σ' H' s' → Dn.bk σ' H'
  | .ok .cont s' => ∀ σ' H' Fz', Same Fz Fz' → Rel K fx Fz' σ' H' s' → Dn.ct σ' H'
  | .ok (.ret d) s' => ∀ v σ' H' Fz', Same Fz Fz' → Rel K fx Fz' σ' H' s' → Rp K Fz' v d → Dn.rt v H'
  | .exc c s' => ∀ C σ' H' Fz', mg c = some C → Same Fz Fz' → Rel K fx Fz' σ' H' s' → W C none σ' H'
  | .stuck => False
def tS (m : M Fl) : TS := fun Dn σ H => ∃ fx Fz s, Rel K fx Fz σ H s ∧ PostS K mg W fx Fz (m s) Dn
end
section
variable {K : PySem.W.Frag} {mg : Str → Option Value} {W : WX} {fx : Fx} {Fz Fz1 H : Hp} {σ : L2.St} {s : S}
theorem PostS.mono {res : R Fl} {Dn : Ends} (e : Same Fz Fz1) (h : PostS K mg W fx Fz res Dn) : PostS K mg W fx Fz1 res Dn := by
  cases res with
  | ok f s' =>
    cases f with
    | next => exact fun σ' H' Fz' g => h σ' H' Fz' (e.trans g)
    | brk => exact fun σ' H' Fz' g => h σ' H' Fz' (e.trans g)
    | cont => exact fun σ' H' Fz' g => h σ' H' Fz' (e.trans g)
    | ret d => exact fun v σ' H' Fz' g => h v σ' H' Fz' (e.trans g)
  | exc c s' => exact fun C σ' H' Fz' q g => h C σ' H' Fz' q (e.trans g)
  | stuck => exact h
theorem PostS.exc {c : Str} {s' : S} {Dn : Ends} (h : PostS K mg W fx Fz (.exc c s') Dn) : PostX K mg W fx Fz σ c s' := fun C H' Fz' q g r => h C σ H' Fz' q g r
theorem PostS.bindR {m : M (List RV)} {f : List RV → M Fl} {Dn : Ends} (h : PostS K mg W fx Fz (bindM m f s) Dn) (one : ∀ l s', m s = .ok l s' → ∃ r, l = [r]) :
    Post K mg W fx Fz σ (m s) fun v H1 => ∃ Fz1 s1 r, Same Fz Fz1 ∧ Rel K fx Fz1 σ H1 s1 ∧ RvOk K fx Fz1 σ H1 s1 r v ∧ PostS K mg W fx Fz1 (f [r] s1) Dn := by
  unfold bindM R.bind at h
  cases e : m s with
  | ok l s' =>
    rw [e] at h
    obtain ⟨r, rfl⟩ := one l s' e
    exact fun v H' Fz' g rl rv => ⟨Fz', s', r, g, rl, rv, h.mono g⟩
  | exc c s' => rw [e] at h; exact h.exc
  | stuck => rw [e] at h; exact h.elim
theorem PostS.bindD {m : M D} {f : D → M Fl} {Dn : Ends} (h : PostS K mg W fx Fz (bindM m f s) Dn) :
    PostD K mg W fx Fz σ (m s) fun v H1 => ∃ Fz1 s1 d, Same Fz Fz1 ∧ Rel K fx Fz1 σ H1 s1 ∧ Rp K Fz1 v d ∧ PostS K mg W fx Fz1 (f d s1) Dn := by
  unfold bindM R.bind at h
  cases e : m s with
  | ok d s' =>
    rw [e] at h
    exact fun v H' Fz' g rl rv => ⟨Fz', s', d, g, rl, rv, h.mono g⟩
  | exc c s' => rw [e] at h; exact h.exc
  | stuck => rw [e] at h; exact h.elim
theorem PostS.bindB {m : M Bool} {f : Bool → M Fl} {Dn : Ends} (h : PostS K mg W fx Fz (bindM m f s) Dn) :
    PostB K mg W fx Fz σ (m s) fun b H1 => ∃ Fz1 s1, Same Fz Fz1 ∧ Rel K fx Fz1 σ H1 s1 ∧ PostS K mg W fx Fz1 (f b s1) Dn := by
  unfold bindM R.bind at h
  cases e : m s with
  | ok d s' =>
    rw [e] at h
    exact fun H' Fz' g rl => ⟨Fz', s', g, rl, h.mono g⟩
  | exc c s' => rw [e] at h; exact h.exc
  | stuck => rw [e] at h; exact h.elim
theorem one_of {m : M (List RV)} {f : RV → M Fl} {Dn : Ends} (h : PostS K mg W fx Fz (bindM m (fun l => bindM (one l) f) s) Dn) : ∀ l s', m s = .ok l s' → ∃ r, l = [r] := fun l s' e => by
  unfold bindM R.bind at h
  rw [e] at h
  cases l with
  | nil => exact h.elim
  | cons r l => cases l with
    | nil => exact ⟨r, rfl⟩
    | cons _ _ => exact h.elim
end
theorem PS.imp {X : Cx} {st : Stmt} {t t' : TS} (h : PS X st t) (i : ∀ Dn σ H, t' Dn σ H → t Dn σ H) : PS X st t' := ⟨fun pins s σ H Dn I q => h.run pins s σ H Dn I (i Dn σ H q)⟩
theorem PSs.imp {X : Cx} {st : List Stmt} {t t' : TS} (h : PSs X st t) (i : ∀ Dn σ H, t' Dn σ H → t Dn σ H) : PSs X st t' := ⟨fun pins s σ H Dn I q => h.run pins s σ H Dn I (i Dn σ H q)⟩
section
variable {X : Cx} {W : WX} {cf : CF} {e a b c tgE : Expr} {st : Stmt} {sts : List Stmt} {pos p pos' : Pos} {ia ib ic : IE} {sa sb : IS} {i : Nat} {x : Str}
abbrev QS (X : Cx) (W : WX) (st : Stmt) (m : M Fl) : Prop := PS X st (tS X.K X.mg W m)
abbrev QSs (X : Cx) (W : WX) (st : List Stmt) (m : M Fl) : Prop := PSs X st (tS X.K X.mg W m)
theorem qss_nil : QSs X W [] (evS cf .skip) := PSs.imp pss_nil fun Dn σ H ⟨fx, Fz, s, rl, p⟩ => p σ H Fz (Same.refl _) rl
theorem qss_cons (h1 : QS X W st (evS cf sa)) (h2 : QSs X W sts (evS cf sb)) : QSs X W (st :: sts) (evS cf (.seq sa sb)) :=
  PSs.imp (pss_cons h1 h2) fun Dn σ H ⟨fx, Fz, s, rl, p⟩ => ⟨fx, Fz, s, rl, by
    have p : PostS X.K X.mg W fx Fz (bindM (evS cf sa) (fun f => match f with | .next => evS cf sb | f => pureM f) s) Dn := p
    unfold bindM R.bind at p
    cases e : evS cf sa s with
    | ok f s1 =>
      rw [e] at p
      cases f with
      | next => exact fun σ' H' F' g rl' => ⟨fx, F', s1, rl', PostS.mono g p⟩
      | brk => exact p
      | cont => exact p
      | ret d => exact p
    | exc c s1 => rw [e] at p; exact p
    | stuck => rw [e] at p; exact p.elim⟩
theorem red_asg {te : TE} (hte : ∀ σ H Q, tI X.K X.mg W (ev cf ia) σ H Q → te σ H Q) : ∀ Dn σ H, tS X.K X.mg W (evS cf (.asg i ia)) Dn σ H → tAsg te (gName i) Dn σ H := fun Dn σ H ⟨fx, Fz, s, rl, p⟩ => by
  refine hte σ H _ ⟨fx, Fz, s, rl, ?_⟩
  have p : PostS X.K X.mg W fx Fz (bindM (ev cf ia) (fun l => bindM (one l) fun r s => .ok .next { s with ρ := s.ρ.set i (some r.toSV) }) s) Dn := p
  refine Post.imp (PostS.bindR (σ := σ) p (one_of p)) fun v H1 ⟨F1, s1, r, g, rl1, rv, p1⟩ => ?_
  exact p1 _ _ F1 (Same.refl _) (rl1.put rv)
theorem qs_asg (hN : X.N.Nodup) (hi : X.N[i]? = some x) (hx : Loc X.env.scope x) (he : PX X W e (ev cf ia)) (hs : swapsWith e (some (.Name x pos')) pos.line X.env = pure false) (hf : X.fn x = true ∨ X.env.scope.names.lookup x = some .local) :
    QS X W (.Assign [.Name x pos'] e pos) (evS cf (.asg i ia)) := PS.imp (ps_set hN hi hx he hs hf) (red_asg fun _ _ _ h => h)
theorem PostD.imp {fx : Fx} {Fz : Hp} {σ : L2.St} {res : R D} {Q Q' : VK} (h : PostD X.K X.mg W fx Fz σ res Q) (i : ∀ v H', Q v H' → Q' v H') : PostD X.K X.mg W fx Fz σ res Q' := by
  cases res with
  | ok l s' => exact fun v H' Fz' g rl rv => i v H' (h v H' Fz' g rl rv)
  | exc c s' => exact h
  | stuck => exact h
theorem qs_asgT {is : List Nat} (he : PX X W e (ev cf ia)) (hg : PG X tgE (tgR X.K (.tp is))) (hs : swapsWithSole [tgE] e pos.line X.env = pure false) (hw : swappedStores [tgE] e X.env = pure none) (h1 : (assignEach [tgE] X.env).map (·.2) = [assign tgE X.env]) :
    QS X W (.Assign [tgE] e pos) (evS cf (.asgT is ia)) := PS.imp (ps_asg (PX.d he) hg hs hw h1) fun Dn σ H ⟨fx, Fz, s, rl, p⟩ => ⟨fx, Fz, s, rl, by
    have p : PostS X.K X.mg W fx Fz (bindM (one1 (ev cf ia)) (fun d => bindM (setTg (.tp is) d) fun _ => pureM .next) s) Dn := p
    refine PostD.imp (PostS.bindD (σ := σ) p) fun v H1 ⟨F1, s1, d, g, rl1, rp, p1⟩ => ?_
    unfold bindM R.bind at p1
    cases e1 : setTg (.tp is) d s1 with
    | ok u s2 =>
      rw [e1] at p1
      exact setTg_ok rl1 rp e1 fun σ' r' _ _ _ => p1 σ' H1 F1 (Same.refl _) r'
    | exc c s2 => exact (setTg_exc e1).elim
    | stuck => rw [e1] at p1; exact p1.elim⟩
theorem qs_ret (he : PX X W e (ev cf ia)) : QS X W (.Return (some e) pos) (evS cf (.ret ia)) := PS.imp (ps_ret (PX.d he)) fun Dn σ H ⟨fx, Fz, s, rl, p⟩ => ⟨fx, Fz, s, rl, by
    have p : PostS X.K X.mg W fx Fz (bindM (one1 (ev cf ia)) (fun d => pureM (.ret d)) s) Dn := p
    exact PostD.imp (PostS.bindD (σ := σ) p) fun v H1 ⟨F1, s1, d, g, rl1, rp, p1⟩ => p1 v σ H1 F1 (Same.refl _) rl1 rp⟩
theorem qs_expr (he : PX X W e (ev cf ia)) (hs : swapsWith e none pos.line X.env = pure false) : QS X W (.Expr e pos) (evS cf (.expr ia)) := PS.imp (ps_expr (PX.d he) hs) fun Dn σ H ⟨fx, Fz, s, rl, p⟩ => ⟨fx, Fz, s, rl, by
    have p : PostS X.K X.mg W fx Fz (bindM (one1 (ev cf ia)) (fun _ => pureM .next) s) Dn := p
    exact PostD.imp (PostS.bindD (σ := σ) p) fun v H1 ⟨F1, s1, d, g, rl1, rp, p1⟩ => p1 σ H1 F1 (Same.refl _) rl1⟩
theorem qs_pass : QS X W (.Pass pos) (evS cf .skip) := PS.imp ps_pass fun Dn σ H ⟨fx, Fz, s, rl, p⟩ => p σ H Fz (Same.refl _) rl
theorem qs_doc {z : Str} {j : Nat} : QS X W (.Expr (.Constant (.str z) j pos') pos) (evS cf .skip) := PS.imp ps_doc fun Dn σ H ⟨fx, Fz, s, rl, p⟩ => p σ H Fz (Same.refl _) rl
theorem qs_brk : QS X W (.Break pos) (evS cf .brk) := PS.imp ps_break fun Dn σ H ⟨fx, Fz, s, rl, p⟩ => p σ H Fz (Same.refl _) rl
theorem qs_cont : QS X W (.Continue pos) (evS cf .cont) := PS.imp ps_continue fun Dn σ H ⟨fx, Fz, s, rl, p⟩ => p σ H Fz (Same.refl _) rl
theorem qs_if {u v : List Stmt} (ht : PXT X W e (evB cf ia)) (ha : QSs X W u (evS cf sa)) (hb : QSs X W v (evS cf sb)) : QS X W (.If e u v pos) (evS cf (.ife ia sa sb)) :=
  PS.imp (ps_if ht ha hb) fun Dn σ H ⟨fx, Fz, s, rl, p⟩ => ⟨fx, Fz, s, rl, by
    have p : PostS X.K X.mg W fx Fz (bindM (evB cf ia) (fun c => match c with | true => evS cf sa | false => evS cf sb) s) Dn := p
    refine PostB.imp (PostS.bindB (σ := σ) p) fun c H1 ⟨F1, s1, g, rl1, p1⟩ => ?_
    cases c with
    | true => exact iteT ⟨fx, F1, s1, rl1, p1⟩
    | false => exact iteF ⟨fx, F1, s1, rl1, p1⟩⟩
theorem qs_raise {t : L2.St → Hp → XK → Prop} {C : Value} (hc : X.calm = true) (tk : Takes X W) (he : PMk X e (fun _ H Q => Q C none H)) (hm : X.mg x = some C) : QS X W (.Raise (some e) none pos) (evS cf (.raise x)) :=
  PS.imp (ps_raise hc tk he) fun Dn σ H ⟨fx, Fz, s, rl, p⟩ => p C σ H Fz hm (Same.refl _) rl
end
end PL
set_option maxHeartbeats 1000000
namespace PL
open PySem PySem.Spec PyProof.Rows L2
section
variable {X : Cx} {W : WX} {cf : CF} {e a b c tgE iter : Expr} {st : Stmt} {sts : List Stmt} {pos p pos' : Pos} {ia ib ic il : IE} {sa sb : IS} {i : Nat} {x : Str} {tg : Tg} {k : Itk}
theorem PostI.of {fx : Fx} {Fz : Hp} {σ : L2.St} {s : S} {m : M (List D)} {f : List D → M Fl} {Dn : Ends} {Rr : It → Hp → Prop} (h : PostS X.K X.mg W fx Fz (bindM m f s) Dn)
    (hr : ∀ ys s1 J H1 F1, m s = .ok ys s1 → Same Fz F1 → Rel X.K fx F1 σ H1 s1 → Wk X.K F1 J ys → PostS X.K X.mg W fx F1 (f ys s1) Dn → Rr J H1) : PostI X.K X.mg W fx Fz σ (m s) Rr := by
  unfold bindM R.bind at h
  cases e : m s with
  | ok ys s1 =>
    rw [e] at h
    exact fun J H' F' g rl wk => hr ys s1 J H' F' e g rl wk (PostS.mono g h)
  | exc c s1 => rw [e] at h; exact h.exc
  | stuck => rw [e] at h; exact h.elim
theorem qs_for (hp : PassesOwn (model X.prog X.w) X.A X.env X.xe) (hc : X.calm = true) (hi : PXI X W tgE iter (itM k (ev cf il))) (hg : PG X tgE (tgR X.K tg)) (hb : QSs X W sts (evS cf sa)) (hs : ∀ x, foldedSetIterable iter X.env x = pure x) :
    QS X W (.For tgE iter sts [] pos) (evS cf (.forS tg k il sa)) :=
  PS.imp (ps_for hp hc hi hg hb hs) fun Dn σ H ⟨fx, Fz, s, rl, p⟩ => ⟨fx, Fz, s, rl, by
    have p : PostS X.K X.mg W fx Fz (bindM (itM k (ev cf il)) (fun ys => forM tg (evS cf sa) ys) s) Dn := p
    refine PostI.of (σ := σ) p fun ys s1 J H1 F1 e1 g1 rl1 wk p1 => ?_
    refine ⟨fun i m σ H => m = ys.length - i ∧ i ≤ ys.length ∧ ∃ Fi si, Same F1 Fi ∧ Rel X.K fx Fi σ H si ∧ PostS X.K X.mg W fx Fi (forM tg (evS cf sa) (ys.drop i) si) Dn, ⟨_, rfl, Nat.zero_le _, F1, s1, Same.refl _, rl1, p1⟩, ?_⟩
    rintro i m σi Hi ⟨rfl, hi, Fi, si, gi, rli, pi⟩
    obtain ⟨wgo, wstop⟩ := wk Fi Hi gi rli.sub i
    by_cases hlt : i < ys.length
    · obtain ⟨go, yld⟩ := wgo _ (List.getElem?_eq_getElem hlt)
      rw [List.drop_eq_getElem_cons hlt] at pi
      have pi : PostS X.K X.mg W fx Fi (bindM (setTg tg ys[i]) (fun _ => bindM (evS cf sa) fun f => match f with | .next => forM tg (evS cf sa) (ys.drop (i + 1)) | .cont => forM tg (evS cf sa) (ys.drop (i + 1)) | .brk => pureM .next | .ret d => pureM (.ret d)) si) Dn := pi
      refine .inr ⟨go, fun σ' H' => ∃ Fj sj, Same Fi Fj ∧ Rel X.K fx Fj σ' H' sj ∧ PostS X.K X.mg W fx Fj (forM tg (evS cf sa) (ys.drop (i + 1)) sj) Dn, fun σ' H' ⟨Fj, sj, k1, k2, k3⟩ => ⟨ys.length - (i + 1), by omega, rfl, hlt, Fj, sj, gi.trans k1, k2, k3⟩, fun x H' hy => ?_⟩
      obtain ⟨F3, g3, tr, rpx⟩ := yld x H' hy
      have r3 := tr _ _ _ rli
      unfold bindM R.bind at pi
      cases e2 : setTg tg ys[i] si with
      | exc c s2 => exact (setTg_exc e2).elim
      | stuck => rw [e2] at pi; exact pi.elim
      | ok u s2 =>
        rw [e2] at pi
        dsimp only at pi
        refine setTg_ok r3 rpx e2 fun σ' r' _ _ _ => ⟨fx, F3, s2, r', ?_⟩
        cases e3 : evS cf sa s2 with
        | ok f s3 =>
          rw [e3] at pi
          cases f with
          | next => exact fun σ4 H4 F4 g4 r4 => ⟨F4, s3, g3.trans g4, r4, PostS.mono (g3.trans g4) pi⟩
          | cont => exact fun σ4 H4 F4 g4 r4 => ⟨F4, s3, g3.trans g4, r4, PostS.mono (g3.trans g4) pi⟩
          | brk => exact fun σ4 H4 F4 g4 r4 => pi σ4 H4 F4 (g3.trans g4) r4
          | ret d => exact fun v σ4 H4 F4 g4 r4 rp => pi v σ4 H4 F4 (g3.trans g4) r4 rp
        | exc c s3 => rw [e3] at pi; exact fun C σ4 H4 F4 hm g4 r4 => pi C σ4 H4 F4 hm (g3.trans g4) r4
        | stuck => rw [e3] at pi; exact pi.elim
    · have hi' : i = ys.length := by omega
      subst hi'
      rw [List.drop_length] at pi
      exact .inl ⟨wstop (Nat.le_refl _), pi σi Hi Fi (Same.refl _) rli⟩⟩
theorem qs_while (hp : PassesOwn (model X.prog X.w) X.A X.env X.xe) (ht : PXT X W e (evB cf ia)) (hb : QSs X W sts (evS cf sa)) : QS X W (.While e sts [] pos) (evS cf (.whl ia sa)) :=
  PS.imp (ps_while hp ht hb) fun Dn σ H ⟨fx, Fz, s, rl, p⟩ => by
    have p : PostS X.K X.mg W fx Fz (whlM (evB cf ia) (evS cf sa) whlFuel s) Dn := p
    refine ⟨fun m σ H => ∃ Fi si, Same Fz Fi ∧ Rel X.K fx Fi σ H si ∧ PostS X.K X.mg W fx Fi (whlM (evB cf ia) (evS cf sa) m si) Dn, ⟨whlFuel, Fz, s, Same.refl _, rl, p⟩, ?_⟩
    rintro m σi Hi ⟨Fi, si, gi, rli, pi⟩
    cases m with
    | zero => exact pi.elim
    | succ m =>
      have pi : PostS X.K X.mg W fx Fi (bindM (evB cf ia) (fun b => match b with
        | false => pureM .next
        | true => bindM (evS cf sa) fun f => match f with | .next => whlM (evB cf ia) (evS cf sa) m | .cont => whlM (evB cf ia) (evS cf sa) m | .brk => pureM .next | .ret d => pureM (.ret d)) si) Dn := pi
      refine ⟨fx, Fi, si, rli, PostB.imp (PostS.bindB (σ := σi) pi) fun c H1 ⟨F1, s1, g1, rl1, p1⟩ => ?_⟩
      cases c with
      | false => exact iteF (p1 σi H1 F1 (Same.refl _) rl1)
      | true =>
        refine iteT ⟨fun σ' H' => ∃ Fj sj, Same Fi Fj ∧ Rel X.K fx Fj σ' H' sj ∧ PostS X.K X.mg W fx Fj (whlM (evB cf ia) (evS cf sa) m sj) Dn, fun σ' H' ⟨Fj, sj, k1, k2, k3⟩ => ⟨m, Nat.lt_succ_self m, Fj, sj, gi.trans k1, k2, k3⟩, ?_⟩
        refine ⟨fx, F1, s1, rl1, ?_⟩
        dsimp only at p1
        unfold bindM R.bind at p1
        cases e3 : evS cf sa s1 with
        | ok f s3 =>
          rw [e3] at p1
          cases f with
          | next => exact fun σ4 H4 F4 g4 r4 => ⟨F4, s3, g1.trans g4, r4, PostS.mono g4 p1⟩
          | cont => exact fun σ4 H4 F4 g4 r4 => ⟨F4, s3, g1.trans g4, r4, PostS.mono g4 p1⟩
          | brk => exact fun σ4 H4 F4 g4 r4 => p1 σ4 H4 F4 g4 r4
          | ret d => exact fun v σ4 H4 F4 g4 r4 rp => p1 v σ4 H4 F4 g4 r4 rp
        | exc c s3 => rw [e3] at p1; exact fun C σ4 H4 F4 hm g4 r4 => p1 C σ4 H4 F4 hm g4 r4
        | stuck => rw [e3] at p1; exact p1.elim
theorem isDice_ok {s s' : S} {u : Unit} (h : isDice i s = .ok u s') : s' = s ∧ s.ρ[i]? = some (some .dice) := by
  unfold isDice at h
  split at h
  · cases h; exact ⟨rfl, by assumption⟩
  · cases h
theorem isOwn_ok {s s' : S} {u : Unit} (h : isOwn i s = .ok u s') : s' = s ∧ ∃ xs, s.ρ[i]? = some (some (.own xs)) := by
  unfold isOwn at h
  split at h
  · cases h; exact ⟨rfl, _, by assumption⟩
  · cases h
theorem PostS.dice {fx : Fx} {Fz : Hp} {s : S} {f : M Fl} {Dn : Ends} (h : PostS X.K X.mg W fx Fz (bindM (isDice i) (fun _ => f) s) Dn) : s.ρ[i]? = some (some .dice) ∧ PostS X.K X.mg W fx Fz (f s) Dn := by
  unfold bindM R.bind at h
  cases e : isDice i s with
  | ok u s' => rw [e] at h; obtain ⟨rfl, q⟩ := isDice_ok e; exact ⟨q, h⟩
  | exc c s' => unfold isDice at e; split at e <;> cases e
  | stuck => rw [e] at h; exact h.elim
theorem PostS.own {fx : Fx} {Fz : Hp} {s : S} {f : M Fl} {Dn : Ends} (h : PostS X.K X.mg W fx Fz (bindM (isOwn i) (fun _ => f) s) Dn) : (∃ xs, s.ρ[i]? = some (some (.own xs))) ∧ PostS X.K X.mg W fx Fz (f s) Dn := by
  unfold bindM R.bind at h
  cases e : isOwn i s with
  | ok u s' => rw [e] at h; obtain ⟨rfl, q⟩ := isOwn_ok e; exact ⟨q, h⟩
  | exc c s' => unfold isOwn at e; split at e <;> cases e
  | stuck => rw [e] at h; exact h.elim
theorem Rel.setDice {K : PySem.W.Frag} {fx : Fx} {Fz H : Hp} {σ : L2.St} {s : S} {a : Addr} {δ : Int × Int} (rl : Rel K fx Fz σ H s) (hd : fx.da = some a) : Rel K fx Fz σ (upd H a (.lst [.int δ.1, .int δ.2])) { s with δ := δ } := by
  have hF := rl.dcF hd
  refine ⟨fun b o q => ?_, fun b o q n => ?_, rl.f0, rl.nf, fun b e => ?_, fun i x q => ?_, rl.ap, rl.len⟩
  · rw [upd_ne (fun z => by rw [z, hF] at q; cases q)]; exact rl.sub b o q
  · rw [upd_ne (fun z => n (by rw [z]; exact hd))]; exact rl.old b o q n
  · rw [hd] at e; cases e
    exact ⟨upd_same, (rl.dc a hd).2⟩
  · obtain ⟨v, g1, g2⟩ := rl.sl i x q
    refine ⟨v, g1, g2.mono (Same.refl _) fun b vs k1 k2 k3 => ⟨?_, k2⟩⟩
    rw [upd_ne (rl.H0ne hd k3)]; exact k1
theorem Rel.setOwn {K : PySem.W.Frag} {fx : Fx} {Fz H : Hp} {σ : L2.St} {s : S} {a : Addr} {xs ys : List D} {ws : List V} (rl : Rel K fx Fz σ H s) (hq : s.ρ[i]? = some (some (.own xs))) (hv : σ[i]? = some (some (.ref a))) (r : Rps K Fz ws ys) :
    Rel K fx Fz σ (upd H a (.lst ws)) { s with ρ := s.ρ.set i (some (.own ys)) } := by
  obtain ⟨v, g1, a', vs, rfl, h2, h3, h4, h5⟩ := rl.sl i _ hq
  rw [hv] at g1; cases g1
  have hi : i < s.ρ.length := (List.getElem?_eq_some_iff.mp hq).1
  refine ⟨fun b o q => ?_, fun b o q n => ?_, rl.f0, rl.nf, fun b e => ?_, fun j x q => ?_, fun j k zs us b q1 q2 q3 q4 => ?_, by simpa using rl.len⟩
  · rw [upd_ne (fun z => by rw [z, h4] at q; cases q)]; exact rl.sub b o q
  · rw [upd_ne (fun z => by rw [z, h3] at q; cases q)]; exact rl.old b o q n
  · obtain ⟨k1, k2⟩ := rl.dc b e
    refine ⟨?_, k2⟩
    rw [upd_ne (rl.H0ne e h3).symm]; exact k1
  · by_cases hj : j = i
    · subst hj
      simp only [List.getElem?_set_self hi] at q
      cases q
      exact ⟨_, hv, a, ws, rfl, upd_same, h3, h4, r⟩
    · simp only [List.getElem?_set_ne (Ne.symm hj)] at q
      obtain ⟨w, k1, k2⟩ := rl.sl j x q
      refine ⟨w, k1, ?_⟩
      cases x with
      | d x => exact k2
      | dice => exact k2
      | own zs =>
        obtain ⟨b, us, rfl, m1, m2, m3, m4⟩ := k2
        have : b ≠ a := fun z => hj (rl.ap j i zs xs a q hq (by rw [k1, z]) hv)
        exact ⟨b, us, rfl, by rw [upd_ne this]; exact m1, m2, m3, m4⟩
  · have get : ∀ (j : Nat) (zs : List D), (s.ρ.set i (some (.own ys)))[j]? = some (some (.own zs)) → ∃ zs', s.ρ[j]? = some (some (.own zs')) := fun j zs q => by
      by_cases hj : j = i
      · subst hj; exact ⟨xs, hq⟩
      · rw [List.getElem?_set_ne (Ne.symm hj)] at q; exact ⟨zs, q⟩
    obtain ⟨z1, w1⟩ := get j zs q1
    obtain ⟨z2, w2⟩ := get k us q2
    exact rl.ap j k z1 z2 b w1 w2 q3 q4
theorem qs_setD {o k : Expr} {ik ie : IE} (ho : PE X o (tVar i)) (hk : PX X W k (ev cf ik)) (he : PX X W e (ev cf ie)) (ha : ∀ v, assign (.Subscript o k p) X.env v = (do
      let ov ← holding [v] (eval o X.env)
      let iv ← holding [v, ov] (eval k X.env)
      standAt p
      holding [v, ov, iv] (setItem ov iv v)
      release [v, ov, iv] [])) (hs : swapsWithSole [.Subscript o k p] e pos.line X.env = pure false) (hw : swappedStores [.Subscript o k p] e X.env = pure none)
    (h1 : (assignEach [.Subscript o k p] X.env).map (·.2) = [assign (.Subscript o k p) X.env]) : QS X W (.Assign [.Subscript o k p] e pos) (evS cf (.setD i ik ie)) :=
  PS.imp (ps_asg (PX.d he) (pg_sub ho (PX.d hk) set_list ha) hs hw h1) fun Dn σ H ⟨fx, Fz, s, rl, p⟩ => ⟨fx, Fz, s, rl, by
    refine PostD.imp (PostS.bindD (σ := σ) p) fun v H1 ⟨F1, s1, d, g1, rl1, rp1, p1⟩ => ?_
    obtain ⟨hd, p1⟩ := PostS.dice p1
    obtain ⟨w, hw, a, da, rfl⟩ := rl1.sl i _ hd
    refine ⟨_, hw, fx, F1, s1, rl1, PostD.imp (PostS.bindD (σ := σ) p1) fun u H2 ⟨F2, s2, d2, g2, rl2, rp2, p2⟩ => ?_⟩
    split at p2
    · cases rp2
      cases rp1
      exact ⟨a, _, 0, 0, rfl, rfl, (rl2.dc a da).1, rfl, p2 σ _ F2 (Same.refl _) (rl2.setDice (δ := (_, s2.δ.2)) da)⟩
    · cases rp2
      cases rp1
      have h := p2 σ _ F2 (Same.refl _) (rl2.setDice (δ := (s2.δ.1, _)) da)
      exact ⟨a, _, 1, 1, rfl, rfl, (rl2.dc a da).1, rfl, h⟩
    · exact p2.elim⟩
theorem qs_setI {o k : Expr} {ik ie : IE} (ho : PE X o (tVar i)) (hk : PX X W k (ev cf ik)) (he : PX X W e (ev cf ie)) (ha : ∀ v, assign (.Subscript o k p) X.env v = (do
      let ov ← holding [v] (eval o X.env)
      let iv ← holding [v, ov] (eval k X.env)
      standAt p
      holding [v, ov, iv] (setItem ov iv v)
      release [v, ov, iv] [])) (hs : swapsWithSole [.Subscript o k p] e pos.line X.env = pure false) (hw : swappedStores [.Subscript o k p] e X.env = pure none)
    (h1 : (assignEach [.Subscript o k p] X.env).map (·.2) = [assign (.Subscript o k p) X.env]) : QS X W (.Assign [.Subscript o k p] e pos) (evS cf (.setI i ik ie)) :=
  PS.imp (ps_asg (PX.d he) (pg_sub ho (PX.d hk) set_list ha) hs hw h1) fun Dn σ H ⟨fx, Fz, s, rl, p⟩ => ⟨fx, Fz, s, rl, by
    refine PostD.imp (PostS.bindD (σ := σ) p) fun v H1 ⟨F1, s1, d, g1, rl1, rp1, p1⟩ => ?_
    obtain ⟨⟨xs, hd⟩, p1⟩ := PostS.own p1
    obtain ⟨w, hw, a, vs, rfl, _⟩ := rl1.sl i _ hd
    refine ⟨_, hw, fx, F1, s1, rl1, PostD.imp (PostS.bindD (σ := σ) p1) fun u H2 ⟨F2, s2, d2, g2, rl2, rp2, p2⟩ => ?_⟩
    split at p2
    · next hq =>
      split at p2
      · next n hn =>
        cases rp2
        obtain ⟨w', hw', a', vs', e', k1, k2, k3, k4⟩ := rl2.sl i _ hq
        subst e'
        rw [hw] at hw'; cases hw'
        refine ⟨a, vs', _, n, rfl, rfl, k1, by rw [k4.length]; exact hn, p2 σ _ F2 (Same.refl _) (rl2.setOwn hq hw (k4.set n (rp1.mono g2)))⟩
      · exact p2.elim
    · exact p2.elim⟩
theorem qs_app {o : Expr} {apos cpos : Pos} {ie : IE} (ho : PE X o (tVar i)) (he : PX X W e (ev cf ie)) (hsw : swapsWith (.Call (.Attribute o "append" apos) [e] [] cpos) none pos.line X.env = pure false)
    (hbase : attributeBase o "append" X.env (eval o X.env) = eval o X.env)
    (hfew : ((backTo cpos (starEach [e] X.env)).all (fun x => !x.1) && (backToKw cpos (keywordEach [] X.env)).all (fun x => x.1.isSome) && decide ([e].length + ([] : List Keyword).length + (if ([] : List Keyword).isEmpty then 0 else 1) < 30)) = true)
    (hline : (apos.endLine == cpos.line) = true) (hs : starEach [e] X.env = (false, eval e X.env) :: starEach [] X.env) : QS X W (.Expr (.Call (.Attribute o "append" apos) [e] [] cpos) pos) (evS cf (.app i ie)) :=
  PS.imp (ps_expr (pe_bm PySem.F.plainAttrs_list PySem.F.slot_list_append PySem.F.type_list_append mt_append ho (pa_cons (PX.d he) pa_nil hs) hbase hfew hline hs rfl) hsw) fun Dn σ H ⟨fx, Fz, s, rl, p⟩ => by
    obtain ⟨⟨xs, hd⟩, p1⟩ := PostS.own p
    obtain ⟨w, hw, a, vs, rfl, h2, _⟩ := rl.sl i _ hd
    refine ⟨_, hw, .inl ⟨rfl, _, SqL.of h2⟩, fx, Fz, s, rl, PostD.imp (PostS.bindD (σ := σ) p1) fun u H2 ⟨F2, s2, d2, g2, rl2, rp2, p2⟩ => ?_⟩
    split at p2
    · next hq =>
      split at p2
      · next hl =>
        obtain ⟨w', hw', a', vs', e', k1, k2, k3, k4⟩ := rl2.sl i _ hq
        subst e'
        rw [hw] at hw'; cases hw'
        refine ⟨a, vs', u, rfl, rfl, k1, ?_, p2 σ _ F2 (Same.refl _) (rl2.setOwn hq hw (k4.append (.cons rp2 .nil)))⟩
        rw [k4.length]
        exact Nat.lt_of_le_of_lt (of_decide_eq_true hl) (by rw [sizeLine_eq]; decide)
      · exact p2.elim
    · exact p2.elim
end
end PL
set_option maxHeartbeats 1000000
namespace PL
open PySem PySem.Spec PyProof.Rows L2
structure Cc where
  N : List Str
  defs : List (Str × Bool)
  glbs : List (Str × D)
  blts : List Str
  excs : List Str
def findIx (x : Str) : List Str → Option Nat
  | [] => none
  | y :: ys => if x = y then some 0 else (findIx x ys).map (· + 1)
def slotOf (cc : Cc) (sc : Scope) (x : Str) : Option Nat := match sc.names.lookup x with
  | some .local => findIx x cc.N
  | some .cell => findIx x cc.N
  | some .free => findIx x cc.N
  | _ => none
def isGl (sc : Scope) (x : Str) : Bool := match sc.names.lookup x with
  | some .globalImplicit => true
  | _ => false
def badName (x : Str) : Bool := x == ("__debug__" : Str) || x == ("__classdict__" : Str) || decide (x = ("__name__" : Str))
def nameSlot (cc : Cc) (sc : Scope) : Expr → Option Nat
  | .Name x _ => if badName x then none else slotOf cc sc x
  | _ => none
def noStar : Expr → Bool
  | .Starred _ _ => false
  | _ => true
def noSet : Expr → Bool
  | .Set _ _ _ => false
  | _ => true
def noSlice : Expr → Bool
  | .Slice _ _ _ _ => false
  | _ => true
def noComp : Expr → Bool
  | .ListComp _ _ _ _ => false
  | .SetComp _ _ _ _ => false
  | .DictComp _ _ _ _ _ => false
  | _ => true
def plainT : Expr → Bool
  | .UnaryOp _ _ _ => false
  | .BoolOp _ _ _ => false
  | .IfExp _ _ _ _ => false
  | .Compare _ _ _ _ => false
  | _ => true
def bopC : Operator → Option Bop
  | .Add => some .add | .Sub => some .sub | .Mult => some .mul | .FloorDiv => some .fdiv | .Mod => some .mod | .Pow => some .pow
  | _ => none
def copC : CmpOp → Expr → Option Cop
  | .Eq, _ => some .eq | .NotEq, _ => some .ne | .Lt, _ => some .lt | .LtE, _ => some .le | .Gt, _ => some .gt | .GtE, _ => some .ge
  | .In, _ => some .inn | .NotIn, _ => some .notIn
  | .Is, .Constant .none _ _ => some .isN
  | .IsNot, .Constant .none _ _ => some .notN
  | .Is, .Constant (.bool _) _ _ => some .isB
  | .IsNot, .Constant (.bool _) _ _ => some .notB
  | _, _ => none
def bltC (x : Str) (n : Nat) : Option Blt :=
  if n = 1 then
    if x = "len" then some .len else if x = "all" then some .all else if x = "any" then some .any else if x = "sum" then some .sum else if x = "abs" then some .abs
    else if x = "tuple" then some .tuple else if x = "list" then some .list else none
  else if n = 2 then
    if x = "max" then some .max2 else if x = "min" then some .min2 else none
  else none
def tyC (x : Str) : Option Ty :=
  if x = "int" then some .int else if x = "bool" then some .bool else if x = "str" then some .str else if x = "tuple" then some .tuple else if x = "list" then some .list else none
def defIx (x : Str) : List (Str × Bool) → Option (Nat × Bool)
  | [] => none
  | (y, b) :: r => if x = y then some (0, b) else (defIx x r).map fun p => (p.1 + 1, p.2)
abbrev CE := Scope → Expr → Option IE
def cA (r : CE) (sc : Scope) : List Expr → Option IE
  | [] => some .nil
  | e :: es => if noStar e then (r sc e).bind fun a => (cA r sc es).map fun b => .cons a b else none
def cAnd (r : CE) (sc : Scope) : List Expr → Option IE
  | [] => none
  | [a] => r sc a
  | a :: rest => (r sc a).bind fun ia => (cAnd r sc rest).map fun ib => .and ia ib
def cOr (r : CE) (sc : Scope) : List Expr → Option IE
  | [] => none
  | [a] => r sc a
  | a :: rest => (r sc a).bind fun ia => (cOr r sc rest).map fun ib => .or ia ib
def cPart (r : CE) (sc : Scope) : Option Expr → Option (Bool × IE)
  | none => some (false, .nil)
  | some e => (r sc e).map fun a => (true, a)
def cCmp (cc : Cc) (r : CE) (sc : Scope) (a : Expr) (ops : List CmpOp) (bs : List Expr) : Option IE := match ops, bs with
  | [op], [b] => (copC op b).bind fun o => if noSet b then (match nameSlot cc sc a with
    | some i => (r sc b).map fun ib => .cmpL o i ib
    | none => match o, nameSlot cc sc b with
      | .inn, some j => (r sc a).map fun ia => .cmpR o ia j
      | .notIn, some j => (r sc a).map fun ia => .cmpR o ia j
      | _, _ => (r sc a).bind fun ia => (r sc b).map fun ib => .cmp o ia ib) else none
  | [op, op'], [b, c] => (copC op b).bind fun o => (copC op' c).bind fun o' => if noSet c then (r sc a).bind fun ia => (r sc b).bind fun ib => (r sc c).map fun ic => .chain o o' ia ib ic else none
  | _, _ => none
def cNames (cc : Cc) (sc : Scope) : List Expr → Option (List Nat)
  | [] => some []
  | .Name x _ :: es => match sc.names.lookup x with
    | some .local => (findIx x cc.N).bind fun i => (cNames cc sc es).map fun is => i :: is
    | _ => none
  | _ => none
def cTg (cc : Cc) (sc : Scope) : Expr → Option Tg
  | .Name x _ => match sc.names.lookup x with
    | some .local => (findIx x cc.N).map .nm
    | _ => none
  | .Tuple es _ _ => (cNames cc sc es).map .tp
  | _ => none
def rangeArgs (cc : Cc) (sc : Scope) : Expr → Option (List Expr)
  | .Call (.Name f _) args [] _ => if f = "range" ∧ isGl sc f ∧ f ∈ cc.blts then some args else none
  | _ => none
def cIt (cc : Cc) (r : CE) (sc : Scope) (e : Expr) : Option (Itk × IE) := match rangeArgs cc sc e with
  | some [a] => (cA r sc [a]).map fun l => (.range1, l)
  | some [a, b] => (cA r sc [a, b]).map fun l => (.range2, l)
  | some _ => none
  | none => if noSet e then (r sc e).map fun a => (.seq, .cons a .nil) else none
def ownOf (cc : Cc) (scope : Scope) : List (Str × Nat) := scope.names.filterMap fun (n, k) => match k with
  | .local => (findIx n cc.N).map fun i => (n, i)
  | .cell => (findIx n cc.N).map fun i => (n, i)
  | _ => none
def reads : IE → List Nat
  | .nil => [] | .cons a b => reads a ++ reads b
  | .var i => [i]
  | .cst _ => [] | .glb _ _ => []
  | .tup l => reads l | .lst l => reads l
  | .op _ a b => reads a ++ reads b | .neg a => reads a
  | .opB _ i b => i :: reads b
  | .cmp _ a b => reads a ++ reads b | .cmpL _ i b => i :: reads b | .cmpR _ a i => i :: reads a
  | .chain _ _ a b c => reads a ++ reads b ++ reads c
  | .not a => reads a | .and a b => reads a ++ reads b | .or a b => reads a ++ reads b
  | .ife t a b => reads t ++ reads a ++ reads b
  | .call _ l => reads l | .callD _ _ l => reads l
  | .blt _ l => reads l | .bltB _ i => [i]
  | .isi a _ => reads a
  | .ix a b => reads a ++ reads b | .ixB i b => i :: reads b
  | .slc _ _ a lo hi => reads a ++ reads lo ++ reads hi | .slcB _ _ i lo hi => i :: (reads lo ++ reads hi)
  | .lc _ _ _ _ l c e => reads l ++ reads c ++ reads e
def cTests (r : CE) (sc : Scope) : List Expr → Option IE
  | [] => some (.cst (.bool true))
  | [c] => r sc c
  | _ => none
def cLc (cc : Cc) (rE rT : CE) (sc : Scope) (elt tgE iter : Expr) (ifs : List Expr) (scope : Scope) : Option IE :=
  let own := ownOf cc scope
  let sc' := relS scope sc
  if blkC cc.N sc scope own then
    (cIt cc rE sc iter).bind fun (k, il) => (cTg cc sc' tgE).bind fun tg => if (tgSlots tg).all (fun i => (own.map (·.2)).contains i) && noSet iter then
      (cTests rT sc' ifs).bind fun ic => (rE sc' elt).map fun ie => .lc (reads ic ++ reads ie) (own.map (·.2)) tg k il ic ie
    else none
  else none
def cCall (cc : Cc) (r : CE) (sc : Scope) (f : Str) (args : List Expr) : Option IE :=
  if isGl sc f && !badName f then
    match defIx f cc.defs with
    | some (n, true) => match args with
      | d :: rest => (nameSlot cc sc d).bind fun i => (cA r sc rest).map fun l => .callD n i l
      | [] => none
    | some (n, false) => match args with
      | e :: es => (cA r sc (e :: es)).map fun l => .call n l
      | [] => none
    | none => if f ∈ cc.blts then
        if f = "isinstance" then
          match args with
          | [a, .Name y _] => if isGl sc y && decide (y ∈ cc.blts) && !badName y && noStar a then (tyC y).bind fun t => (r sc a).map fun ia => .isi ia t else none
          | _ => none
        else match args with
          | [] => none
          | e :: es => (bltC f (e :: es).length).bind fun k => match es, nameSlot cc sc e with
            | [], some i => some (.bltB k i)
            | _, _ => (cA r sc (e :: es)).map fun l => .blt k l
      else none
  else none
def cEstep (cc : Cc) (rE rT : CE) (sc : Scope) : Expr → Option IE
  | .Name x p => match nameSlot cc sc (.Name x p) with
    | some i => some (.var i)
    | none => if isGl sc x && !badName x then (cc.glbs.lookup x).map fun d => .glb x d else none
  | .Constant (.int i) _ _ => some (.cst (.int i))
  | .Constant (.bool i) _ _ => some (.cst (.bool i))
  | .Constant (.str i) _ _ => some (.cst (.str i))
  | .Constant .none _ _ => some (.cst .none)
  | .Tuple es _ _ => (cA rE sc es).map .tup
  | .List es _ => (cA rE sc es).map .lst
  | .BinOp a op b _ => (bopC op).bind fun o => match nameSlot cc sc a with
    | some i => (rE sc b).map fun ib => .opB o i ib
    | none => (rE sc a).bind fun ia => (rE sc b).map fun ib => .op o ia ib
  | .UnaryOp .USub a _ => (rE sc a).map .neg
  | .UnaryOp .Not a _ => (rE sc a).map .not
  | .BoolOp .And vs _ => cAnd rE sc vs
  | .BoolOp .Or vs _ => cOr rE sc vs
  | .Compare a ops bs _ => cCmp cc rE sc a ops bs
  | .IfExp t a b _ => (rT sc t).bind fun it => (rE sc a).bind fun ia => (rE sc b).map fun ib => .ife it ia ib
  | .Call (.Name f _) args [] _ => cCall cc rE sc f args
  | .Subscript a (.Slice lo hi none _) _ => (cPart rE sc lo).bind fun (bl, il) => (cPart rE sc hi).bind fun (bh, ih) => match nameSlot cc sc a with
    | some i => some (.slcB bl bh i il ih)
    | none => (rE sc a).map fun ia => .slc bl bh ia il ih
  | .Subscript a b _ => if noSlice b then (rE sc b).bind fun ib => match nameSlot cc sc a with
      | some i => some (.ixB i ib)
      | none => (rE sc a).map fun ia => .ix ia ib
    else none
  | .ListComp elt [⟨tgE, iter, ifs, 0⟩] scope _ => cLc cc rE rT sc elt tgE iter ifs scope
  | _ => none
def cTstep (cc : Cc) (rE rT : CE) (sc : Scope) : Expr → Option IE
  | .UnaryOp .Not a _ => (rT sc a).map .not
  | .BoolOp .And vs _ => cAnd rT sc vs
  | .BoolOp .Or vs _ => cOr rT sc vs
  | .Compare a ops bs _ => cCmp cc rE sc a ops bs
  | e => if plainT e then rE sc e else none
def comp (cc : Cc) : Nat → CE × CE
  | 0 => (fun _ _ => none, fun _ _ => none)
  | n + 1 => (cEstep cc (comp cc n).1 (comp cc n).2, cTstep cc (comp cc n).1 (comp cc n).2)
end PL
set_option maxHeartbeats 2000000
namespace PL
open PySem PySem.Spec PyProof.Rows L2
structure CtxOk (cc : Cc) (cf : CF) (X : Cx) (W : WX) (k : Nat) : Prop where
  N : X.N = cc.N
  nd : cc.N.Nodup
  calm : X.calm = true
  tk : Takes X W
  room : Room k X.A
  defs : ∀ (n : Nat) x dc, cc.defs[n]? = some (x, dc) → ∃ f fd ps, X.mg x = some (.ref f) ∧ PySem.W.keepIn X.K (.ref f) = true ∧ Binds X.K fd ps [] ∧ FnOk X.prog X.w X.K X.mg X.base (L2.CX X.prog X.w) k f fd ps (spD X.K X.mg (cf n) dc)
  glbs : ∀ x d, cc.glbs.lookup x = some d → ∃ v u, X.mg x = some u ∧ RelV v u ∧ ∀ F, Rp X.K F v d
  blts : ∀ x, x ∈ cc.blts → X.mg x = none
def OkE (cc : Cc) (cf : CF) (k : Nat) (r : CE) : Prop := ∀ sc e ir X W, r sc e = some ir → CtxOk cc cf X W k → X.env.scope = sc → PX X W e (ev cf ir)
def OkT (cc : Cc) (cf : CF) (k : Nat) (r : CE) : Prop := ∀ sc e ir X W, r sc e = some ir → CtxOk cc cf X W k → X.env.scope = sc → PXT X W e (evB cf ir)
theorem findIx_ok {x : Str} : ∀ {N : List Str} {i : Nat}, findIx x N = some i → N[i]? = some x
  | [], i, h => by cases h
  | y :: ys, i, h => by
    unfold findIx at h
    split at h
    · next e => cases h; subst e; rfl
    · rw [Option.map_eq_some_iff] at h
      obtain ⟨j, h1, rfl⟩ := h
      rw [List.getElem?_cons_succ]
      exact findIx_ok h1
theorem defIx_ok {x : Str} : ∀ {l : List (Str × Bool)} {n : Nat} {b : Bool}, defIx x l = some (n, b) → l[n]? = some (x, b)
  | [], n, b, h => by cases h
  | (y, c) :: r, n, b, h => by
    unfold defIx at h
    split at h
    · next e => cases h; subst e; rfl
    · rw [Option.map_eq_some_iff] at h
      obtain ⟨⟨m, d⟩, h1, h2⟩ := h
      cases h2
      rw [List.getElem?_cons_succ]
      exact defIx_ok h1
theorem badName_no {x : Str} (h : ¬ badName x = true) : (x == ("__debug__" : Str)) = false ∧ (x == ("__classdict__" : Str)) = false ∧ x ≠ "__name__" := by
  unfold badName at h
  simp only [Bool.or_eq_true, not_or, decide_eq_true_eq] at h
  exact ⟨by simpa using h.1.1, by simpa using h.1.2, h.2⟩
theorem slotOf_ok {cc : Cc} {sc : Scope} {x : Str} {i : Nat} (h : slotOf cc sc x = some i) : cc.N[i]? = some x ∧ Vis sc x := by
  unfold slotOf at h
  split at h
  · next e => exact ⟨findIx_ok h, .inl e⟩
  · next e => exact ⟨findIx_ok h, .inr (.inl e)⟩
  · next e => exact ⟨findIx_ok h, .inr (.inr e)⟩
  · cases h
section
variable {cc : Cc} {cf : CF} {k : Nat} {X : Cx} {W : WX} {sc : Scope} {e a b : Expr} {i : Nat} {ir : IE} {rE rT r : CE} {pos : Pos}
theorem nameSlot_ok (c : CtxOk cc cf X W k) (hs : X.env.scope = sc) (h : nameSlot cc sc e = some i) : PE X e (tVar i) := by
  unfold nameSlot at h
  split at h
  · split at h
    · cases h
    · next hb =>
      obtain ⟨h1, h2⟩ := slotOf_ok h
      obtain ⟨b1, b2, b3⟩ := badName_no hb
      exact pe_var (by rw [c.N]; exact h1) (by rw [hs]; exact h2) b1 b2
  · cases h
theorem nameSlot_star (h : nameSlot cc sc e = some i) : noStar e = true := by
  unfold nameSlot at h
  split at h
  · rfl
  · cases h
theorem isGl_ok {x : Str} (hs : X.env.scope = sc) (h : isGl sc x = true) : Gl X x := by
  unfold isGl at h
  split at h
  · next e => show X.env.scope.names.lookup x = _; rw [hs]; exact e
  · cases h
theorem star_cons {env : Env} {es : List Expr} (h : noStar e = true) : starEach (e :: es) env = (false, eval e env) :: starEach es env := by
  cases e <;> first | rfl | (simp [noStar] at h)
theorem cA_star {env : Env} : ∀ {es : List Expr} {ir : IE}, cA r sc es = some ir → (backTo pos (starEach es env)).any (·.1) = false
  | [], _, _ => rfl
  | e :: es, ir, h => by
    unfold cA at h
    split at h
    · next hn =>
      rw [Option.bind_eq_some_iff] at h
      obtain ⟨x, _, h⟩ := h
      rw [Option.map_eq_some_iff] at h
      obtain ⟨y, h2, _⟩ := h
      rw [star_cons hn]
      show ((false || (backTo pos (starEach es env)).any (·.1)) = false)
      rw [cA_star h2]; rfl
    · cases h
theorem cA_head {es : List Expr} {ir : IE} (h : cA r sc (e :: es) = some ir) : noStar e = true := by
  unfold cA at h
  split at h
  · assumption
  · cases h
theorem cA_ok (hr : OkE cc cf k r) (c : CtxOk cc cf X W k) (hs : X.env.scope = sc) : ∀ {es : List Expr} {ir : IE}, cA r sc es = some ir → PXA X W es (ev cf ir)
  | [], ir, h => by cases h; exact pxa_nil
  | e :: es, ir, h => by
    have hn := cA_head h
    unfold cA at h
    rw [if_pos hn, Option.bind_eq_some_iff] at h
    obtain ⟨x, h1, h⟩ := h
    rw [Option.map_eq_some_iff] at h
    obtain ⟨y, h2, rfl⟩ := h
    exact pxa_cons (hr _ _ _ _ _ h1 c hs) (cA_ok hr c hs h2) (star_cons hn)
theorem cAnd_ok (hr : OkE cc cf k r) (c : CtxOk cc cf X W k) (hs : X.env.scope = sc) : ∀ {es : List Expr} {ir : IE}, cAnd r sc es = some ir → PX X W (.BoolOp .And es pos) (ev cf ir)
  | [], ir, h => by cases h
  | [a], ir, h => px_one (hr _ _ _ _ _ h c hs)
  | a :: b :: rest, ir, h => by
    rw [cAnd, Option.bind_eq_some_iff] at h
    · obtain ⟨x, h1, h⟩ := h
      rw [Option.map_eq_some_iff] at h
      obtain ⟨y, h2, rfl⟩ := h
      exact px_and (hr _ _ _ _ _ h1 c hs) (cAnd_ok hr c hs h2)
    · intro z; cases z
theorem cOr_ok (hr : OkE cc cf k r) (c : CtxOk cc cf X W k) (hs : X.env.scope = sc) : ∀ {es : List Expr} {ir : IE}, cOr r sc es = some ir → PX X W (.BoolOp .Or es pos) (ev cf ir)
  | [], ir, h => by cases h
  | [a], ir, h => px_one (hr _ _ _ _ _ h c hs)
  | a :: b :: rest, ir, h => by
    rw [cOr, Option.bind_eq_some_iff] at h
    · obtain ⟨x, h1, h⟩ := h
      rw [Option.map_eq_some_iff] at h
      obtain ⟨y, h2, rfl⟩ := h
      exact px_or (hr _ _ _ _ _ h1 c hs) (cOr_ok hr c hs h2)
    · intro z; cases z
theorem cAndT_ok (hr : OkT cc cf k r) (c : CtxOk cc cf X W k) (hs : X.env.scope = sc) : ∀ {es : List Expr} {ir : IE}, cAnd r sc es = some ir → PXW X W (.BoolOp .And es pos) (evB cf ir)
  | [], ir, h => by cases h
  | [a], ir, h => pxw_and1 (hr _ _ _ _ _ h c hs)
  | a :: b :: rest, ir, h => by
    rw [cAnd, Option.bind_eq_some_iff] at h
    · obtain ⟨x, h1, h⟩ := h
      rw [Option.map_eq_some_iff] at h
      obtain ⟨y, h2, rfl⟩ := h
      exact pxw_and (hr _ _ _ _ _ h1 c hs) (cAndT_ok hr c hs h2)
    · intro z; cases z
theorem cOrT_ok (hr : OkT cc cf k r) (c : CtxOk cc cf X W k) (hs : X.env.scope = sc) : ∀ {es : List Expr} {ir : IE}, cOr r sc es = some ir → PXW X W (.BoolOp .Or es pos) (evB cf ir)
  | [], ir, h => by cases h
  | [a], ir, h => pxw_or1 (hr _ _ _ _ _ h c hs)
  | a :: b :: rest, ir, h => by
    rw [cOr, Option.bind_eq_some_iff] at h
    · obtain ⟨x, h1, h⟩ := h
      rw [Option.map_eq_some_iff] at h
      obtain ⟨y, h2, rfl⟩ := h
      exact pxw_or (hr _ _ _ _ _ h1 c hs) (cOrT_ok hr c hs h2)
    · intro z; cases z
theorem units65 (c : CtxOk cc cf X W k) : X.A.units + 65 < cLine := by have := c.room.un; omega
theorem copC_ok {op : CmpOp} {o : Cop} (h : copC op b = some o) : op = copOf o := by
  unfold copC at h
  split at h <;> first | (cases h; rfl) | cases h
theorem marks_ok {op : CmpOp} (h : noSet b = true) : behindInMarks op b = false := by
  cases b <;> first | rfl | (simp [noSet] at h)
theorem cCmp_ok {ops : List CmpOp} {bs : List Expr} (hr : OkE cc cf k r) (c : CtxOk cc cf X W k) (hs : X.env.scope = sc) (h : cCmp cc r sc a ops bs = some ir) : PX X W (.Compare a ops bs pos) (ev cf ir) ∧ PXT X W (.Compare a ops bs pos) (evB cf ir) := by
  have hu := units65 c
  unfold cCmp at h
  split at h
  · rw [Option.bind_eq_some_iff] at h
    obtain ⟨o, h1, h⟩ := h
    have ho := copC_ok h1
    subst ho
    split at h
    · next hn =>
      split at h
      · next i hi =>
        rw [Option.map_eq_some_iff] at h
        obtain ⟨ib, h2, rfl⟩ := h
        exact ⟨px_cmpL hu (nameSlot_ok c hs hi) (hr _ _ _ _ _ h2 c hs) (marks_ok hn), pxt_cmpL hu (nameSlot_ok c hs hi) (hr _ _ _ _ _ h2 c hs) (marks_ok hn)⟩
      · split at h
        · next j hj =>
          rw [Option.map_eq_some_iff] at h
          obtain ⟨ib, h2, rfl⟩ := h
          exact ⟨px_cmpR hu (hr _ _ _ _ _ h2 c hs) (nameSlot_ok c hs hj) (marks_ok hn), pxt_cmpR hu (hr _ _ _ _ _ h2 c hs) (nameSlot_ok c hs hj) (marks_ok hn)⟩
        · next j hj =>
          rw [Option.map_eq_some_iff] at h
          obtain ⟨ib, h2, rfl⟩ := h
          exact ⟨px_cmpR hu (hr _ _ _ _ _ h2 c hs) (nameSlot_ok c hs hj) (marks_ok hn), pxt_cmpR hu (hr _ _ _ _ _ h2 c hs) (nameSlot_ok c hs hj) (marks_ok hn)⟩
        · rw [Option.bind_eq_some_iff] at h
          obtain ⟨ia, h2, h⟩ := h
          rw [Option.map_eq_some_iff] at h
          obtain ⟨ib, h3, rfl⟩ := h
          exact ⟨px_cmp hu (hr _ _ _ _ _ h2 c hs) (hr _ _ _ _ _ h3 c hs) (marks_ok hn), pxt_cmp hu (hr _ _ _ _ _ h2 c hs) (hr _ _ _ _ _ h3 c hs) (marks_ok hn)⟩
    · cases h
  · rw [Option.bind_eq_some_iff] at h
    obtain ⟨o, h1, h⟩ := h
    have ho := copC_ok h1
    subst ho
    rw [Option.bind_eq_some_iff] at h
    obtain ⟨o', h1', h⟩ := h
    have ho := copC_ok h1'
    subst ho
    split at h
    · next hn =>
      rw [Option.bind_eq_some_iff] at h
      obtain ⟨ia, h2, h⟩ := h
      rw [Option.bind_eq_some_iff] at h
      obtain ⟨ib, h3, h⟩ := h
      rw [Option.map_eq_some_iff] at h
      obtain ⟨ic, h4, rfl⟩ := h
      exact ⟨px_chain hu (hr _ _ _ _ _ h2 c hs) (hr _ _ _ _ _ h3 c hs) (hr _ _ _ _ _ h4 c hs) (marks_ok hn), pxt_chain hu (hr _ _ _ _ _ h2 c hs) (hr _ _ _ _ _ h3 c hs) (hr _ _ _ _ _ h4 c hs) (marks_ok hn)⟩
    · cases h
  · cases h
theorem bopC_ok {op : Operator} {o : Bop} (h : bopC op = some o) : op = opOf o := by
  unfold bopC at h
  split at h <;> first | (cases h; rfl) | cases h
theorem bltC_ok {x : Str} {n : Nat} {b : Blt} (h : bltC x n = some b) : x = bltName b := by
  unfold bltC at h
  repeat' split at h
  all_goals first | (cases h; assumption) | cases h
theorem tyC_ok {x : Str} {t : Ty} (h : tyC x = some t) : bootBuiltins x = some (.type (tyN t)) := by
  unfold tyC at h
  repeat' split at h
  all_goals first | (cases h; subst_vars; decide +kernel) | cases h
theorem cCall_ok {f : Str} {p : Pos} {args : List Expr} (hr : OkE cc cf k r) (c : CtxOk cc cf X W k) (hs : X.env.scope = sc) (h : cCall cc r sc f args = some ir) : PX X W (.Call (.Name f p) args [] pos) (ev cf ir) := by
  unfold cCall at h
  split at h
  · next hg =>
    rw [Bool.and_eq_true] at hg
    have gl := isGl_ok hs hg.1
    obtain ⟨b1, b2, b3⟩ := badName_no (x := f) (by simpa using hg.2)
    split at h
    · next hd =>
      obtain ⟨fa, fd, ps, m1, m2, m3, m4⟩ := c.defs _ _ _ (defIx_ok hd)
      split at h
      · rw [Option.bind_eq_some_iff] at h
        obtain ⟨i, h1, h⟩ := h
        rw [Option.map_eq_some_iff] at h
        obtain ⟨l, h2, rfl⟩ := h
        exact px_callD m4 c.room gl m1 m2 m3 c.tk (nameSlot_ok c hs h1) (cA_ok hr c hs h2) b1 (star_cons (nameSlot_star h1)) (cA_star h2)
      · cases h
    · next hd =>
      obtain ⟨fa, fd, ps, m1, m2, m3, m4⟩ := c.defs _ _ _ (defIx_ok hd)
      split at h
      · rw [Option.map_eq_some_iff] at h
        obtain ⟨l, h2, rfl⟩ := h
        have h2' := h2
        unfold cA at h2'
        rw [if_pos (cA_head h2), Option.bind_eq_some_iff] at h2'
        obtain ⟨_, _, h3⟩ := h2'
        rw [Option.map_eq_some_iff] at h3
        obtain ⟨_, h4, _⟩ := h3
        exact px_call m4 c.room gl m1 m2 m3 c.tk (cA_ok hr c hs h2) b1 (star_cons (cA_head h2)) (cA_star h4)
      · cases h
    · split at h
      · next hb =>
        split at h
        · next hi =>
          split at h
          · split at h
            · next hy =>
              rw [Bool.and_eq_true, Bool.and_eq_true, Bool.and_eq_true] at hy
              rw [Option.bind_eq_some_iff] at h
              obtain ⟨t, h1, h⟩ := h
              rw [Option.map_eq_some_iff] at h
              obtain ⟨ia, h2, rfl⟩ := h
              obtain ⟨c1, c2, c3⟩ := badName_no (x := _) (by simpa using hy.1.2)
              exact px_isi hi gl (c.blts _ hb) (isGl_ok hs hy.1.1.1) (c.blts _ (of_decide_eq_true hy.1.1.2)) (tyC_ok h1) c3 c1 (hr _ _ _ _ _ h2 c hs) (star_cons hy.2)
            · cases h
          · cases h
        · split at h
          · cases h
          · rw [Option.bind_eq_some_iff] at h
            obtain ⟨k', h1, h⟩ := h
            have hx := bltC_ok h1
            split at h
            · next i hi =>
              cases h
              exact px_bltB c.calm hx gl (c.blts _ hb) (nameSlot_ok c hs hi) (star_cons (nameSlot_star hi))
            · rw [Option.map_eq_some_iff] at h
              obtain ⟨l, h2, rfl⟩ := h
              have h2' := h2
              unfold cA at h2'
              rw [if_pos (cA_head h2), Option.bind_eq_some_iff] at h2'
              obtain ⟨_, _, h3⟩ := h2'
              rw [Option.map_eq_some_iff] at h3
              obtain ⟨_, h4, _⟩ := h3
              exact px_blt c.calm hx gl (c.blts _ hb) (cA_ok hr c hs h2) (star_cons (cA_head h2)) (cA_star h4)
      · cases h
  · cases h
end
end PL
set_option maxHeartbeats 2000000
namespace PL
open PySem PySem.Spec PyProof.Rows L2
section
variable {cc : Cc} {cf : CF} {k : Nat} {X : Cx} {W : WX} {sc : Scope} {e a b : Expr} {i : Nat} {ir : IE} {rE rT r : CE} {pos : Pos}
theorem CtxOk.blk (c : CtxOk cc cf X W k) (s : Shared) (H : Hp) (scope : Scope) (cenv : Env) (fp : List Addr) : CtxOk cc cf (X.blk s H scope cenv fp) W0 k :=
  ⟨c.N, c.nd, c.calm, takes0, c.room, c.defs, c.glbs, c.blts⟩
theorem blk_scope {scope : Scope} {cl : List (Str × Addr)} {C : Addr} (hs : X.env.scope = sc) : (compEnvC scope cl C X.env).scope = relS scope sc := by
  subst hs; rfl
theorem cNames_ok (c : CtxOk cc cf X W k) (hs : X.env.scope = sc) : ∀ {es : List Expr} {is : List Nat}, cNames cc sc es = some is → PGs X es (gNames is) ∧ (assignEach es X.env).length = is.length ∧ (assignEach es X.env).findIdx? (·.1) = none
  | [], is, h => by cases h; exact ⟨pgs_nil, rfl, rfl⟩
  | e :: es, is, h => by
    unfold cNames at h
    split at h
    · next h1 => cases h1
    · next x p es' h1 =>
      cases h1
      split at h
      · next hl =>
        rw [Option.bind_eq_some_iff] at h
        obtain ⟨i, h2, h⟩ := h
        rw [Option.map_eq_some_iff] at h
        obtain ⟨js, h3, rfl⟩ := h
        obtain ⟨g1, g2, g3⟩ := cNames_ok c hs h3
        have hl' : X.env.scope.names.lookup x = some .local := by rw [hs]; exact hl
        refine ⟨pgs_cons (pg_name (by rw [c.N]; exact c.nd) (by rw [c.N]; exact findIx_ok h2) (.inl hl') (.inr hl')) g1 rfl, by show _ + 1 = _ + 1; rw [g2], ?_⟩
        show List.findIdx? (·.1) ((false, assign (.Name x p) X.env) :: assignEach es X.env) = none
        rw [List.findIdx?_cons, g3]; rfl
      · cases h
    · cases h
theorem cTg_ok {tg : Tg} (c : CtxOk cc cf X W k) (hs : X.env.scope = sc) (h : cTg cc sc e = some tg) : PG X e (tgR X.K tg) := by
  unfold cTg at h
  split at h
  · split at h
    · next hl =>
      rw [Option.map_eq_some_iff] at h
      obtain ⟨i, h2, rfl⟩ := h
      subst hs
      exact pg_name (by rw [c.N]; exact c.nd) (by rw [c.N]; exact findIx_ok h2) (.inl hl) (.inr hl)
    · cases h
  · rw [Option.map_eq_some_iff] at h
    obtain ⟨is, h2, rfl⟩ := h
    obtain ⟨g1, g2, g3⟩ := cNames_ok c hs h2
    exact pg_tup c.calm g1 g2 g3
  · cases h
theorem rangeArgs_ok {args : List Expr} (h : rangeArgs cc sc e = some args) : ∃ p q, e = .Call (.Name "range" p) args [] q ∧ isGl sc "range" = true ∧ ("range" : Str) ∈ cc.blts := by
  unfold rangeArgs at h
  split at h
  · split at h
    · next hc =>
      cases h
      obtain ⟨h1, h2, h3⟩ := hc
      subst h1
      exact ⟨_, _, rfl, h2, h3⟩
    · cases h
  · cases h
theorem cIt_ok {tg : Expr} {kd : Itk} {il : IE} (hr : OkE cc cf k r) (c : CtxOk cc cf X W k) (hs : X.env.scope = sc) (h : cIt cc r sc e = some (kd, il)) : PXI X W tg e (itM kd (ev cf il)) ∧ (∀ x, foldedSetIterable e X.env x = pure x) := by
  unfold cIt at h
  split at h
  · next a h1 =>
    obtain ⟨p, q, rfl, h2, h3⟩ := rangeArgs_ok h1
    rw [Option.map_eq_some_iff] at h
    obtain ⟨l, h4, h5⟩ := h
    cases h5
    exact ⟨pxi_range1 rfl (isGl_ok hs h2) (c.blts _ h3) (cA_ok hr c hs h4) (star_cons (cA_head h4)), fun _ => rfl⟩
  · next a b h1 =>
    obtain ⟨p, q, rfl, h2, h3⟩ := rangeArgs_ok h1
    rw [Option.map_eq_some_iff] at h
    obtain ⟨l, h4, h5⟩ := h
    cases h5
    have h4' := h4
    unfold cA at h4'
    rw [if_pos (cA_head h4), Option.bind_eq_some_iff] at h4'
    obtain ⟨_, _, h6⟩ := h4'
    rw [Option.map_eq_some_iff] at h6
    obtain ⟨_, h7, _⟩ := h6
    refine ⟨pxi_range2 rfl (isGl_ok hs h2) (c.blts _ h3) (cA_ok hr c hs h4) ?_ (star_cons (cA_head h7)), fun _ => rfl⟩
    rw [star_cons (cA_head h4), star_cons (cA_head h7)]; rfl
  · cases h
  · split at h
    · next hn =>
      rw [Option.map_eq_some_iff] at h
      obtain ⟨l, h4, h5⟩ := h
      cases h5
      refine ⟨pxi_seq (hr _ _ _ _ _ h4 c hs), fun x => ?_⟩
      cases e <;> first | rfl | (simp [noSet] at hn)
    · cases h
theorem cTests_ok {ifs : List Expr} (hr : OkT cc cf k r) (c : CtxOk cc cf X W k) (hs : X.env.scope = sc) (h : cTests r sc ifs = some ir) : PTs X ifs (tBo X.K X.mg W (evB cf ir)) := by
  unfold cTests at h
  split at h
  · cases h
    exact ⟨fun pins s σ H Q I hw => pts_nil.run pins s σ H Q I (by
      obtain ⟨fx, Fz, s, rl, p⟩ := hw
      exact p H Fz (Same.refl _) rl)⟩
  · exact pts_one (hr _ _ _ _ _ h c hs)
  · cases h
structure LcOk (cc : Cc) (cf : CF) (k : Nat) (X : Cx) (W : WX) (elt tgE iter : Expr) (ifs : List Expr) (scope : Scope) (ir : IE) : Prop where
  ex : ∃ (own : List (Str × Nat)) (fz : List Nat) (tg : Tg) (kd : Itk) (il ic ie : IE), ir = .lc fz (own.map (·.2)) tg kd il ic ie ∧ BlkOk X.N X.env.scope scope own ∧ (∀ i ∈ tgSlots tg, i ∈ own.map (·.2)) ∧ PXI X W tgE iter (itM kd (ev cf il)) ∧ (∀ x, foldedSetIterable iter X.env x = pure x) ∧
    (∀ (s : Shared) (H : Hp) (C : Addr) (cl : List (Str × Addr)) (fp : List Addr), PG (X.blk s H scope (compEnvC scope cl C X.env) fp) tgE (tgR X.K tg)) ∧
    (∀ (s : Shared) (H : Hp) (C : Addr) (cl : List (Str × Addr)) (fp : List Addr), PTs (X.blk s H scope (compEnvC scope cl C X.env) fp) ifs (tBo X.K X.mg W0 (evB cf ic))) ∧
    (∀ (s : Shared) (H : Hp) (C : Addr) (cl : List (Str × Addr)) (fp : List Addr), PX (X.blk s H scope (compEnvC scope cl C X.env) fp) W0 elt (ev cf ie))
theorem cLc_ok {elt tgE iter : Expr} {ifs : List Expr} {scope : Scope} (hE : OkE cc cf k rE) (hT : OkT cc cf k rT) (c : CtxOk cc cf X W k) (hs : X.env.scope = sc) (h : cLc cc rE rT sc elt tgE iter ifs scope = some ir) : LcOk cc cf k X W elt tgE iter ifs scope ir := by
  unfold cLc at h
  dsimp only at h
  split at h
  · next hb =>
    rw [Option.bind_eq_some_iff] at h
    obtain ⟨⟨kd, il⟩, h1, h⟩ := h
    rw [Option.bind_eq_some_iff] at h
    obtain ⟨tg, h2, h⟩ := h
    split at h
    · next hc =>
      rw [Bool.and_eq_true] at hc
      rw [Option.bind_eq_some_iff] at h
      obtain ⟨ic, h3, h⟩ := h
      rw [Option.map_eq_some_iff] at h
      obtain ⟨ie, h4, rfl⟩ := h
      obtain ⟨g1, g2⟩ := cIt_ok (tg := tgE) hE c hs h1
      refine ⟨ownOf cc scope, _, tg, kd, il, ic, ie, rfl, ?_, fun i hi => ?_, g1, g2, fun s H C cl fp => ?_, fun s H C cl fp => ?_, fun s H C cl fp => ?_⟩
      · rw [c.N, hs]; exact blkOk_by hb
      · have := List.all_eq_true.mp hc.1 i hi
        simpa using this
      · exact cTg_ok (c.blk s H scope _ fp) (blk_scope hs) h2
      · exact cTests_ok hT (c.blk s H scope _ fp) (blk_scope hs) h3
      · exact hE _ _ _ _ _ h4 (c.blk s H scope _ fp) (blk_scope hs)
    · cases h
  · cases h
theorem LcOk.px {elt tgE iter : Expr} {ifs : List Expr} {scope : Scope} (c : CtxOk cc cf X W k) (h : LcOk cc cf k X W elt tgE iter ifs scope ir) : PX X W (.ListComp elt [⟨tgE, iter, ifs, 0⟩] scope pos) (ev cf ir) := by
  obtain ⟨own, fz, tg, kd, il, ic, ie, rfl, h1, h2, h3, h4, h5, h6, h7⟩ := h.ex
  exact px_lc c.calm (by rw [c.N]; exact c.nd) h3 h1 h2 h5 h6 h7 h4
theorem plainIx_ok (h : noSlice b = true) : PlainIx b := fun o i => by
  cases b <;> first | rfl | (simp [noSlice] at h)
theorem cPart_ok {o : Option Expr} {bl : Bool} {il : IE} (hr : OkE cc cf k r) (c : CtxOk cc cf X W k) (hs : X.env.scope = sc) (h : cPart r sc o = some (bl, il)) : PXO X W o (partB bl (ev cf il)) := by
  unfold cPart at h
  split at h
  · cases h; exact pxo_none
  · rw [Option.map_eq_some_iff] at h
    obtain ⟨x, h1, h2⟩ := h
    cases h2
    exact pxo_some (hr _ _ _ _ _ h1 c hs)
theorem stepE_ok (hE : OkE cc cf k rE) (hT : OkT cc cf k rT) : OkE cc cf k (cEstep cc rE rT) := by
  intro sc e ir X W h c hs
  unfold cEstep at h
  split at h
  · -- a name
    split at h
    · next i hi => cases h; exact px_var (nameSlot_ok c hs hi)
    · split at h
      · next hg =>
        rw [Bool.and_eq_true] at hg
        rw [Option.map_eq_some_iff] at h
        obtain ⟨d, h1, rfl⟩ := h
        obtain ⟨v, u, m1, m2, m3⟩ := c.glbs _ _ h1
        obtain ⟨b1, b2, b3⟩ := badName_no (x := _) (by simpa using hg.2)
        exact px_glb (pe_glob (isGl_ok hs hg.1) m1 m2 b1) m3
      · cases h
  · cases h; exact px_cst_int
  · cases h; exact px_cst_bool
  · cases h; exact px_cst_str
  · cases h; exact px_cst_none
  · rw [Option.map_eq_some_iff] at h
    obtain ⟨l, h1, rfl⟩ := h
    exact px_tup (cA_ok hE c hs h1)
  · rw [Option.map_eq_some_iff] at h
    obtain ⟨l, h1, rfl⟩ := h
    exact px_lst (cA_ok hE c hs h1)
  · rw [Option.bind_eq_some_iff] at h
    obtain ⟨o, h1, h⟩ := h
    have ho := bopC_ok h1
    subst ho
    split at h
    · next i hi =>
      rw [Option.map_eq_some_iff] at h
      obtain ⟨ib, h2, rfl⟩ := h
      exact px_opB (nameSlot_ok c hs hi) (hE _ _ _ _ _ h2 c hs)
    · rw [Option.bind_eq_some_iff] at h
      obtain ⟨ia, h2, h⟩ := h
      rw [Option.map_eq_some_iff] at h
      obtain ⟨ib, h3, rfl⟩ := h
      exact px_op (hE _ _ _ _ _ h2 c hs) (hE _ _ _ _ _ h3 c hs)
  · rw [Option.map_eq_some_iff] at h
    obtain ⟨l, h1, rfl⟩ := h
    exact px_neg (hE _ _ _ _ _ h1 c hs)
  · rw [Option.map_eq_some_iff] at h
    obtain ⟨l, h1, rfl⟩ := h
    exact px_not (hE _ _ _ _ _ h1 c hs)
  · exact cAnd_ok hE c hs h
  · exact cOr_ok hE c hs h
  · exact (cCmp_ok hE c hs h).1
  · rw [Option.bind_eq_some_iff] at h
    obtain ⟨it, h1, h⟩ := h
    rw [Option.bind_eq_some_iff] at h
    obtain ⟨ia, h2, h⟩ := h
    rw [Option.map_eq_some_iff] at h
    obtain ⟨ib, h3, rfl⟩ := h
    exact px_ife (hT _ _ _ _ _ h1 c hs) (hE _ _ _ _ _ h2 c hs) (hE _ _ _ _ _ h3 c hs)
  · exact cCall_ok hE c hs h
  · rw [Option.bind_eq_some_iff] at h
    obtain ⟨⟨bl, il⟩, h1, h⟩ := h
    rw [Option.bind_eq_some_iff] at h
    obtain ⟨⟨bh, ih⟩, h2, h⟩ := h
    dsimp only at h
    split at h
    · next i hi => cases h; exact px_slcB (nameSlot_ok c hs hi) (cPart_ok hE c hs h1) (cPart_ok hE c hs h2)
    · rw [Option.map_eq_some_iff] at h
      obtain ⟨ia, h3, rfl⟩ := h
      exact px_slc (hE _ _ _ _ _ h3 c hs) (cPart_ok hE c hs h1) (cPart_ok hE c hs h2)
  · split at h
    · next hn =>
      rw [Option.bind_eq_some_iff] at h
      obtain ⟨ib, h1, h⟩ := h
      split at h
      · next i hi => cases h; exact px_ixB (nameSlot_ok c hs hi) (hE _ _ _ _ _ h1 c hs) (plainIx_ok hn)
      · rw [Option.map_eq_some_iff] at h
        obtain ⟨ia, h3, rfl⟩ := h
        exact px_ix (hE _ _ _ _ _ h3 c hs) (hE _ _ _ _ _ h1 c hs) (plainIx_ok hn)
    · cases h
  · exact (cLc_ok hE hT c hs h).px c
  · cases h
theorem plainT_ok {env : Env} (h : plainT e = true) : ∀ whole, isTrue e env whole = (do let v ← whole; standAt e.pos; holding [v] (truthy v)) := fun whole => by
  cases e <;> first | rfl | (simp [plainT] at h)
theorem stepT_ok (hE : OkE cc cf k rE) (hT : OkT cc cf k rT) : OkT cc cf k (cTstep cc rE rT) := by
  intro sc e ir X W h c hs
  unfold cTstep at h
  split at h
  · rw [Option.map_eq_some_iff] at h
    obtain ⟨l, h1, rfl⟩ := h
    exact pxt_not (hT _ _ _ _ _ h1 c hs)
  · exact (cAndT_ok hT c hs h).pt
  · exact (cOrT_ok hT c hs h).pt
  · exact (cCmp_ok hE c hs h).2
  · split at h
    · next hn => exact pxt_val (hE _ _ _ _ _ h c hs) (plainT_ok hn)
    · cases h
theorem comp_ok : ∀ n, OkE cc cf k (comp cc n).1 ∧ OkT cc cf k (comp cc n).2
  | 0 => ⟨fun _ _ _ _ _ h => (nomatch h), fun _ _ _ _ _ h => (nomatch h)⟩
  | n + 1 => ⟨stepE_ok (comp_ok n).1 (comp_ok n).2, stepT_ok (comp_ok n).1 (comp_ok n).2⟩
end
end PL
set_option maxHeartbeats 2000000
namespace PL
open PySem PySem.Spec PyProof.Rows L2
def noTup : Expr → Bool
  | .Tuple _ _ _ => false
  | _ => true
def locSlot (cc : Cc) (sc : Scope) (x : Str) : Option Nat := match sc.names.lookup x with
  | some .local => findIx x cc.N
  | some .cell => findIx x cc.N
  | _ => none
def isLoc (sc : Scope) (x : Str) : Bool := match sc.names.lookup x with
  | some .local => true
  | _ => false
def isFn : ScopeKind → Bool
  | .function => true
  | _ => false
def cSs (r : Stmt → Option IS) : List Stmt → Option IS
  | [] => some .skip
  | s :: ss => (r s).bind fun a => (cSs r ss).map fun b => .seq a b
def cSstep (cc : Cc) (rE rT : CE) (sc : Scope) (r : Stmt → Option IS) : Stmt → Option IS
  | .Return (some e) _ => (rE sc e).map .ret
  | .Return none _ => some (.ret (.cst .none))
  | .Assign [.Name x py] e _ => (locSlot cc sc x).bind fun i => if noComp e then (rE sc e).map fun a => .asg i a else (match e with
    | .ListComp elt [⟨tgE, iter, ifs, 0⟩] scope pos => if isFn sc.kind && isLoc sc x && (py.line == pos.line) && !(scope.names.any fun (n, k) => n == x && (k == .local || k == .cell)) then (cLc cc rE rT sc elt tgE iter ifs scope).map fun a => .asg i a else none
    | _ => none)
  | .Assign [.Tuple es k p] e _ => (cNames cc sc es).bind fun is => if noTup e && noComp e then (rE sc e).map fun a => .asgT is a else none
  | .Assign [.Subscript o k _] e _ => if noSlice k && noComp e then (nameSlot cc sc o).bind fun i => (rE sc k).bind fun ik => (rE sc e).map fun ie => (match o with
    | .Name x _ => if x = "dice" then .setD i ik ie else .setI i ik ie
    | _ => .setI i ik ie) else none
  | .AugAssign (.Name x _) .Add e _ => (locSlot cc sc x).bind fun i => (rE sc e).map fun a => .aug .add i a
  | .AugAssign (.Name x _) .Sub e _ => (locSlot cc sc x).bind fun i => (rE sc e).map fun a => .aug .sub i a
  | .Expr (.Call (.Attribute (.Name x px) m ap) [e] [] cp) _ => if m = "append" ∧ noStar e ∧ (ap.endLine == cp.line) = true then (nameSlot cc sc (.Name x px)).bind fun i => (rE sc e).map fun a => .app i a else none
  | .Expr e _ => if noComp e then (rE sc e).map .expr else none
  | .If t a b _ => (rT sc t).bind fun it => (cSs r a).bind fun sa => (cSs r b).map fun sb => .ife it sa sb
  | .For tg it body [] _ => (cIt cc rE sc it).bind fun (k, il) => (cTg cc sc tg).bind fun t => (cSs r body).map fun b => .forS t k il b
  | .While t body [] _ => (rT sc t).bind fun it => (cSs r body).map fun b => .whl it b
  | .Raise (some (.Call (.Name c _) [.Constant (.str _) _ _] [] _)) none _ => if isGl sc c && !badName c && decide (c ∈ cc.excs) then some (.raise c) else none
  | .Pass _ => some .skip
  | .Break _ => some .brk
  | .Continue _ => some .cont
  | _ => none
def compS (cc : Cc) (n : Nat) (sc : Scope) : Nat → Stmt → Option IS
  | 0 => fun _ => none
  | m + 1 => cSstep cc (comp cc n).1 (comp cc n).2 sc (compS cc n sc m)
def compBody (cc : Cc) (sc : Scope) (b : List Stmt) : Option IS := cSs (compS cc 40 sc 40) b
structure StOk (cc : Cc) (cf : CF) (X : Cx) (W : WX) (k : Nat) : Prop where
  c : CtxOk cc cf X W k
  hp : PassesOwn (model X.prog X.w) X.A X.env X.xe
  fn : ∀ x, X.fn x = true
  excs : ∀ x, x ∈ cc.excs → ∃ C, X.mg x = some C ∧ ∀ (m : Str) (j : Nat) (p p2 pos : Pos), Gl X x → (x == ("__debug__" : Str)) = false → PMk X (.Call (.Name x p) [.Constant (.str m) j p2] [] pos) (fun _ H Q => Q C none H)
def OkS (cc : Cc) (cf : CF) (k : Nat) (sc : Scope) (r : Stmt → Option IS) : Prop := ∀ st is X W, r st = some is → StOk cc cf X W k → X.env.scope = sc → QS X W st (evS cf is)
section
variable {cc : Cc} {cf : CF} {k : Nat} {X : Cx} {W : WX} {sc : Scope} {e a b : Expr} {i : Nat} {ir : IE} {rE rT : CE} {r : Stmt → Option IS} {pos p py : Pos} {x : Str}
theorem cSs_ok (hr : OkS cc cf k sc r) (c : StOk cc cf X W k) (hs : X.env.scope = sc) : ∀ {ss : List Stmt} {is : IS}, cSs r ss = some is → QSs X W ss (evS cf is)
  | [], is, h => by cases h; exact qss_nil
  | st :: ss, is, h => by
    unfold cSs at h
    rw [Option.bind_eq_some_iff] at h
    obtain ⟨a, h1, h⟩ := h
    rw [Option.map_eq_some_iff] at h
    obtain ⟨b, h2, rfl⟩ := h
    exact qss_cons (hr _ _ _ _ h1 c hs) (cSs_ok hr c hs h2)
theorem locSlot_ok (h : locSlot cc sc x = some i) : cc.N[i]? = some x ∧ Loc sc x := by
  unfold locSlot at h
  split at h
  · next e => exact ⟨findIx_ok h, .inl e⟩
  · next e => exact ⟨findIx_ok h, .inr e⟩
  · cases h
theorem noComp_sw {t : Option Expr} {l : Nat} {env : Env} (h : noComp e = true) : swapsWith e t l env = pure false := by
  cases e <;> first | rfl | (simp [noComp] at h)
theorem sub_assign {o kk : Expr} {pp : Pos} {env : Env} (hk : noSlice kk = true) : ∀ v, assign (.Subscript o kk pp) env v = (do
          let ov ← holding [v] (eval o env)
          let iv ← holding [v, ov] (eval kk env)
          standAt pp
          holding [v, ov, iv] (setItem ov iv v)
          release [v, ov, iv] []) := fun v => by cases kk <;> first | rfl | (simp [noSlice] at hk)
theorem noComp_sole {t : Expr} {l : Nat} {env : Env} (h : noComp e = true) : swapsWithSole [t] e l env = pure false := noComp_sw (t := some t) h
theorem noTup_sw {es : List Expr} {k : Nat} {env : Env} (h : noTup e = true) : swappedStores [.Tuple es k p] e env = pure none := by
  cases e <;> first | rfl | (simp [noTup] at h)
theorem PostS.bindO {α : Type} {fx : Fx} {Fz : Hp} {s : S} {o : Option α} {f : α → M Fl} {Dn : Ends} (h : PostS X.K X.mg W fx Fz (bindM (optM o) f s) Dn) : ∃ a, o = some a ∧ PostS X.K X.mg W fx Fz (f a s) Dn := by
  unfold bindM R.bind optM at h
  cases o with
  | none => exact h.elim
  | some a => exact ⟨a, rfl, h⟩
theorem qs_aug {o : Bop} {op : Operator} {fI : Int → Int → Int} {ia : IE} (ho : PIp X op (ipI fI)) (hev : ∀ (x : Int) (d : D) (z : Int), augI o x d = some z → ∃ y, d = .int y ∧ z = fI x y)
    (hN : X.N.Nodup) (hi : X.N[i]? = some x) (hx : Loc X.env.scope x) (he : PX X W e (ev cf ia)) (hf : X.fn x = true ∨ X.env.scope.names.lookup x = some .local) : QS X W (.AugAssign (.Name x p) op e pos) (evS cf (.aug o i ia)) :=
  PS.imp (ps_aug hN hi hx (PX.d he) ho hf) fun Dn σ H ⟨fx, Fz, s, rl, p⟩ => by
    have p : PostS X.K X.mg W fx Fz (bindM (optM (slotI s i)) (fun x => bindM (one1 (ev cf ia)) fun y => bindM (optM (augI o x y)) fun z s => .ok .next { s with ρ := s.ρ.set i (some (.d (.int z))) }) s) Dn := p
    obtain ⟨z, hz, p⟩ := PostS.bindO p
    have hz : s.ρ[i]? = some (some (.d (.int z))) := by
      unfold slotI at hz
      split at hz
      · cases hz; assumption
      · cases hz
    obtain ⟨v, hv, rv⟩ := rl.sl i _ hz
    have rv : Rp X.K Fz v (.int z) := rv
    cases rv
    refine ⟨_, hv, fx, Fz, s, rl, PostD.imp (PostS.bindD (σ := σ) p) fun u H2 ⟨F2, s2, d2, g2, rl2, rp2, p2⟩ => ?_⟩
    obtain ⟨w, hw, p2⟩ := PostS.bindO p2
    obtain ⟨y, rfl, rfl⟩ := hev _ _ _ hw
    cases rp2
    exact ⟨z, y, rfl, rfl, p2 _ _ F2 (Same.refl _) (rl2.put (i := i) (x := .d (.int (fI z y))) (.int _))⟩
theorem augI_add {x : Int} {d : D} {z : Int} (h : augI .add x d = some z) : ∃ y, d = .int y ∧ z = x + y := by
  cases d <;> simp [augI] at h
  exact ⟨_, rfl, h.symm⟩
theorem augI_sub {x : Int} {d : D} {z : Int} (h : augI .sub x d = some z) : ∃ y, d = .int y ∧ z = x - y := by
  cases d <;> simp [augI] at h
  exact ⟨_, rfl, h.symm⟩
theorem qs_retN : QS X W (.Return none pos) (evS cf (.ret (.cst .none))) := PS.imp ps_retN fun Dn σ H ⟨fx, Fz, s, rl, p⟩ => p .non σ H Fz (Same.refl _) rl .non
theorem LcOk.asg {elt tgE iter : Expr} {ifs : List Expr} {scope : Scope} {pos spos : Pos} (c : CtxOk cc cf X W k) (h : LcOk cc cf k X W elt tgE iter ifs scope ir) (hi : cc.N[i]? = some x) (hk : X.env.scope.kind = .function) (hl : X.env.scope.names.lookup x = some .local)
    (hp : (py.line == pos.line) = true) (ha : (scope.names.any fun (n, k) => n == x && (k == .local || k == .cell)) = false) : QS X W (.Assign [.Name x py] (.ListComp elt [⟨tgE, iter, ifs, 0⟩] scope pos) spos) (evS cf (.asg i ir)) := by
  obtain ⟨own, fz, tg, kd, il, ic, ie, rfl, h1, h2, h3, h4, h5, h6, h7⟩ := h.ex
  exact PS.imp (ps_setLc c.calm (by rw [c.N]; exact c.nd) (by rw [c.N]; exact hi) hl (sw_true hk hl hp ha) h3 h1 h5 h6 h7 h4) (red_asg fun σ H Q h => red_lc h2 h)
theorem stepS_ok (hE : OkE cc cf k rE) (hT : OkT cc cf k rT) (hr : OkS cc cf k sc r) : OkS cc cf k sc (cSstep cc rE rT sc r) := by
  intro st is X W h c hs
  unfold cSstep at h
  split at h
  · rw [Option.map_eq_some_iff] at h
    obtain ⟨l, h1, rfl⟩ := h
    exact qs_ret (hE _ _ _ _ _ h1 c.c hs)
  · cases h; exact qs_retN
  · rw [Option.bind_eq_some_iff] at h
    obtain ⟨i, h1, h⟩ := h
    obtain ⟨l1, l2⟩ := locSlot_ok h1
    split at h
    · next hn =>
      rw [Option.map_eq_some_iff] at h
      obtain ⟨l, h2, rfl⟩ := h
      exact qs_asg (by rw [c.c.N]; exact c.c.nd) (by rw [c.c.N]; exact l1) (by rw [hs]; exact l2) (hE _ _ _ _ _ h2 c.c hs) (noComp_sw hn) (.inl (c.fn _))
    · split at h
      · split at h
        · next hc =>
          rw [Bool.and_eq_true, Bool.and_eq_true, Bool.and_eq_true] at hc
          rw [Option.map_eq_some_iff] at h
          obtain ⟨l, h2, rfl⟩ := h
          refine (cLc_ok hE hT c.c hs h2).asg c.c l1 ?_ ?_ hc.1.2 (by simpa using hc.2)
          · rw [hs]
            have := hc.1.1.1
            unfold isFn at this
            split at this
            · assumption
            · cases this
          · rw [hs]
            have := hc.1.1.2
            unfold isLoc at this
            split at this
            · assumption
            · cases this
        · cases h
      · cases h
  · rw [Option.bind_eq_some_iff] at h
    obtain ⟨js, h1, h⟩ := h
    split at h
    · next hc =>
      rw [Bool.and_eq_true] at hc
      rw [Option.map_eq_some_iff] at h
      obtain ⟨l, h2, rfl⟩ := h
      obtain ⟨g1, g2, g3⟩ := cNames_ok c.c hs h1
      exact qs_asgT (hE _ _ _ _ _ h2 c.c hs) (pg_tup c.c.calm g1 g2 g3) (noComp_sole hc.2) (noTup_sw hc.1) rfl
    · cases h
  · split at h
    · next hc =>
      rw [Bool.and_eq_true] at hc
      rw [Option.bind_eq_some_iff] at h
      obtain ⟨i, h1, h⟩ := h
      rw [Option.bind_eq_some_iff] at h
      obtain ⟨ik, h2, h⟩ := h
      rw [Option.map_eq_some_iff] at h
      obtain ⟨ie, h3, h⟩ := h
      have hk := hc.1
      split at h
      · split at h
        · subst h; exact qs_setD (nameSlot_ok c.c hs h1) (hE _ _ _ _ _ h2 c.c hs) (hE _ _ _ _ _ h3 c.c hs) (sub_assign hk) (noComp_sole hc.2) rfl rfl
        · subst h; exact qs_setI (nameSlot_ok c.c hs h1) (hE _ _ _ _ _ h2 c.c hs) (hE _ _ _ _ _ h3 c.c hs) (sub_assign hk) (noComp_sole hc.2) rfl rfl
      · subst h; exact qs_setI (nameSlot_ok c.c hs h1) (hE _ _ _ _ _ h2 c.c hs) (hE _ _ _ _ _ h3 c.c hs) (sub_assign hk) (noComp_sole hc.2) rfl rfl
    · cases h
  · rw [Option.bind_eq_some_iff] at h
    obtain ⟨i, h1, h⟩ := h
    rw [Option.map_eq_some_iff] at h
    obtain ⟨l, h2, rfl⟩ := h
    obtain ⟨l1, l2⟩ := locSlot_ok h1
    exact qs_aug ip_add (fun _ _ _ => augI_add) (by rw [c.c.N]; exact c.c.nd) (by rw [c.c.N]; exact l1) (by rw [hs]; exact l2) (hE _ _ _ _ _ h2 c.c hs) (.inl (c.fn _))
  · rw [Option.bind_eq_some_iff] at h
    obtain ⟨i, h1, h⟩ := h
    rw [Option.map_eq_some_iff] at h
    obtain ⟨l, h2, rfl⟩ := h
    obtain ⟨l1, l2⟩ := locSlot_ok h1
    exact qs_aug ip_sub (fun _ _ _ => augI_sub) (by rw [c.c.N]; exact c.c.nd) (by rw [c.c.N]; exact l1) (by rw [hs]; exact l2) (hE _ _ _ _ _ h2 c.c hs) (.inl (c.fn _))
  · split at h
    · next hc =>
      obtain ⟨rfl, hn, hl⟩ := hc
      rw [Option.bind_eq_some_iff] at h
      obtain ⟨i, h1, h⟩ := h
      rw [Option.map_eq_some_iff] at h
      obtain ⟨l, h2, rfl⟩ := h
      refine qs_app (nameSlot_ok c.c hs h1) (hE _ _ _ _ _ h2 c.c hs) rfl rfl ?_ hl (star_cons hn)
      rw [star_cons hn]; rfl
    · cases h
  · split at h
    · next hn =>
      rw [Option.map_eq_some_iff] at h
      obtain ⟨l, h2, rfl⟩ := h
      exact qs_expr (hE _ _ _ _ _ h2 c.c hs) (noComp_sw hn)
    · cases h
  · rw [Option.bind_eq_some_iff] at h
    obtain ⟨it, h1, h⟩ := h
    rw [Option.bind_eq_some_iff] at h
    obtain ⟨sa, h2, h⟩ := h
    rw [Option.map_eq_some_iff] at h
    obtain ⟨sb, h3, rfl⟩ := h
    exact qs_if (hT _ _ _ _ _ h1 c.c hs) (cSs_ok hr c hs h2) (cSs_ok hr c hs h3)
  · rw [Option.bind_eq_some_iff] at h
    obtain ⟨⟨kd, il⟩, h1, h⟩ := h
    rw [Option.bind_eq_some_iff] at h
    obtain ⟨t, h2, h⟩ := h
    rw [Option.map_eq_some_iff] at h
    obtain ⟨sb, h3, rfl⟩ := h
    obtain ⟨g1, g2⟩ := cIt_ok hE c.c hs h1
    exact qs_for c.hp c.c.calm g1 (cTg_ok c.c hs h2) (cSs_ok hr c hs h3) g2
  · rw [Option.bind_eq_some_iff] at h
    obtain ⟨it, h1, h⟩ := h
    rw [Option.map_eq_some_iff] at h
    obtain ⟨sb, h3, rfl⟩ := h
    exact qs_while c.hp (hT _ _ _ _ _ h1 c.c hs) (cSs_ok hr c hs h3)
  · split at h
    · next hc =>
      rw [Bool.and_eq_true, Bool.and_eq_true] at hc
      cases h
      obtain ⟨C, m1, m2⟩ := c.excs _ (of_decide_eq_true hc.2)
      obtain ⟨b1, b2, b3⟩ := badName_no (x := _) (by simpa using hc.1.2)
      exact qs_raise (t := fun _ H Q => Q C none H) c.c.calm c.c.tk (m2 _ _ _ _ _ (isGl_ok hs hc.1.1) b1) m1
    · cases h
  · cases h; exact qs_pass
  · cases h; exact qs_brk
  · cases h; exact qs_cont
  · cases h
theorem compS_ok (n : Nat) : ∀ m, OkS cc cf k sc (compS cc n sc m)
  | 0 => fun _ _ _ _ h => (nomatch h)
  | m + 1 => stepS_ok (comp_ok n).1 (comp_ok n).2 (compS_ok n m)
end
end PL
set_option maxHeartbeats 2000000
namespace PL
open PySem PySem.Spec PyProof.Rows L2
structure Gl4 where
  defs : List (Str × Bool)
  glbs : List (Str × D)
  blts : List Str
  excs : List Str
def Gl4.cc (g : Gl4) (N : List Str) : Cc := ⟨N, g.defs, g.glbs, g.blts, g.excs⟩
structure ExcOk (K : PySem.W.Frag) (mg : Str → Option Value) (x : Str) : Prop where
  ex : ∃ (C : Addr) (B newId initId : String) (bmB : List Value), ExcBaseFacts B newId initId bmB ∧ PySem.W.excIn K C bmB newId = true ∧ mg x = some (.ref C) ∧ PySem.W.keepIn K (.ref C) = true ∧ PySem.W.subIn K (.ref C) (.type "BaseException") = some true ∧ PySem.W.typeIn K (.ref C) = some (.type "type")
section
variable (g : Gl4) (P : Program) (w : World) (K : PySem.W.Frag) (mg : Str → Option Value) (base : Heap)
structure TabOk (cf : CF) (k : Nat) : Prop where
  defs : ∀ (n : Nat) x dc, g.defs[n]? = some (x, dc) → ∃ f fd ps, mg x = some (.ref f) ∧ PySem.W.keepIn K (.ref f) = true ∧ Binds K fd ps [] ∧ FnOk P w K mg base (L2.CX P w) k f fd ps (spD K mg (cf n) dc)
  glbs : ∀ x d, g.glbs.lookup x = some d → ∃ v u, mg x = some u ∧ RelV v u ∧ ∀ F, Rp K F v d
  blts : ∀ x, x ∈ g.blts → mg x = none
  excs : ∀ x, x ∈ g.excs → ExcOk K mg x
end
section
variable {g : Gl4} {P : Program} {w : World} {K : PySem.W.Frag} {mg : Str → Option Value} {base : Heap} {cf : CF} {k : Nat} {N ps : List Str}
theorem StOk.of (T : TabOk g P w K mg base cf k) {X : Cx} {W : WX} (hP : X.prog = P) (hw : X.w = w) (hK : X.K = K) (hm : X.mg = mg) (hb : X.base = base) (hN : X.N = N) (nd : N.Nodup) (hc : X.calm = true) (tk : Takes X W) (hr : Room k X.A) (hp : PassesOwn (model X.prog X.w) X.A X.env X.xe) (hf : ∀ x, X.fn x = true) :
    StOk (g.cc N) cf X W k := by
  subst hP hw hK hm hb
  refine ⟨⟨hN, nd, hc, tk, hr, T.defs, T.glbs, T.blts⟩, hp, hf, fun x hx => ?_⟩
  obtain ⟨C, B, newId, initId, bmB, h1, h2, h3, h4, h5, h6⟩ := (T.excs x hx).ex
  exact ⟨_, h3, fun m j p p2 pos hg hd => pmk_own h1 h2 h3 h4 (raises_own h5 h6) hg hd⟩
theorem start_get {N : List Str} {vs : List V} {i : Nat} {v : V} (h : vs[i]? = some v) : (L2.start N vs)[i]? = some (some v) := by
  have hi : i < vs.length := (List.getElem?_eq_some_iff.mp h).1
  unfold L2.start
  rw [List.getElem?_append_left (by simpa using hi), List.getElem?_map, h]; rfl
theorem startS_len {d : Def} {dc : Bool} {ds : List D} {δ : Int × Int} (h : dcN dc + ds.length ≤ d.n) : (startS d dc ds δ).ρ.length = d.n := by
  unfold startS
  cases dc <;> simp [dcL, dcN] at h ⊢ <;> omega
theorem startS_get {d : Def} {dc : Bool} {ds : List D} {δ : Int × Int} {i : Nat} {x : SV} (h : (startS d dc ds δ).ρ[i]? = some (some x)) :
    (dc = true ∧ i = 0 ∧ x = .dice) ∨ ∃ j y, i = dcN dc + j ∧ ds[j]? = some y ∧ x = .d y := by
  have key : ∀ (j n : Nat), (ds.map (fun d => some (SV.d d)) ++ List.replicate n none)[j]? = some (some x) → ∃ y, ds[j]? = some y ∧ x = .d y := fun j n h => by
    by_cases hi : j < ds.length
    · rw [List.getElem?_append_left (by simpa using hi), List.getElem?_map, List.getElem?_eq_getElem hi] at h
      simp only [Option.map_some, Option.some.injEq] at h
      exact ⟨ds[j], List.getElem?_eq_getElem hi, h.symm⟩
    · rw [List.getElem?_append_right (by simpa using hi)] at h
      have := List.mem_of_getElem? h
      rw [List.mem_replicate] at this
      cases this.2
  unfold startS at h
  cases dc with
  | true =>
    cases i with
    | zero => simp [dcL] at h; exact .inl ⟨rfl, rfl, h.symm⟩
    | succ i =>
      obtain ⟨y, h1, h2⟩ := key i _ h
      exact .inr ⟨i, y, Nat.add_comm _ _, h1, h2⟩
  | false =>
    obtain ⟨y, h1, h2⟩ := key i _ h
    exact .inr ⟨i, y, (Nat.zero_add _).symm, h1, h2⟩
theorem rel_start {d : Def} {da : Option Addr} {Fz H : Hp} {ds : List D} {δ : Int × Int} {ws vs : List V} (hn : d.n = N.length) (hle : dcN d.dice + ds.length ≤ d.n)
    (hv : match d.dice with | true => ∃ a, da = some a ∧ vs = .ref a :: ws | false => da = none ∧ vs = ws ∧ δ = (0, 0)) (hs : Same Fz H) (hd : ∀ a, da = some a → H a = some (.lst [.int δ.1, .int δ.2]) ∧ Fz a = none) (hr : Rps K Fz ws ds) :
    Rel K ⟨da, H, Fz⟩ Fz (L2.start N vs) H (startS d d.dice ds δ) := by
  refine ⟨hs, fun b o q _ => q, Same.refl _, fun b o _ q => q, fun a e => ⟨(hd a e).1, ⟨_, (hd a e).1⟩, (hd a e).2⟩, fun i x q => ?_, fun i j xs ys a q1 => ?_, ?_⟩
  · rcases startS_get q with ⟨h1, rfl, rfl⟩ | ⟨j, y, rfl, h2, rfl⟩
    · rw [h1] at hv
      obtain ⟨a, e1, e2⟩ := hv
      exact ⟨.ref a, start_get (by rw [e2]; rfl), a, e1, rfl⟩
    · obtain ⟨v, g1, g2⟩ := hr.get h2
      refine ⟨v, start_get ?_, g2⟩
      cases hdc : d.dice with
      | true =>
        rw [hdc] at hv
        obtain ⟨a, e1, e2⟩ := hv
        rw [e2]; show (V.ref a :: ws)[1 + j]? = some v; rw [Nat.add_comm, List.getElem?_cons_succ]; exact g1
      | false =>
        rw [hdc] at hv
        rw [hv.2.1]; show ws[0 + j]? = some v; rw [Nat.zero_add]; exact g1
  · rcases startS_get q1 with ⟨_, _, z⟩ | ⟨_, _, _, _, z⟩ <;> cases z
  · rw [startS_len hle]
    unfold L2.start
    have : vs.length ≤ N.length := by
      have hl := hr.length
      cases hdc : d.dice with
      | true =>
        rw [hdc] at hv hle
        obtain ⟨a, e1, e2⟩ := hv
        rw [e2, List.length_cons, hl]; simp only [dcN] at hle; omega
      | false =>
        rw [hdc] at hv hle
        rw [hv.2.1, hl]; simp only [dcN] at hle; omega
    simp
    omega
theorem Rel.toAfter {da : Option Addr} {Fz H Fz' H' : Hp} {σ : L2.St} {s : S} (rl : Rel K ⟨da, H, Fz⟩ Fz' σ H' s) : After da Fz H Fz' H' s.δ :=
  ⟨rl.sub, rl.f0, rl.old, rl.nf, fun a e => (rl.dc a e).1⟩
theorem spD_len {F : Bool → List D → Int × Int → RC} {dc : Bool} {n : Nat} (hF : ∀ ds δ, F dc ds δ ≠ .stuck → dcN dc + ds.length = n) {vs : List V} {H : Hp} {Q : VK} {E : XK} (h : spD K mg F dc vs H Q E) : vs.length = n := by
  obtain ⟨da, Fz, ds, δ, ws, h1, h2, h3, h4, h5⟩ := h
  have hne : F dc ds δ ≠ .stuck := fun z => by rw [z] at h5; exact h5
  have := hF ds δ hne
  have hl := h4.length
  cases dc with
  | true => obtain ⟨a, _, rfl⟩ := h1; rw [List.length_cons, hl]; simp only [dcN] at this; omega
  | false => obtain ⟨_, rfl, _⟩ := h1; rw [hl]; simp only [dcN] at this; omega
theorem runDef_ar {d : Def} {ds : List D} {δ : Int × Int} (h : runDef cf d d.dice ds δ ≠ .stuck) : dcN d.dice + ds.length = d.arity ∧ d.arity ≤ d.n ∧ runDef cf d d.dice ds δ = endRC (evS cf d.body (startS d d.dice ds δ)) := by
  unfold runDef at h ⊢
  cases e : okCall d d.dice ds with
  | true =>
    unfold okCall at e
    rw [Bool.and_eq_true, Bool.and_eq_true] at e
    exact ⟨of_decide_eq_true e.1.2, of_decide_eq_true e.2, rfl⟩
  | false => rw [e] at h; exact absurd rfl h
theorem def_ok {x qual : Str} {st : Stmt} {f : Addr} {fd : FuncData} (F : Fun K x qual st f fd) (Sc : FnScope N ps (defScope st)) (d : Def) (hn : d.n = N.length) (ha : d.arity = ps.length) (hc : compBody (g.cc N) (defScope st) (defBody st) = some d.body)
    (T : TabOk g P w K mg base cf k) : FnOk P w K mg base (L2.CX P w) (k + 1) f fd ps (spD K mg (runDef cf d) d.dice) := by
  refine F.okX Sc (fun vs H Q E h => ?_) (fun cdv A outer s H vs Q E hr h => ?_)
  · rw [← ha]; exact spD_len (fun ds δ hne => (runDef_ar hne).1) h
  · have ok : StOk (g.cc N) cf (cxOf (L2.CX P w) P w K mg base N qual (defScope st) f cdv A outer s H E) (fun cls d _ H => E cls d H) k :=
      StOk.of T rfl rfl rfl rfl rfl rfl Sc.nd rfl (takes_of rfl rfl rfl rfl) hr (passes_of rfl) (fun _ => rfl)
    refine ⟨_, cSs_ok (compS_ok 40 40) ok rfl hc, ?_⟩
    obtain ⟨da, Fz, ds, δ, ws, h1, h2, h3, h4, h5⟩ := h
    have hne : runDef cf d d.dice ds δ ≠ .stuck := fun z => by rw [z] at h5; exact h5
    obtain ⟨har, hle, hrun⟩ := runDef_ar hne
    have rl := rel_start (K := K) (N := N) (d := d) hn (by rw [har]; exact hle) h1 h2 h3 h4
    refine ⟨_, Fz, _, rl, ?_⟩
    rw [hrun] at h5
    cases e : evS cf d.body (startS d d.dice ds δ) with
    | ok fl s' =>
      rw [e] at h5
      cases fl with
      | next => exact fun σ' H' F' _ rl' => h5 .non H' F' rl'.toAfter .non
      | ret v => exact fun u σ' H' F' _ rl' rp => h5 u H' F' rl'.toAfter rp
      | brk => exact h5.elim
      | cont => exact h5.elim
    | exc c s' => rw [e] at h5; exact fun C σ' H' F' hm _ rl' => h5 C H' F' hm rl'.toAfter
    | stuck => rw [e] at h5; exact h5.elim
end
def run (Γ : List Def) : Nat → CF
  | 0 => fun _ _ _ _ => .stuck
  | k + 1 => fun n dc ds δ => match Γ[n]? with
    | some d => runDef (run Γ k) d dc ds δ
    | none => .stuck
structure DefIn (g : Gl4) (K : PySem.W.Frag) (mg : Str → Option Value) (x : Str) (d : Def) : Prop where
  ex : ∃ (N ps : List Str) (qual : Str) (st : Stmt) (f : Addr) (fd : FuncData), mg x = some (.ref f) ∧ Binds K fd ps [] ∧ Fun K x qual st f fd ∧ FnScope N ps (defScope st) ∧ d.n = N.length ∧ d.arity = ps.length ∧ compBody (g.cc N) (defScope st) (defBody st) = some d.body
theorem run_at {Γ : List Def} {n : Nat} {d : Def} (h : Γ[n]? = some d) (k : Nat) : run Γ (k + 1) n = runDef (run Γ k) d := by
  funext dc ds δ
  show (match Γ[n]? with | some d => runDef (run Γ k) d dc ds δ | none => .stuck) = _
  rw [h]
theorem tab_ok {g : Gl4} {P : Program} {w : World} {K : PySem.W.Frag} {mg : Str → Option Value} {base : Heap} {Γ : List Def} (hd : ∀ (n : Nat) x dc, g.defs[n]? = some (x, dc) → ∃ d, Γ[n]? = some d ∧ d.dice = dc ∧ DefIn g K mg x d)
    (hg : ∀ x d, g.glbs.lookup x = some d → ∃ v u, mg x = some u ∧ RelV v u ∧ ∀ F, Rp K F v d) (hb : ∀ x, x ∈ g.blts → mg x = none) (he : ∀ x, x ∈ g.excs → ExcOk K mg x) : ∀ k, TabOk g P w K mg base (run Γ k) k
  | 0 => ⟨fun n x dc h => by
      obtain ⟨d, h1, h2, h3⟩ := hd n x dc h
      obtain ⟨N, ps, qual, st, f, fd, m1, m2, m3, m4, m5, m6, m7⟩ := h3.ex
      have no : ∀ vs H Q E, ¬ spD K mg (run Γ 0 n) dc vs H Q E := fun vs H Q E z => by
        obtain ⟨_, _, _, _, _, _, _, _, _, z⟩ := z
        exact z
      exact ⟨f, fd, ps, m1, m3.kp, m2, fun vs H Q E z => (no _ _ _ _ z).elim, fun A outer s H args us vs Q E _ _ _ _ z => (no _ _ _ _ z).elim⟩, hg, hb, he⟩
  | k + 1 => ⟨fun n x dc h => by
      obtain ⟨d, h1, h2, h3⟩ := hd n x dc h
      obtain ⟨N, ps, qual, st, f, fd, m1, m2, m3, m4, m5, m6, m7⟩ := h3.ex
      refine ⟨f, fd, ps, m1, m3.kp, m2, ?_⟩
      rw [run_at h1, ← h2]
      exact def_ok m3 m4 d m5 m6 m7 (tab_ok hd hg hb he k), hg, hb, he⟩
def AllP {α : Type} (p : α → Prop) : List α → Prop
  | [] => True
  | x :: xs => p x ∧ AllP p xs
theorem AllP.nil {α : Type} {p : α → Prop} : AllP p [] := True.intro
theorem AllP.cons {α : Type} {p : α → Prop} {x : α} {xs : List α} (h : p x) (t : AllP p xs) : AllP p (x :: xs) := ⟨h, t⟩
theorem AllP.mem {α : Type} {p : α → Prop} : ∀ {l : List α} {x : α}, AllP p l → x ∈ l → p x
  | y :: ys, x, h, hm => by
    rcases List.mem_cons.mp hm with rfl | hm
    · exact h.1
    · exact AllP.mem h.2 hm
def AllZ (g : Gl4) (K : PySem.W.Frag) (mg : Str → Option Value) : List (Str × Bool) → List Def → Prop
  | [], _ => True
  | p :: ps, d :: ds => (d.dice = p.2 ∧ DefIn g K mg p.1 d) ∧ AllZ g K mg ps ds
  | _ :: _, [] => False
section
variable {g : Gl4} {K : PySem.W.Frag} {mg : Str → Option Value}
theorem AllZ.nil {Γ : List Def} : AllZ g K mg [] Γ := True.intro
theorem AllZ.cons {x : Str} {b : Bool} {ps : List (Str × Bool)} {d : Def} {ds : List Def} (e : d.dice = b) (h : DefIn g K mg x d) (t : AllZ g K mg ps ds) : AllZ g K mg ((x, b) :: ps) (d :: ds) := ⟨⟨e, h⟩, t⟩
theorem AllZ.get : ∀ {ps : List (Str × Bool)} {ds : List Def} {n : Nat} {x : Str} {dc : Bool}, AllZ g K mg ps ds → ps[n]? = some (x, dc) → ∃ d, ds[n]? = some d ∧ d.dice = dc ∧ DefIn g K mg x d
  | [], _, n, _, _, _, h => by simp at h
  | p :: ps, d :: ds, 0, x, dc, h, e => by
    simp at e
    subst e
    exact ⟨d, rfl, h.1.1, h.1.2⟩
  | p :: ps, d :: ds, n + 1, x, dc, h, e => by
    rw [List.getElem?_cons_succ] at e
    obtain ⟨d', h1, h2⟩ := AllZ.get h.2 e
    exact ⟨d', by rw [List.getElem?_cons_succ]; exact h1, h2⟩
end
theorem lookup_mem {α : Type} : ∀ {l : List (Str × α)} {x : Str} {a : α}, l.lookup x = some a → (x, a) ∈ l
  | (y, b) :: r, x, a, h => by
    rw [List.lookup_cons] at h
    cases e : x == y with
    | true =>
      rw [e] at h
      have e' : x = y := by simpa using e
      cases h
      rw [e']
      exact List.mem_cons_self
    | false =>
      rw [e] at h
      exact List.mem_cons_of_mem _ (lookup_mem h)
theorem tab_ok2 {g : Gl4} {P : Program} {w : World} {K : PySem.W.Frag} {mg : Str → Option Value} {base : Heap} {Γ : List Def} (hd : AllZ g K mg g.defs Γ)
    (hg : AllP (fun p : Str × D => ∃ v u, mg p.1 = some u ∧ RelV v u ∧ ∀ F, Rp K F v p.2) g.glbs) (hb : AllP (fun x : Str => mg x = none) g.blts) (he : AllP (fun x : Str => ∃ (C : Addr) (B newId initId : String) (bmB : List Value), ExcBaseFacts B newId initId bmB ∧ PySem.W.excIn K C bmB newId = true ∧ mg x = some (.ref C) ∧ PySem.W.keepIn K (.ref C) = true ∧ PySem.W.subIn K (.ref C) (.type "BaseException") = some true ∧ PySem.W.typeIn K (.ref C) = some (.type "type")) g.excs) (k : Nat) : TabOk g P w K mg base (run Γ k) k :=
  tab_ok (fun n x dc h => hd.get h) (fun x d h => AllP.mem (p := fun p : Str × D => ∃ v u, mg p.1 = some u ∧ RelV v u ∧ ∀ F, Rp K F v p.2) hg (lookup_mem h)) (fun x h => hb.mem h) (fun x h => ⟨he.mem h⟩) k
end PL
set_option maxHeartbeats 2000000
namespace PL
open PySem PySem.Spec PyProof.Rows L2
theorem ints_lay : ∀ ns : List Int, PyData.canLayAll0 (ns.map PyData.int) = true
  | [] => rfl
  | n :: ns => by simp [PyData.canLayAll0, PyData.canLay0, ints_lay ns]
theorem ints_depth : ∀ ns : List Int, PyData.depthAll (ns.map PyData.int) ≤ 1
  | [] => by simp [PyData.depthAll]
  | n :: ns => by
    have := ints_depth ns
    simp only [List.map_cons, PyData.depthAll, PyData.depth]
    omega
theorem ints_shaped (ns : List Int) : SeqAt.shaped (.list (ns.map PyData.int)) = true := by
  have h1 := ints_lay ns
  have h2 := ints_depth ns
  unfold SeqAt.shaped
  rw [Bool.and_eq_true]
  refine ⟨by simpa [PyData.canLay0] using h1, decide_eq_true ?_⟩
  simp only [PyData.depth]
  omega
theorem ints_dp {K : PySem.W.Frag} {H : Hp} : ∀ ns : List Int, DpAll K H (ns.map V.int) (ns.map PyData.int)
  | [] => .nil
  | n :: ns => .cons (.int n) (ints_dp ns)
def spCell (K : PySem.W.Frag) : Sp := fun vs H Q _ => ∃ (a : Addr) (ns : List Int) (k : Int), vs = [.ref a, .int k] ∧ SqL K H a (ns.map V.int) ∧ ns.length ≤ 63 ∧ 0 ≤ k ∧ ∀ (c : Int) H', Same H H' → Q (.int c) H'
def Rounds (H : Hp) (D : Addr) (as : List Addr) : Prop := H D = some (.lst (as.map V.ref)) ∧ as.Nodup ∧ D ∉ as ∧ as.length ≤ 100 ∧ ∀ a ∈ as, ∃ c : Int, H a = some (.lst [.int c, .int 0])
def spRounds (K : PySem.W.Frag) : Sp := fun vs H Q _ => ∃ (a : Addr) (ns : List Int) (m : Int), vs = [.ref a, .int m] ∧ SqL K H a (ns.map V.int) ∧ ns.length ≤ 63 ∧ 0 ≤ m ∧ m ≤ 63 ∧
  ∀ D as H', Same H H' → Rounds H' D as → Q (.ref D) H'
def spLaw (K : PySem.W.Frag) : Sp := fun vs H Q _ => ∃ (a : Addr) (ns : List Int), vs = [.ref a] ∧ SqL K H a (ns.map V.int) ∧ ns.length ≤ 63 ∧ ∀ H', Q (.bl true) H'
def roundS (n ds : Nat) (c : Int) : S := ⟨(List.replicate n none).set ds (some .dice), (c, 0)⟩
def emptyHp : Hp := fun _ => none
theorem rel_round {K : PySem.W.Frag} {σ : L2.St} {H : Hp} {n ds : Nat} {a : Addr} {c : Int} (hl : σ.length = n) (hv : σ[ds]? = some (some (.ref a))) (hH : H a = some (.lst [.int c, .int 0])) : Rel K ⟨some a, H, emptyHp⟩ emptyHp σ H (roundS n ds c) := by
  refine ⟨fun b o q => (nomatch q), fun b o q _ => q, Same.refl _, fun b o _ _ => rfl, fun b e => ?_, fun i x q => ?_, fun i j xs ys b q1 => ?_, by unfold roundS; simp [hl]⟩
  · cases e
    exact ⟨hH, ⟨_, hH⟩, rfl⟩
  · have : i = ds ∧ x = .dice := by
      unfold roundS at q
      by_cases hi : i = ds
      · subst hi
        have hlt : i < (List.replicate n (none : Option SV)).length := by
          have := (List.getElem?_eq_some_iff.mp hv).1
          simpa [hl] using this
        rw [List.getElem?_set_self hlt] at q
        cases q
        exact ⟨rfl, rfl⟩
      · rw [List.getElem?_set_ne (Ne.symm hi)] at q
        have := List.mem_of_getElem? q
        rw [List.mem_replicate] at this
        cases this.2
    obtain ⟨rfl, rfl⟩ := this
    exact ⟨_, hv, a, rfl, rfl⟩
  · exfalso
    unfold roundS at q1
    by_cases hi : i = ds
    · subst hi
      have hlt : i < (List.replicate n (none : Option SV)).length := by
        have := (List.getElem?_eq_some_iff.mp hv).1
        simpa [hl] using this
      rw [List.getElem?_set_self hlt] at q1
      cases q1
    · rw [List.getElem?_set_ne (Ne.symm hi)] at q1
      have := List.mem_of_getElem? q1
      rw [List.mem_replicate] at this
      cases this.2
theorem law_for {K : PySem.W.Frag} {mg : Str → Option Value} {W : WX} {cf : CF} {body : IS} {n ds : Nat} {Dd : Addr} {as : List Addr} {σ : L2.St} {H : Hp} {Dn : Ends} (hall : ∀ c : Int, ∃ s', evS cf body (roundS n ds c) = .ok .next s' ∧ s'.ρ.length = n)
    (hR : Rounds H Dd as) (hl : σ.length = n) (hds : ds < n) (hend : ∀ σ' H', Dn.nx σ' H') :
    ∃ W' : Nat → Nat → L2.St → Hp → Prop, (∃ m, W' 0 m σ H) ∧ ∀ i m σ H, W' i m σ H →
      ((Itl K Dd).stop i H ∧ Dn.nx σ H) ∨ ((Itl K Dd).go i H ∧ ∃ Nx : L2.St → Hp → Prop, (∀ σ' H', Nx σ' H' → ∃ m', m' < m ∧ W' (i + 1) m' σ' H') ∧ ∀ x H', (Itl K Dd).yld i H x H' → gName ds x σ H' fun σ2 H2 => tS K mg W (evS cf body) { Dn with nx := Nx, ct := Nx, bk := Dn.nx } σ2 H2) := by
  obtain ⟨h1, h2, h3, h4, h5⟩ := hR
  refine ⟨fun i m σ H => m = as.length - i ∧ i ≤ as.length ∧ σ.length = n ∧ H Dd = some (.lst (as.map V.ref)) ∧ ∀ (j : Nat) a, i ≤ j → as[j]? = some a → ∃ c : Int, H a = some (.lst [.int c, .int 0]), ⟨_, rfl, Nat.zero_le _, hl, h1, fun j a _ hj => h5 a (List.mem_of_getElem? hj)⟩, ?_⟩
  rintro i m σi Hi ⟨rfl, hi, hli, hD, hc⟩
  by_cases hlt : i < as.length
  · have ha : as[i]? = some as[i] := List.getElem?_eq_getElem hlt
    obtain ⟨c, hc0⟩ := hc i _ (Nat.le_refl _) ha
    have hx : (as.map V.ref)[i]? = some (.ref as[i]) := by rw [List.getElem?_map, ha]; rfl
    refine .inr ⟨⟨_, _, SqL.of hD, hx⟩, fun σ' H' => σ'.length = n ∧ H' Dd = some (.lst (as.map V.ref)) ∧ ∀ (j : Nat) a, i + 1 ≤ j → as[j]? = some a → ∃ c : Int, H' a = some (.lst [.int c, .int 0]), fun σ' H' ⟨k1, k2, k3⟩ => ⟨_, by omega, rfl, hlt, k1, k2, k3⟩, fun x H' hy => ?_⟩
    obtain ⟨rfl, hy⟩ := hy
    have e := (hy _ (SqL.of hD)).symm.trans hx
    cases e
    obtain ⟨s', es, el⟩ := hall c
    refine ⟨⟨some as[i], H', emptyHp⟩, emptyHp, roundS n ds c, rel_round (by rw [List.length_set]; exact hli) (List.getElem?_set_self (by omega)) hc0, ?_⟩
    rw [es]
    refine fun σ4 H4 F4 _ r4 => ⟨?_, ?_, fun j a hj ja => ?_⟩
    · rw [← r4.len]; exact el
    · exact r4.old Dd _ hD fun e => h3 (by cases e; exact List.getElem_mem hlt)
    · obtain ⟨c', hc'⟩ := hc j a (by omega) ja
      refine ⟨c', r4.old a _ hc' fun e => ?_⟩
      cases e
      have := (List.getElem?_inj hlt h2).mp (ha.trans ja.symm)
      omega
  · have hi' : i = as.length := by omega
    subst hi'
    exact .inl ⟨⟨_, SqL.of hD, by rw [List.length_map]; exact Nat.le_refl _⟩, hend _ _⟩
end PL
namespace PL
open PySem PySem.Spec PyProof.Rows L2
def bcase {α : Type} (c : Bool) (x y : M α) : M α := match c with
  | true => x
  | false => y
def fcase {α : Type} (f : Fl) (n : M α) (r : D → M α) (b c : M α) : M α := match f with
  | .next => n
  | .ret d => r d
  | .brk => b
  | .cont => c
def negD : D → M RV
  | .int i => pureM (.d (.int (-i)))
  | _ => stuckM
def setDv : D → D → M Fl := fun x j s => match x, j with
  | .int x, .int 0 => .ok .next { s with δ := (x, s.δ.2) }
  | .int x, .int 1 => .ok .next { s with δ := (s.δ.1, x) }
  | _, _ => .stuck
section
variable {α β γ : Type} {cf : CF} {s : S} {k : α → M β} {kl : List RV → M β} {kf : Fl → M β}
theorem rb_ok (a : α) (s : S) : R.bind (.ok a s) k = k a s := rfl
theorem rb_exc (c : Str) (s : S) : R.bind (.exc c s : R α) k = .exc c s := rfl
theorem rb_stuck : R.bind (.stuck : R α) k = .stuck := rfl
theorem rb_bindM (m : M γ) (f : γ → M α) (s : S) : R.bind (bindM m f s) k = R.bind (m s) fun a s => R.bind (f a s) k := by
  unfold bindM R.bind
  cases m s <;> rfl
theorem rb_pure (a : α) (s : S) : R.bind (pureM a s) k = k a s := rfl
theorem rb_stuckM (s : S) : R.bind ((stuckM : M α) s) k = .stuck := rfl
theorem rb_self (r : R α) : R.bind r (fun a s => .ok a s) = r := by cases r <;> rfl
theorem rb_some (a : α) (s : S) : R.bind (optM (some a) s) k = k a s := rfl
theorem rb_none (s : S) : R.bind ((optM none : M α) s) k = .stuck := rfl
theorem rb_one {r : RV} {k : RV → M β} : R.bind (one [r] s) k = k r s := rfl
theorem rb_one1 {m : M (List RV)} {k : D → M β} : R.bind (one1 m s) k = R.bind (m s) fun l s => R.bind (one l s) fun r s => k r.toD s := by
  unfold one1; rw [rb_bindM]
  congr 1; funext l s; rw [rb_bindM]; rfl
theorem rb_asC {b : Bool} {k : Bool → M β} : R.bind (asC [.d (.bool b)] s) k = k b s := rfl
theorem rb_bt {c : Bool} {x y : M α} (h : c = true) : R.bind (bcase c x y s) k = R.bind (x s) k := by subst h; rfl
theorem rb_bf {c : Bool} {x y : M α} (h : c = false) : R.bind (bcase c x y s) k = R.bind (y s) k := by subst h; rfl
theorem rb_bc {c : Bool} {x y : M α} : R.bind (bcase c x y s) k = cond c (R.bind (x s) k) (R.bind (y s) k) := by cases c <;> rfl
theorem rb_fn {n : M α} {r : D → M α} {b c : M α} : R.bind (fcase .next n r b c s) k = R.bind (n s) k := rfl
theorem rb_fr {d : D} {n : M α} {r : D → M α} {b c : M α} : R.bind (fcase (.ret d) n r b c s) k = R.bind (r d s) k := rfl
theorem rb_fb {n : M α} {r : D → M α} {b c : M α} : R.bind (fcase .brk n r b c s) k = R.bind (b s) k := rfl
theorem rb_fc {n : M α} {r : D → M α} {b c : M α} : R.bind (fcase .cont n r b c s) k = R.bind (c s) k := rfl
def tkO (o : Option (Option SV)) (i : Nat) : M D := fun s => match o with
  | some (some (.d x)) => .ok x s
  | some (some (.own xs)) => .ok (.list xs) { s with ρ := s.ρ.set i (some (.d (.list xs))) }
  | _ => .stuck
def pkO (o : Option (Option SV)) : M D := fun s => match o with
  | some (some (.d x)) => .ok x s
  | some (some (.own xs)) => .ok (.list xs) s
  | some (some .dice) => .ok (.list [.int s.δ.1, .int s.δ.2]) s
  | _ => .stuck
theorem rb_take {i : Nat} {ρ : List (Option SV)} {δ : Int × Int} {k : D → M β} : R.bind (take i ⟨ρ, δ⟩) k = R.bind (tkO ρ[i]? i ⟨ρ, δ⟩) k := rfl
theorem rb_peek {i : Nat} {ρ : List (Option SV)} {δ : Int × Int} {k : D → M β} : R.bind (peek i ⟨ρ, δ⟩) k = R.bind (pkO ρ[i]? ⟨ρ, δ⟩) k := rfl
theorem tk0 {x : Option SV} {l : List (Option SV)} {j : Nat} {k : D → M β} : R.bind (tkO (x :: l)[0]? j s) k = R.bind (tkO (some x) j s) k := rfl
theorem tkS {x : Option SV} {l : List (Option SV)} {i j : Nat} {k : D → M β} : R.bind (tkO (x :: l)[i + 1]? j s) k = R.bind (tkO l[i]? j s) k := rfl
theorem pk0 {x : Option SV} {l : List (Option SV)} {k : D → M β} : R.bind (pkO (x :: l)[0]? s) k = R.bind (pkO (some x) s) k := rfl
theorem pkS {x : Option SV} {l : List (Option SV)} {i : Nat} {k : D → M β} : R.bind (pkO (x :: l)[i + 1]? s) k = R.bind (pkO l[i]? s) k := rfl
theorem tk_d {x : D} {j : Nat} {k : D → M β} : R.bind (tkO (some (some (.d x))) j s) k = k x s := rfl
theorem tk_o {xs : List D} {j : Nat} {ρ : List (Option SV)} {δ : Int × Int} {k : D → M β} : R.bind (tkO (some (some (.own xs))) j ⟨ρ, δ⟩) k = k (.list xs) ⟨ρ.set j (some (.d (.list xs))), δ⟩ := rfl
theorem pk_d {x : D} {k : D → M β} : R.bind (pkO (some (some (.d x))) s) k = k x s := rfl
theorem pk_o {xs : List D} {k : D → M β} : R.bind (pkO (some (some (.own xs))) s) k = k (.list xs) s := rfl
theorem pk_c {ρ : List (Option SV)} {c n : Int} {k : D → M β} : R.bind (pkO (some (some .dice)) ⟨ρ, (c, n)⟩) k = k (.list [.int c, .int n]) ⟨ρ, (c, n)⟩ := rfl
theorem e_nil : R.bind (ev cf .nil s) kl = kl [] s := rfl
theorem e_cons {a b : IE} : R.bind (ev cf (.cons a b) s) kl = R.bind (one1 (ev cf a) s) fun d s => R.bind (ev cf b s) fun xs s => kl (.d d :: xs) s := by
  show R.bind (bindM (ev cf a) (fun x => bindM (one x) fun r => bindM (ev cf b) fun xs => pureM (.d r.toD :: xs)) s) kl = _
  rw [rb_bindM, rb_one1]; congr 1; funext l s; rw [rb_bindM]; congr 1; funext r s; rw [rb_bindM]; rfl
theorem e_var {i : Nat} : R.bind (ev cf (.var i) s) kl = R.bind (take i s) fun d s => kl [.d d] s := by
  show R.bind (bindM (take i) (fun d => pureM [.d d]) s) kl = _
  rw [rb_bindM]; rfl
theorem e_cst {d : D} : R.bind (ev cf (.cst d) s) kl = kl [.d d] s := rfl
theorem e_glb {x : Str} {d : D} : R.bind (ev cf (.glb x d) s) kl = kl [.d d] s := rfl
theorem rb_guard {n : Nat} {k : Unit → M β} (h : okLen n = true) : R.bind (optM (guardL n) s) k = k () s := by unfold guardL; rw [if_pos h]; rfl
theorem gd0 {k : Unit → M β} : R.bind (optM (guardL ([] : List RV).length) s) k = k () s := rfl
theorem gd1 {a : RV} {k : Unit → M β} : R.bind (optM (guardL ([a] : List RV).length) s) k = k () s := rfl
theorem gd2 {a b : RV} {k : Unit → M β} : R.bind (optM (guardL ([a, b] : List RV).length) s) k = k () s := rfl
theorem gd3 {a b c : RV} {k : Unit → M β} : R.bind (optM (guardL ([a, b, c] : List RV).length) s) k = k () s := rfl
theorem gd4 {a b c d : RV} {k : Unit → M β} : R.bind (optM (guardL ([a, b, c, d] : List RV).length) s) k = k () s := rfl
theorem gd5 {a b c d e : RV} {k : Unit → M β} : R.bind (optM (guardL ([a, b, c, d, e] : List RV).length) s) k = k () s := rfl
theorem gd6 {a b c d e f : RV} {k : Unit → M β} : R.bind (optM (guardL ([a, b, c, d, e, f] : List RV).length) s) k = k () s := rfl
theorem gd7 {a b c d e f g : RV} {k : Unit → M β} : R.bind (optM (guardL ([a, b, c, d, e, f, g] : List RV).length) s) k = k () s := rfl
theorem gd8 {a b c d e f g h : RV} {k : Unit → M β} : R.bind (optM (guardL ([a, b, c, d, e, f, g, h] : List RV).length) s) k = k () s := rfl
theorem e_tup {l : IE} : R.bind (ev cf (.tup l) s) kl = R.bind (ev cf l s) fun xs s => R.bind (optM (guardL xs.length) s) fun _ s => kl [.d (.tuple (xs.map RV.toD))] s := by
  show R.bind (bindM (ev cf l) (fun xs => bindM (optM (guardL xs.length)) fun _ => pureM [.d (.tuple (xs.map RV.toD))]) s) kl = _
  rw [rb_bindM]; congr 1; funext l s; rw [rb_bindM]; rfl
theorem e_lst {l : IE} : R.bind (ev cf (.lst l) s) kl = R.bind (ev cf l s) fun xs s => R.bind (optM (guardL xs.length) s) fun _ s => kl [.own (xs.map RV.toD)] s := by
  show R.bind (bindM (ev cf l) (fun xs => bindM (optM (guardL xs.length)) fun _ => pureM [.own (xs.map RV.toD)]) s) kl = _
  rw [rb_bindM]; congr 1; funext l s; rw [rb_bindM]; rfl
theorem e_op {o : Bop} {a b : IE} : R.bind (ev cf (.op o a b) s) kl = R.bind (one1 (ev cf a) s) fun x s => R.bind (one1 (ev cf b) s) fun y s => R.bind (optM (bop o (.d x) (.d y)) s) fun r s => kl [r] s := by
  show R.bind (bindM (one1 (ev cf a)) (fun x => bindM (one1 (ev cf b)) fun y => bindM (optM (bop o (.d x) (.d y))) fun r => pureM [r]) s) kl = _
  rw [rb_bindM]; congr 1; funext l s; rw [rb_bindM]; congr 1; funext l s; rw [rb_bindM]; rfl
theorem e_neg {a : IE} : R.bind (ev cf (.neg a) s) kl = R.bind (one1 (ev cf a) s) fun x s => R.bind (negD x s) fun r s => kl [r] s := by
  show R.bind (bindM (one1 (ev cf a)) (fun x => match x with | .int i => pureM [.d (.int (-i))] | _ => stuckM) s) kl = _
  rw [rb_bindM]; congr 1; funext l s; cases l <;> rfl
theorem e_opB {o : Bop} {i : Nat} {b : IE} : R.bind (ev cf (.opB o i b) s) kl = R.bind (peek i s) fun _ s => R.bind (one1 (ev cf b) s) fun y s => R.bind (peek i s) fun x s => R.bind (optM (bop o (.d x) (.d y)) s) fun r s => kl [r] s := by
  show R.bind (bindM (peek i) (fun _ => bindM (one1 (ev cf b)) fun y => bindM (peek i) fun x => bindM (optM (bop o (.d x) (.d y))) fun r => pureM [r]) s) kl = _
  rw [rb_bindM]; congr 1; funext l s; rw [rb_bindM]; congr 1; funext l s; rw [rb_bindM]; congr 1; funext l s; rw [rb_bindM]; rfl
theorem e_cmp {o : Cop} {a b : IE} : R.bind (ev cf (.cmp o a b) s) kl = R.bind (one1 (ev cf a) s) fun x s => R.bind (one1 (ev cf b) s) fun y s => R.bind (optM (cop o x y) s) fun c s => kl [.d (.bool c)] s := by
  show R.bind (bindM (one1 (ev cf a)) (fun x => bindM (one1 (ev cf b)) fun y => bindM (optM (cop o x y)) fun c => pureM [.d (.bool c)]) s) kl = _
  rw [rb_bindM]; congr 1; funext l s; rw [rb_bindM]; congr 1; funext l s; rw [rb_bindM]; rfl
theorem e_cmpL {o : Cop} {i : Nat} {b : IE} : R.bind (ev cf (.cmpL o i b) s) kl = R.bind (peek i s) fun _ s => R.bind (one1 (ev cf b) s) fun y s => R.bind (peek i s) fun x s => R.bind (optM (cop o x y) s) fun c s => kl [.d (.bool c)] s := by
  show R.bind (bindM (peek i) (fun _ => bindM (one1 (ev cf b)) fun y => bindM (peek i) fun x => bindM (optM (cop o x y)) fun c => pureM [.d (.bool c)]) s) kl = _
  rw [rb_bindM]; congr 1; funext l s; rw [rb_bindM]; congr 1; funext l s; rw [rb_bindM]; congr 1; funext l s; rw [rb_bindM]; rfl
theorem e_cmpR {o : Cop} {i : Nat} {a : IE} : R.bind (ev cf (.cmpR o a i) s) kl = R.bind (one1 (ev cf a) s) fun x s => R.bind (peek i s) fun y s => R.bind (optM (cop o x y) s) fun c s => kl [.d (.bool c)] s := by
  show R.bind (bindM (one1 (ev cf a)) (fun x => bindM (peek i) fun y => bindM (optM (cop o x y)) fun c => pureM [.d (.bool c)]) s) kl = _
  rw [rb_bindM]; congr 1; funext l s; rw [rb_bindM]; congr 1; funext l s; rw [rb_bindM]; rfl
theorem e_chain {o o' : Cop} {a b c : IE} : R.bind (ev cf (.chain o o' a b c) s) kl = R.bind (one1 (ev cf a) s) fun x s => R.bind (one1 (ev cf b) s) fun y s => R.bind (optM (cop o x y) s) fun q s =>
    R.bind (bcase q (bindM (one1 (ev cf c)) fun z => bindM (optM (cop o' y z)) fun q => pureM [.d (.bool q)]) (pureM [.d (.bool false)]) s) kl := by
  show R.bind (bindM (one1 (ev cf a)) (fun x => bindM (one1 (ev cf b)) fun y => bindM (optM (cop o x y)) fun q => bcase q (bindM (one1 (ev cf c)) fun z => bindM (optM (cop o' y z)) fun q => pureM [.d (.bool q)]) (pureM [.d (.bool false)])) s) kl = _
  rw [rb_bindM]; congr 1; funext l s; rw [rb_bindM]; congr 1; funext l s; rw [rb_bindM]
theorem e_not {a : IE} : R.bind (ev cf (.not a) s) kl = R.bind (bindM (ev cf a) asC s) fun b s => kl [.d (.bool !b)] s := by
  show R.bind (bindM (bindM (ev cf a) asC) (fun b => pureM [.d (.bool !b)]) s) kl = _
  rw [rb_bindM]; rfl
theorem e_and {a b : IE} : R.bind (ev cf (.and a b) s) kl = R.bind (bindM (ev cf a) asC s) fun c s => R.bind (bcase c (ev cf b) (pureM [.d (.bool false)]) s) kl := by
  show R.bind (bindM (bindM (ev cf a) asC) (fun c => bcase c (ev cf b) (pureM [.d (.bool false)])) s) kl = _
  rw [rb_bindM]
theorem e_or {a b : IE} : R.bind (ev cf (.or a b) s) kl = R.bind (bindM (ev cf a) asC s) fun c s => R.bind (bcase c (pureM [.d (.bool true)]) (ev cf b) s) kl := by
  show R.bind (bindM (bindM (ev cf a) asC) (fun c => bcase c (pureM [.d (.bool true)]) (ev cf b)) s) kl = _
  rw [rb_bindM]
theorem e_ife {t a b : IE} : R.bind (ev cf (.ife t a b) s) kl = R.bind (bindM (ev cf t) asC s) fun c s => R.bind (bcase c (ev cf a) (ev cf b) s) kl := by
  show R.bind (bindM (bindM (ev cf t) asC) (fun c => bcase c (ev cf a) (ev cf b)) s) kl = _
  rw [rb_bindM]
theorem e_call {f : Nat} {l : IE} : R.bind (ev cf (.call f l) s) kl = R.bind (ev cf l s) fun xs s => R.bind (fromRC0 (cf f false (xs.map RV.toD) (0, 0)) s) kl := by
  show R.bind (bindM (ev cf l) (fun xs => fromRC0 (cf f false (xs.map RV.toD) (0, 0))) s) kl = _
  rw [rb_bindM]
theorem e_callD {f i : Nat} {l : IE} : R.bind (ev cf (.callD f i l) s) kl = R.bind (isDice i s) fun _ s => R.bind (ev cf l s) fun xs s => R.bind (fromRC (cf f true (xs.map RV.toD) s.δ) s) kl := by
  show R.bind (bindM (isDice i) (fun _ => bindM (ev cf l) fun xs s => fromRC (cf f true (xs.map RV.toD) s.δ) s) s) kl = _
  rw [rb_bindM]; congr 1; funext l s; rw [rb_bindM]
theorem rc0_ok {d : D} {δ : Int × Int} : R.bind (fromRC0 (.ok d δ) s) kl = kl [.d d] s := rfl
theorem rc_ok {d : D} {δ δ' : Int × Int} {ρ : List (Option SV)} : R.bind (fromRC (.ok d δ) ⟨ρ, δ'⟩) kl = kl [.d d] ⟨ρ, δ⟩ := rfl
theorem rc0_if {c : Prop} [Decidable c] {x y : RC} : R.bind (fromRC0 (if c then x else y) s) kl = if c then R.bind (fromRC0 x s) kl else R.bind (fromRC0 y s) kl := by split <;> rfl
theorem e_blt {b : Blt} {l : IE} : R.bind (ev cf (.blt b l) s) kl = R.bind (ev cf l s) fun xs s => R.bind (optM (blt b (xs.map RV.toD)) s) fun r s => kl [r] s := by
  show R.bind (bindM (ev cf l) (fun xs => bindM (optM (blt b (xs.map RV.toD))) fun r => pureM [r]) s) kl = _
  rw [rb_bindM]; congr 1; funext l s; rw [rb_bindM]; rfl
theorem e_bltB {b : Blt} {i : Nat} : R.bind (ev cf (.bltB b i) s) kl = R.bind (peek i s) fun x s => R.bind (optM (blt b [x]) s) fun r s => kl [r] s := by
  show R.bind (bindM (peek i) (fun x => bindM (optM (blt b [x])) fun r => pureM [r]) s) kl = _
  rw [rb_bindM]; congr 1; funext l s; rw [rb_bindM]; rfl
def isiB (d : D) (t : Ty) : Bool := (isiD d t).getD false
theorem e_isi {a : IE} {t : Ty} : R.bind (ev cf (.isi a t) s) kl = R.bind (one1 (ev cf a) s) fun x s => kl [.d (.bool (isiB x t))] s := by
  show R.bind (bindM (one1 (ev cf a)) (fun x => bindM (optM (isiD x t)) fun b => pureM [.d (.bool b)]) s) kl = _
  rw [rb_bindM]; congr 1; funext l s; rw [rb_bindM]
  cases l <;> cases t <;> rfl
theorem e_ix {a b : IE} : R.bind (ev cf (.ix a b) s) kl = R.bind (one1 (ev cf a) s) fun x s => R.bind (one1 (ev cf b) s) fun y s => R.bind (optM (ixD x y) s) fun d s => kl [.d d] s := by
  show R.bind (bindM (one1 (ev cf a)) (fun x => bindM (one1 (ev cf b)) fun y => bindM (optM (ixD x y)) fun d => pureM [.d d]) s) kl = _
  rw [rb_bindM]; congr 1; funext l s; rw [rb_bindM]; congr 1; funext l s; rw [rb_bindM]; rfl
theorem e_ixB {i : Nat} {b : IE} : R.bind (ev cf (.ixB i b) s) kl = R.bind (peek i s) fun _ s => R.bind (one1 (ev cf b) s) fun y s => R.bind (peek i s) fun x s => R.bind (optM (ixD x y) s) fun d s => kl [.d d] s := by
  show R.bind (bindM (peek i) (fun _ => bindM (one1 (ev cf b)) fun y => bindM (peek i) fun x => bindM (optM (ixD x y)) fun d => pureM [.d d]) s) kl = _
  rw [rb_bindM]; congr 1; funext l s; rw [rb_bindM]; congr 1; funext l s; rw [rb_bindM]; congr 1; funext l s; rw [rb_bindM]; rfl
theorem rb_partF {m : M (List RV)} {k : Option Int → M β} : R.bind (partB false m s) k = k none s := rfl
theorem rb_partT {m : M (List RV)} {k : Option Int → M β} : R.bind (partB true m s) k = R.bind (m s) fun l s => R.bind (part l s) k := by
  show R.bind (bindM m part s) k = _
  rw [rb_bindM]
theorem rb_part {i : Int} {k : Option Int → M β} : R.bind (part [.d (.int i)] s) k = k (some i) s := rfl
theorem e_slc {bl bh : Bool} {a lo hi : IE} : R.bind (ev cf (.slc bl bh a lo hi) s) kl = R.bind (one1 (ev cf a) s) fun x s => R.bind (partB bl (ev cf lo) s) fun l s => R.bind (partB bh (ev cf hi) s) fun h s => R.bind (optM (slcD x l h) s) fun r s => kl [r] s := by
  show R.bind (bindM (one1 (ev cf a)) (fun x => bindM (partB bl (ev cf lo)) fun l => bindM (partB bh (ev cf hi)) fun h => bindM (optM (slcD x l h)) fun r => pureM [r]) s) kl = _
  rw [rb_bindM]; congr 1; funext l s; rw [rb_bindM]; congr 1; funext l s; rw [rb_bindM]; congr 1; funext l s; rw [rb_bindM]; rfl
theorem e_slcB {bl bh : Bool} {i : Nat} {lo hi : IE} : R.bind (ev cf (.slcB bl bh i lo hi) s) kl = R.bind (peek i s) fun _ s => R.bind (partB bl (ev cf lo) s) fun l s => R.bind (partB bh (ev cf hi) s) fun h s => R.bind (peek i s) fun x s => R.bind (optM (slcD x l h) s) fun r s => kl [r] s := by
  show R.bind (bindM (peek i) (fun _ => bindM (partB bl (ev cf lo)) fun l => bindM (partB bh (ev cf hi)) fun h => bindM (peek i) fun x => bindM (optM (slcD x l h)) fun r => pureM [r]) s) kl = _
  rw [rb_bindM]; congr 1; funext l s; rw [rb_bindM]; congr 1; funext l s; rw [rb_bindM]; congr 1; funext l s; rw [rb_bindM]; congr 1; funext l s; rw [rb_bindM]; rfl
def lcR (fz vs : List Nat) (tg : Tg) (c : M Bool) (e : M (List RV)) (ys : List D) : M (List RV) := fun s => match lcM (hide (frzAll fz s).ρ vs) tg c e ys s.δ with
  | some (zs, δ') => .ok [.own zs] { frzAll fz s with δ := δ' }
  | none => .stuck
theorem rb_itM {kd : Itk} {m : M (List RV)} {k : List D → M β} : R.bind (itM kd m s) k = R.bind (m s) fun xs s => R.bind (optM (itD kd (xs.map RV.toD)) s) k := by
  show R.bind (bindM m (fun xs => optM (itD kd (xs.map RV.toD))) s) k = _
  rw [rb_bindM]
theorem e_lc {fz vs : List Nat} {tg : Tg} {kd : Itk} {l c e : IE} : R.bind (ev cf (.lc fz vs tg kd l c e) s) kl = R.bind (itM kd (ev cf l) s) fun ys s => R.bind (lcR fz vs tg (bindM (ev cf c) asC) (ev cf e) ys s) kl := by
  show R.bind (bindM (itM kd (ev cf l)) (fun ys => lcR fz vs tg (bindM (ev cf c) asC) (ev cf e) ys) s) kl = _
  rw [rb_bindM]
theorem lcR_of {fz vs : List Nat} {tg : Tg} {c : M Bool} {e : M (List RV)} {ys zs : List D} {ρ : List (Option SV)} {δ : Int × Int} (h : lcM (hide (frzAll fz ⟨ρ, δ⟩).ρ vs) tg c e ys δ = some (zs, δ)) : R.bind (lcR fz vs tg c e ys ⟨ρ, δ⟩) kl = kl [.own zs] { frzAll fz ⟨ρ, δ⟩ with δ := δ } := by
  unfold lcR
  dsimp only
  rw [h]; rfl
theorem t_skip : R.bind (evS cf .skip s) kf = kf .next s := rfl
theorem t_seq {a b : IS} : R.bind (evS cf (.seq a b) s) kf = R.bind (evS cf a s) fun f s => R.bind (fcase f (evS cf b) (fun d => pureM (.ret d)) (pureM .brk) (pureM .cont) s) kf := by
  show R.bind (bindM (evS cf a) (fun f => match f with | .next => evS cf b | f => pureM f) s) kf = _
  rw [rb_bindM]; congr 1; funext f s; cases f <;> rfl
theorem t_asg {i : Nat} {e : IE} : R.bind (evS cf (.asg i e) s) kf = R.bind (ev cf e s) fun l s => R.bind (one l s) fun r s => kf .next ⟨s.ρ.set i (some r.toSV), s.δ⟩ := by
  show R.bind (bindM (ev cf e) (fun l => bindM (one l) fun r s => .ok .next { s with ρ := s.ρ.set i (some r.toSV) }) s) kf = _
  rw [rb_bindM]; congr 1; funext l s; rw [rb_bindM]; rfl
theorem t_ife {t : IE} {a b : IS} : R.bind (evS cf (.ife t a b) s) kf = R.bind (bindM (ev cf t) asC s) fun c s => R.bind (bcase c (evS cf a) (evS cf b) s) kf := by
  show R.bind (bindM (bindM (ev cf t) asC) (fun c => bcase c (evS cf a) (evS cf b)) s) kf = _
  rw [rb_bindM]
theorem t_for {tg : Tg} {kd : Itk} {l : IE} {b : IS} : R.bind (evS cf (.forS tg kd l b) s) kf = R.bind (itM kd (ev cf l) s) fun ys s => R.bind (forM tg (evS cf b) ys s) kf := by
  show R.bind (bindM (itM kd (ev cf l)) (fun ys => forM tg (evS cf b) ys) s) kf = _
  rw [rb_bindM]
theorem for_nil {tg : Tg} {b : M Fl} : R.bind (forM tg b [] s) kf = kf .next s := rfl
theorem for_cons {tg : Tg} {b : M Fl} {x : D} {xs : List D} : R.bind (forM tg b (x :: xs) s) kf = R.bind (setTg tg x s) fun _ s => R.bind (b s) fun f s => R.bind (fcase f (forM tg b xs) (fun d => pureM (.ret d)) (pureM .next) (forM tg b xs) s) kf := by
  show R.bind (bindM (setTg tg x) (fun _ => bindM b fun f => match f with | .next => forM tg b xs | .cont => forM tg b xs | .brk => pureM .next | .ret d => pureM (.ret d)) s) kf = _
  rw [rb_bindM]; congr 1; funext u s; rw [rb_bindM]; congr 1; funext f s; cases f <;> rfl
theorem tg_nm {i : Nat} {x : D} {ρ : List (Option SV)} {δ : Int × Int} {k : Unit → M β} : R.bind (setTg (.nm i) x ⟨ρ, δ⟩) k = k () ⟨ρ.set i (some (.d x)), δ⟩ := rfl
theorem t_ret {e : IE} : R.bind (evS cf (.ret e) s) kf = R.bind (one1 (ev cf e) s) fun d s => kf (.ret d) s := by
  show R.bind (bindM (one1 (ev cf e)) (fun d => pureM (.ret d)) s) kf = _
  rw [rb_bindM]; rfl
theorem t_expr {e : IE} : R.bind (evS cf (.expr e) s) kf = R.bind (one1 (ev cf e) s) fun _ s => kf .next s := by
  show R.bind (bindM (one1 (ev cf e)) (fun _ => pureM .next) s) kf = _
  rw [rb_bindM]; rfl
theorem t_raise {c : Str} : R.bind (evS cf (.raise c) s) kf = .exc c s := rfl
theorem t_setD {i : Nat} {e k : IE} : R.bind (evS cf (.setD i k e) s) kf = R.bind (one1 (ev cf e) s) fun x s => R.bind (isDice i s) fun _ s => R.bind (one1 (ev cf k) s) fun j s => R.bind (setDv x j s) kf := by
  show R.bind (bindM (one1 (ev cf e)) (fun x => bindM (isDice i) fun _ => bindM (one1 (ev cf k)) fun j => setDv x j) s) kf = _
  rw [rb_bindM]; congr 1; funext l s; rw [rb_bindM]; congr 1; funext l s; rw [rb_bindM]
theorem sd0 {x c n : Int} {ρ : List (Option SV)} : R.bind (setDv (.int x) (.int 0) ⟨ρ, (c, n)⟩) kf = kf .next ⟨ρ, (x, n)⟩ := rfl
theorem sd1 {x c n : Int} {ρ : List (Option SV)} : R.bind (setDv (.int x) (.int 1) ⟨ρ, (c, n)⟩) kf = kf .next ⟨ρ, (c, x)⟩ := rfl
theorem dc0 {l : List (Option SV)} {δ : Int × Int} {k : Unit → M β} : R.bind (isDice 0 ⟨some .dice :: l, δ⟩) k = k () ⟨some .dice :: l, δ⟩ := rfl
theorem dc1 {x : Option SV} {l : List (Option SV)} {δ : Int × Int} {k : Unit → M β} : R.bind (isDice 1 ⟨x :: some .dice :: l, δ⟩) k = k () ⟨x :: some .dice :: l, δ⟩ := rfl
theorem v_lt {i j : Int} {k : Bool → M β} : R.bind (optM (cop .lt (.int i) (.int j)) s) k = k (decide (i < j)) s := rfl
theorem v_le {i j : Int} {k : Bool → M β} : R.bind (optM (cop .le (.int i) (.int j)) s) k = k (decide (i ≤ j)) s := rfl
theorem v_gt {i j : Int} {k : Bool → M β} : R.bind (optM (cop .gt (.int i) (.int j)) s) k = k (decide (j < i)) s := rfl
theorem v_ge {i j : Int} {k : Bool → M β} : R.bind (optM (cop .ge (.int i) (.int j)) s) k = k (decide (j ≤ i)) s := rfl
theorem v_eqI {i j : Int} {k : Bool → M β} : R.bind (optM (cop .eq (.int i) (.int j)) s) k = k (i == j) s := rfl
theorem v_neI {i j : Int} {k : Bool → M β} : R.bind (optM (cop .ne (.int i) (.int j)) s) k = k (!(i == j)) s := rfl
theorem v_eqS {i j : Str} {k : Bool → M β} : R.bind (optM (cop .eq (.str i) (.str j)) s) k = k (i == j) s := rfl
theorem v_neS {i j : Str} {k : Bool → M β} : R.bind (optM (cop .ne (.str i) (.str j)) s) k = k (!(i == j)) s := rfl
theorem v_isN {x : D} {k : Bool → M β} : R.bind (optM (cop .isN x .none) s) k = k (isNoneD x) s := rfl
theorem v_notN {x : D} {k : Bool → M β} : R.bind (optM (cop .notN x .none) s) k = k (!isNoneD x) s := rfl
theorem v_inT {x : D} {xs : List D} {k : Bool → M β} (h : (flatD x && xs.all flatD) = true) : R.bind (optM (cop .inn x (.tuple xs)) s) k = k (xs.any fun z => PyData.eqv z x) s := by
  show R.bind (optM (if _ then _ else _) s) k = _
  rw [if_pos h]; rfl
theorem v_notInT {x : D} {xs : List D} {k : Bool → M β} (h : (flatD x && xs.all flatD) = true) : R.bind (optM (cop .notIn x (.tuple xs)) s) k = k (!xs.any fun z => PyData.eqv z x) s := by
  show R.bind (optM (if _ then _ else _) s) k = _
  rw [if_pos h]; rfl
variable {kr : RV → M β} {kd : D → M β}
theorem v_add {i j : Int} : R.bind (optM (bop .add (.d (.int i)) (.d (.int j))) s) kr = kr (.d (.int (i + j))) s := rfl
theorem v_sub {i j : Int} : R.bind (optM (bop .sub (.d (.int i)) (.d (.int j))) s) kr = kr (.d (.int (i - j))) s := rfl
theorem v_mul {i j : Int} (h : okMul i j = true) : R.bind (optM (bop .mul (.d (.int i)) (.d (.int j))) s) kr = kr (.d (.int (i * j))) s := by
  show R.bind (optM (if okMul i j = true then _ else _) s) kr = _
  rw [if_pos h]; rfl
theorem v_fdiv {i j : Int} (h : okDiv j = true) : R.bind (optM (bop .fdiv (.d (.int i)) (.d (.int j))) s) kr = kr (.d (.int (i.fdiv j))) s := by
  show R.bind (optM (if okDiv j = true then _ else _) s) kr = _
  rw [if_pos h]; rfl
theorem v_mod {i j : Int} (h : j ≠ 0) : R.bind (optM (bop .mod (.d (.int i)) (.d (.int j))) s) kr = kr (.d (.int (i.fmod j))) s := by
  show R.bind (optM (if j ≠ 0 then _ else _) s) kr = _
  rw [if_pos h]; rfl
theorem v_pow {i j : Int} (h : okPow i j = true) : R.bind (optM (bop .pow (.d (.int i)) (.d (.int j))) s) kr = kr (.d (.int (i ^ j.toNat))) s := by
  show R.bind (optM (if okPow i j = true then _ else _) s) kr = _
  rw [if_pos h]; rfl
theorem v_addT {x y : List D} (h : okLen (x.length + y.length) = true) : R.bind (optM (bop .add (.d (.tuple x)) (.d (.tuple y))) s) kr = kr (.d (.tuple (x ++ y))) s := by
  show R.bind (optM (if okLen (x.length + y.length) = true then _ else _) s) kr = _
  rw [if_pos h]; rfl
theorem v_addL {x y : List D} (h : okLen (x.length + y.length) = true) : R.bind (optM (bop .add (.d (.list x)) (.d (.list y))) s) kr = kr (.own (x ++ y)) s := by
  show R.bind (optM (if okLen (x.length + y.length) = true then _ else _) s) kr = _
  rw [if_pos h]; rfl
theorem v_neg {i : Int} : R.bind (negD (.int i) s) kr = kr (.d (.int (-i))) s := rfl
theorem v_lenL {x : List D} : R.bind (optM (blt .len [.list x]) s) kr = kr (.d (.int x.length)) s := rfl
theorem v_lenT {x : List D} : R.bind (optM (blt .len [.tuple x]) s) kr = kr (.d (.int x.length)) s := rfl
theorem v_abs {i : Int} : R.bind (optM (blt .abs [.int i]) s) kr = kr (.d (.int (if i < 0 then -i else i))) s := rfl
theorem v_tupL {x : List D} : R.bind (optM (blt .tuple [.list x]) s) kr = kr (.d (.tuple x)) s := rfl
theorem v_tupT {x : List D} : R.bind (optM (blt .tuple [.tuple x]) s) kr = kr (.d (.tuple x)) s := rfl
theorem boolsD_map : ∀ bs : List Bool, boolsD (bs.map PyData.bool) = some bs
  | [] => rfl
  | b :: bs => by rw [List.map_cons]; show (boolsD (bs.map PyData.bool)).map (b :: ·) = _; rw [boolsD_map bs]; rfl
theorem intsD_map : ∀ bs : List Int, intsD (bs.map PyData.int) = some bs
  | [] => rfl
  | b :: bs => by rw [List.map_cons]; show (intsD (bs.map PyData.int)).map (b :: ·) = _; rw [intsD_map bs]; rfl
theorem v_all {bs : List Bool} : R.bind (optM (blt .all [.list (bs.map PyData.bool)]) s) kr = kr (.d (.bool (bs.all id))) s := by
  show R.bind (optM ((boolsD (bs.map PyData.bool)).map _) s) kr = _
  rw [boolsD_map]; rfl
theorem v_any {bs : List Bool} : R.bind (optM (blt .any [.list (bs.map PyData.bool)]) s) kr = kr (.d (.bool (bs.any id))) s := by
  show R.bind (optM ((boolsD (bs.map PyData.bool)).map _) s) kr = _
  rw [boolsD_map]; rfl
theorem v_sum {bs : List Int} : R.bind (optM (blt .sum [.list (bs.map PyData.int)]) s) kr = kr (.d (.int bs.sum)) s := by
  show R.bind (optM ((intsD (bs.map PyData.int)).map _) s) kr = _
  rw [intsD_map]; rfl
theorem v_ixn {xs : List D} {d : D} (n : Nat) (h : xs[n]? = some d) : R.bind (optM (ixD (.tuple xs) (.int (n : Int))) s) kd = kd d s := by
  show R.bind (optM (atI xs (n : Int)) s) kd = _
  rw [atI_nat h]; rfl
theorem v_slT {xs : List D} {lo hi : Option Int} : R.bind (optM (slcD (.tuple xs) lo hi) s) kr = kr (.d (.tuple (cutL xs lo hi))) s := rfl
theorem v_slL {xs : List D} {lo hi : Option Int} : R.bind (optM (slcD (.list xs) lo hi) s) kr = kr (.own (cutL xs lo hi)) s := rfl
theorem v_ix0 {x : D} {xs : List D} : R.bind (optM (ixD (.tuple (x :: xs)) (.int 0)) s) kd = kd x s := by
  show R.bind (optM (atI (x :: xs) ((0 : Nat) : Int)) s) kd = _
  rw [atI_nat (j := 0) (v := x) rfl]; rfl
theorem v_ix1 {a x : D} {xs : List D} : R.bind (optM (ixD (.tuple (a :: x :: xs)) (.int 1)) s) kd = kd x s := v_ixn 1 rfl
theorem v_ix2 {a b x : D} {xs : List D} : R.bind (optM (ixD (.tuple (a :: b :: x :: xs)) (.int 2)) s) kd = kd x s := v_ixn 2 rfl
theorem v_ix3 {a b c x : D} {xs : List D} : R.bind (optM (ixD (.tuple (a :: b :: c :: x :: xs)) (.int 3)) s) kd = kd x s := v_ixn 3 rfl
theorem v_ix4 {a b c d x : D} {xs : List D} : R.bind (optM (ixD (.tuple (a :: b :: c :: d :: x :: xs)) (.int 4)) s) kd = kd x s := v_ixn 4 rfl
theorem v_ix {xs : List D} {d : D} {n : Nat} (h : xs[n]? = some d) : R.bind (optM (ixD (.tuple xs) (.int (n : Int))) s) kd = kd d s := by
  show R.bind (optM (atI xs (n : Int)) s) kd = _
  rw [atI_nat h]; rfl
theorem v_it {xs : List D} {k : List D → M β} (h : okLen xs.length = true) : R.bind (optM (itD .seq [.tuple xs]) s) k = k xs s := by
  show R.bind (optM (if okLen xs.length = true then _ else _) s) k = _
  rw [if_pos h]; rfl
theorem v_itL {xs : List D} {k : List D → M β} (h : okLen xs.length = true) : R.bind (optM (itD .seq [.list xs]) s) k = k xs s := by
  show R.bind (optM (if okLen xs.length = true then _ else _) s) k = _
  rw [if_pos h]; rfl
end
theorem lcM_map {ρ0 : List (Option SV)} {tg : Tg} {c : M Bool} {e : M (List RV)} {f : D → D} {δ : Int × Int} : ∀ {ys : List D}, (∀ y ∈ ys, ∃ s', lcT tg c e y ⟨ρ0, δ⟩ = .ok (some (f y)) s' ∧ s'.δ = δ) → lcM ρ0 tg c e ys δ = some (ys.map f, δ)
  | [], _ => rfl
  | y :: ys, h => by
    obtain ⟨s', h1, h2⟩ := h y List.mem_cons_self
    rw [lcM, h1]
    dsimp only
    rw [h2, lcM_map fun z hz => h z (List.mem_cons_of_mem _ hz)]
    rfl
section
variable {β : Type} {cf : CF} {s : S} {kl : List RV → M β}
theorem rb_lcT {tg : Tg} {c : M Bool} {e : M (List RV)} {x : D} {k : Option D → M β} : R.bind (lcT tg c e x s) k = R.bind (setTg tg x s) fun _ s => R.bind (c s) fun b s => R.bind (bcase b (bindM e fun l => bindM (one l) fun r => pureM (some r.toD)) (pureM none) s) k := by
  show R.bind (bindM (setTg tg x) (fun _ => bindM c fun b => bcase b (bindM e fun l => bindM (one l) fun r => pureM (some r.toD)) (pureM none)) s) k = _
  rw [rb_bindM]; congr 1; funext u s; rw [rb_bindM]
theorem frzAll_δ : ∀ (fz : List Nat) (s : S), (frzAll fz s).δ = s.δ
  | [], s => rfl
  | i :: is, s => by
    unfold frzAll
    split
    · rw [frzAll_δ is]
    · exact frzAll_δ is s
theorem lcR_map {fz vs : List Nat} {tg : Tg} {c : M Bool} {e : M (List RV)} {ys : List D} {ρ : List (Option SV)} {δ : Int × Int} (f : D → D) (h : ∀ y ∈ ys, ∃ s', lcT tg c e y ⟨hide (frzAll fz ⟨ρ, δ⟩).ρ vs, δ⟩ = .ok (some (f y)) s' ∧ s'.δ = δ) :
    R.bind (lcR fz vs tg c e ys ⟨ρ, δ⟩) kl = kl [.own (ys.map f)] ⟨(frzAll fz ⟨ρ, δ⟩).ρ, δ⟩ := by
  unfold lcR
  dsimp only
  rw [lcM_map h]; rfl
theorem lcR_bool {fz vs : List Nat} {tg : Tg} {c : M Bool} {e : M (List RV)} {ys : List D} {ρ : List (Option SV)} {δ : Int × Int} (f : D → Bool) (h : ∀ y ∈ ys, ∃ s', lcT tg c e y ⟨hide (frzAll fz ⟨ρ, δ⟩).ρ vs, δ⟩ = .ok (some (.bool (f y))) s' ∧ s'.δ = δ) :
    R.bind (lcR fz vs tg c e ys ⟨ρ, δ⟩) kl = kl [.own ((ys.map f).map PyData.bool)] ⟨(frzAll fz ⟨ρ, δ⟩).ρ, δ⟩ := by
  rw [lcR_map (fun y => .bool (f y)) h, List.map_map]; rfl
theorem lcR_int {fz vs : List Nat} {tg : Tg} {c : M Bool} {e : M (List RV)} {ys : List D} {ρ : List (Option SV)} {δ : Int × Int} (f : D → Int) (h : ∀ y ∈ ys, ∃ s', lcT tg c e y ⟨hide (frzAll fz ⟨ρ, δ⟩).ρ vs, δ⟩ = .ok (some (.int (f y))) s' ∧ s'.δ = δ) :
    R.bind (lcR fz vs tg c e ys ⟨ρ, δ⟩) kl = kl [.own ((ys.map f).map PyData.int)] ⟨(frzAll fz ⟨ρ, δ⟩).ρ, δ⟩ := by
  rw [lcR_map (fun y => .int (f y)) h, List.map_map]; rfl
end
theorem run_of {cf : CF} {f : Def} {dc : Bool} {ds : List D} {δ : Int × Int} {s : S} {r : RC} (h : okCall f dc ds = true) (hs : startS f dc ds δ = s) (e : endRC (R.bind (evS cf f.body s) fun a s => .ok a s) = r) : runDef cf f dc ds δ = r := by
  unfold runDef; rw [h, hs]; rw [rb_self] at e; exact e
theorem all_id {α : Type} (f : α → Bool) (l : List α) : (l.map f).all id = l.all f := by
  induction l with
  | nil => rfl
  | cons x l ih => simp [ih]
theorem for_all {tg : Tg} {b : M Fl} {p : D → Bool} {δ : Int × Int} {I : List (Option SV) → Prop} (h : ∀ x ρ, I ρ → ∃ ρ', I ρ' ∧ R.bind (setTg tg x ⟨ρ, δ⟩) (fun _ s => b s) = .ok (if p x then .next else .ret (.bool false)) ⟨ρ', δ⟩) :
    ∀ (xs : List D) (ρ : List (Option SV)), I ρ → ∃ ρ', I ρ' ∧ forM tg b xs ⟨ρ, δ⟩ = .ok (if xs.all p then .next else .ret (.bool false)) ⟨ρ', δ⟩
  | [], ρ, hI => ⟨ρ, hI, rfl⟩
  | x :: xs, ρ, hI => by
    obtain ⟨ρ1, h1, e1⟩ := h x ρ hI
    have e0 : forM tg b (x :: xs) ⟨ρ, δ⟩ = R.bind (R.bind (setTg tg x ⟨ρ, δ⟩) fun _ s => b s) fun f => match f with | .next => forM tg b xs | .cont => forM tg b xs | .brk => pureM .next | .ret d => pureM (.ret d) := by
      show bindM (setTg tg x) (fun _ => bindM b fun f => match f with | .next => forM tg b xs | .cont => forM tg b xs | .brk => pureM .next | .ret d => pureM (.ret d)) ⟨ρ, δ⟩ = _
      unfold bindM R.bind
      cases setTg tg x ⟨ρ, δ⟩ <;> rfl
    rw [e0, e1]
    cases hp : p x with
    | true =>
      obtain ⟨ρ2, h2, e2⟩ := for_all h xs ρ1 h1
      refine ⟨ρ2, h2, ?_⟩
      rw [List.all_cons, hp, Bool.true_and]
      exact e2
    | false =>
      refine ⟨ρ1, h1, ?_⟩
      rw [List.all_cons, hp, Bool.false_and]
      rfl
end PL
namespace PL
open PySem
abbrev Orc := Nat → Bool → List D → Int × Int → Option RC
def orc (Γ : List Def) (O : Orc) (base : Nat) : Nat → CF
  | 0 => fun f dc ds δ => (O f dc ds δ).getD (run Γ base f dc ds δ)
  | n + 1 => fun f dc ds δ => match O f dc ds δ with
    | some r => r
    | none => match Γ[f]? with
      | some d => runDef (orc Γ O base n) d dc ds δ
      | none => .stuck
theorem orc_run {Γ : List Def} {O : Orc} {base : Nat} (h : ∀ k f dc ds δ r, O f dc ds δ = some r → run Γ (base + k) f dc ds δ = r) : ∀ n, run Γ (base + n) = orc Γ O base n
  | 0 => by
    funext f dc ds δ
    show _ = (O f dc ds δ).getD _
    cases e : O f dc ds δ with
    | none => rfl
    | some r => exact h 0 f dc ds δ r e
  | n + 1 => by
    funext f dc ds δ
    show _ = match O f dc ds δ with | some r => r | none => match Γ[f]? with | some d => runDef (orc Γ O base n) d dc ds δ | none => .stuck
    cases e : O f dc ds δ with
    | none =>
      show (match Γ[f]? with | some d => runDef (run Γ (base + n)) d dc ds δ | none => .stuck) = _
      rw [orc_run h n]
    | some r => exact h (n + 1) f dc ds δ r e
def fine (n : Nat) : R Fl → Bool
  | .ok .next s => s.ρ.length == n
  | _ => false
theorem fine_ex {n : Nat} {r : R Fl} (h : fine n r = true) : ∃ s', r = .ok .next s' ∧ s'.ρ.length = n := by
  unfold fine at h
  split at h
  · exact ⟨_, rfl, eq_of_beq h⟩
  · cases h
def dropS : Nat → IS → IS
  | 0, s => s
  | n + 1, .seq _ b => dropS n b
  | _, s => s
theorem all_of {p : Int → Bool} {n : Nat} (h : (List.range n).all (fun i => p (i : Int)) = true) {t : Int} (h0 : 0 ≤ t) (h1 : t < n) : p t = true := by
  have := List.all_eq_true.mp h t.toNat (List.mem_range.mpr (by omega))
  rwa [show ((t.toNat : Nat) : Int) = t by omega] at this
end PL
set_option maxHeartbeats 4000000
namespace Tb
open PySem PySem.Spec PyProof.Rows L2 PL
def topS (i : Nat) : Stmt := PySem.Challenge.pw_samepictures_k47_whole_layers_at_bounds.main.body.getD i (.Pass ⟨0, 0, 0, 0⟩)
def g : Gl4 := ⟨[("is_whole", false), ("is_loop", false), ("is_shape", false), ("is_colour", false), ("is_opacity", false), ("is_matrix", false), ("is_layer_within", false), ("are_layers", false), ("points_in", false), ("is_drawing", false), ("is_layer", false), ("need_drawing", false), ("count_points", false), ("_law_drawn", false), ("_law_roll", true), ("_law_group", false), ("_law_right_matrices", false), ("_law_right_parts", false), ("_law_right_sizes", false)], [("MOST_POINTS", (.int 60))], ["isinstance", "len", "all", "sum", "max", "min", "tuple", "int", "bool", "str", "range"], ["InvalidDrawing"]⟩
abbrev s_is_whole : Stmt := topS 4
def N_is_whole : List Str := ["value", "low", "high"]
abbrev s_is_loop : Stmt := topS 7
def N_is_loop : List Str := ["value", "point", "one"]
abbrev s_is_shape : Stmt := topS 8
def N_is_shape : List Str := ["value", "one"]
abbrev s_is_colour : Stmt := topS 9
def N_is_colour : List Str := ["value", "one"]
abbrev s_is_opacity : Stmt := topS 10
def N_is_opacity : List Str := ["value"]
abbrev s_is_matrix : Stmt := topS 11
def N_is_matrix : List Str := ["value", "one"]
abbrev s_is_layer_within : Stmt := topS 12
def N_is_layer_within : List Str := ["value", "deep"]
abbrev s_are_layers : Stmt := topS 13
def N_are_layers : List Str := ["value", "deep", "one"]
abbrev s_points_in : Stmt := topS 14
def N_points_in : List Str := ["layers", "count", "layer", "shape", "loop"]
abbrev s_is_drawing : Stmt := topS 15
def N_is_drawing : List Str := ["value"]
abbrev s_is_layer : Stmt := topS 16
def N_is_layer : List Str := ["value"]
abbrev s_need_drawing : Stmt := topS 17
def N_need_drawing : List Str := ["drawing"]
abbrev s_count_points : Stmt := topS 18
def N_count_points : List Str := ["drawing"]
abbrev s__law_cell : Stmt := topS 20
def N__law_cell : List Str := ["script", "k"]
abbrev s__law_drawn : Stmt := topS 21
def N__law_drawn : List Str := ["cell", "k", "more"]
abbrev s__law_roll : Stmt := topS 22
def N__law_roll : List Str := ["dice", "many", "told"]
abbrev s__law_rounds : Stmt := topS 23
def N__law_rounds : List Str := ["script", "most", "k"]
abbrev s__law_group : Stmt := topS 24
def N__law_group : List Str := ["layers", "matrix"]
abbrev s__law_right_matrices : Stmt := topS 25
def N__law_right_matrices : List Str := ["fill", "at", "far", "number", "matrix", "right"]
abbrev s__law_right_parts : Stmt := topS 26
def N__law_right_parts : List Str := ["fill", "loop", "opacity", "right", "colour", "point"]
abbrev s__law_right_sizes : Stmt := topS 27
def N__law_right_sizes : List Str := ["many", "loop", "great", "sixty"]
abbrev s_law : Stmt := topS 28
def N_law : List Str := ["script", "dice", "loop", "fill", "many", "stay", "two"]
def forBody : List Stmt → List Stmt
  | .For _ _ b _ _ :: _ => b
  | _ => []
theorem sc_is_whole : FnScope N_is_whole ["value", "low", "high"] (defScope s_is_whole) := ⟨rfl, rfl, rfl, by decide +kernel, rfl, by decide +kernel, by decide +kernel⟩
def d_is_whole : Def := ⟨3, false, 3, (.seq (.ret (.and (.isi (.var 0) .int) (.and (.not (.isi (.var 0) .bool)) (.chain .le .le (.var 1) (.var 0) (.var 2))))) .skip)⟩
theorem c_is_whole : compBody (g.cc N_is_whole) (defScope s_is_whole) (defBody s_is_whole) = some d_is_whole.body := by kernel_rfl
theorem in_is_whole {K : PySem.W.Frag} {h : Heap} {mg : Str → Option Value} {f : Addr} {od an : Option Addr} {sl : Array (Option Value)} {oc kV dc pm cd ct : Value} (X : K.In h) (G : h.Ns mainGlobals mg) (a : PySem.W.nsIn K mainGlobals "is_whole" = some (some (.ref f))) (l : K.lookup f = some ⟨oc, od, .func (PySem.W.fnOf "is_whole" "is_whole" (defArgs s_is_whole) (defBody s_is_whole) (defScope s_is_whole) .none kV dc pm an cd ct), sl⟩) (c : PySem.W.codeIn K cd "is_whole" = true) (k : PySem.W.keepIn K (.ref f) = true) : DefIn g K mg "is_whole" d_is_whole :=
  ⟨_, ["value", "low", "high"], _, s_is_whole, f, _, PySem.W.mg_of X G a, (fun_mk (st := s_is_whole) l c k).binds (fun _ _ _ _ _ _ us hl => match us, hl with | [_, _, _], _ => rfl), fun_mk (st := s_is_whole) l c k, sc_is_whole, rfl, rfl, c_is_whole⟩
theorem sc_is_loop : FnScope N_is_loop ["value"] (defScope s_is_loop) := ⟨rfl, rfl, rfl, by decide +kernel, rfl, by decide +kernel, by decide +kernel⟩
def d_is_loop : Def := ⟨3, false, 1, (.seq (.ife (.or (.not (.isi (.var 0) .tuple)) (.not (.chain .le .le (.cst (.int 3)) (.bltB .len 0) (.cst (.int 8))))) (.seq (.ret (.cst (.bool false))) .skip) .skip) (.seq (.forS (.nm 1) .seq (.cons (.var 0) .nil) (.seq (.ife (.or (.not (.isi (.var 1) .tuple)) (.or (.cmp .ne (.bltB .len 1) (.cst (.int 2))) (.not (.blt .all (.cons (.lc [2] [2] (.nm 2) .seq (.cons (.var 1) .nil) (.cst (.bool true)) (.call 0 (.cons (.var 2) (.cons (.neg (.cst (.int 9))) (.cons (.cst (.int 9)) .nil))))) .nil))))) (.seq (.ret (.cst (.bool false))) .skip) .skip) .skip)) (.seq (.ret (.cst (.bool true))) .skip)))⟩
theorem c_is_loop : compBody (g.cc N_is_loop) (defScope s_is_loop) (defBody s_is_loop) = some d_is_loop.body := by kernel_rfl
theorem in_is_loop {K : PySem.W.Frag} {h : Heap} {mg : Str → Option Value} {f : Addr} {od an : Option Addr} {sl : Array (Option Value)} {oc kV dc pm cd ct : Value} (X : K.In h) (G : h.Ns mainGlobals mg) (a : PySem.W.nsIn K mainGlobals "is_loop" = some (some (.ref f))) (l : K.lookup f = some ⟨oc, od, .func (PySem.W.fnOf "is_loop" "is_loop" (defArgs s_is_loop) (defBody s_is_loop) (defScope s_is_loop) .none kV dc pm an cd ct), sl⟩) (c : PySem.W.codeIn K cd "is_loop" = true) (k : PySem.W.keepIn K (.ref f) = true) : DefIn g K mg "is_loop" d_is_loop :=
  ⟨_, ["value"], _, s_is_loop, f, _, PySem.W.mg_of X G a, (fun_mk (st := s_is_loop) l c k).binds (fun _ _ _ _ _ _ us hl => match us, hl with | [_], _ => rfl), fun_mk (st := s_is_loop) l c k, sc_is_loop, rfl, rfl, c_is_loop⟩
theorem sc_is_shape : FnScope N_is_shape ["value"] (defScope s_is_shape) := ⟨rfl, rfl, rfl, by decide +kernel, rfl, by decide +kernel, by decide +kernel⟩
def d_is_shape : Def := ⟨2, false, 1, (.seq (.ife (.or (.not (.isi (.var 0) .tuple)) (.or (.cmp .ne (.bltB .len 0) (.cst (.int 2))) (.not (.isi (.ixB 0 (.cst (.int 0))) .str)))) (.seq (.ret (.cst (.bool false))) .skip) .skip) (.seq (.ife (.or (.cmp .notIn (.ixB 0 (.cst (.int 0))) (.tup (.cons (.cst (.str "odd")) (.cons (.cst (.str "turns")) .nil)))) (.or (.not (.isi (.ixB 0 (.cst (.int 1))) .tuple)) (.not (.chain .le .le (.cst (.int 1)) (.blt .len (.cons (.ixB 0 (.cst (.int 1))) .nil)) (.cst (.int 3)))))) (.seq (.ret (.cst (.bool false))) .skip) .skip) (.seq (.ret (.blt .all (.cons (.lc [1] [1] (.nm 1) .seq (.cons (.ixB 0 (.cst (.int 1))) .nil) (.cst (.bool true)) (.call 1 (.cons (.var 1) .nil))) .nil))) .skip)))⟩
theorem c_is_shape : compBody (g.cc N_is_shape) (defScope s_is_shape) (defBody s_is_shape) = some d_is_shape.body := by kernel_rfl
theorem in_is_shape {K : PySem.W.Frag} {h : Heap} {mg : Str → Option Value} {f : Addr} {od an : Option Addr} {sl : Array (Option Value)} {oc kV dc pm cd ct : Value} (X : K.In h) (G : h.Ns mainGlobals mg) (a : PySem.W.nsIn K mainGlobals "is_shape" = some (some (.ref f))) (l : K.lookup f = some ⟨oc, od, .func (PySem.W.fnOf "is_shape" "is_shape" (defArgs s_is_shape) (defBody s_is_shape) (defScope s_is_shape) .none kV dc pm an cd ct), sl⟩) (c : PySem.W.codeIn K cd "is_shape" = true) (k : PySem.W.keepIn K (.ref f) = true) : DefIn g K mg "is_shape" d_is_shape :=
  ⟨_, ["value"], _, s_is_shape, f, _, PySem.W.mg_of X G a, (fun_mk (st := s_is_shape) l c k).binds (fun _ _ _ _ _ _ us hl => match us, hl with | [_], _ => rfl), fun_mk (st := s_is_shape) l c k, sc_is_shape, rfl, rfl, c_is_shape⟩
theorem sc_is_colour : FnScope N_is_colour ["value"] (defScope s_is_colour) := ⟨rfl, rfl, rfl, by decide +kernel, rfl, by decide +kernel, by decide +kernel⟩
def d_is_colour : Def := ⟨2, false, 1, (.seq (.ret (.and (.isi (.var 0) .tuple) (.and (.cmp .eq (.bltB .len 0) (.cst (.int 3))) (.blt .all (.cons (.lc [1] [1] (.nm 1) .seq (.cons (.var 0) .nil) (.cst (.bool true)) (.call 0 (.cons (.var 1) (.cons (.cst (.int 0)) (.cons (.cst (.int 9)) .nil))))) .nil))))) .skip)⟩
theorem c_is_colour : compBody (g.cc N_is_colour) (defScope s_is_colour) (defBody s_is_colour) = some d_is_colour.body := by kernel_rfl
theorem in_is_colour {K : PySem.W.Frag} {h : Heap} {mg : Str → Option Value} {f : Addr} {od an : Option Addr} {sl : Array (Option Value)} {oc kV dc pm cd ct : Value} (X : K.In h) (G : h.Ns mainGlobals mg) (a : PySem.W.nsIn K mainGlobals "is_colour" = some (some (.ref f))) (l : K.lookup f = some ⟨oc, od, .func (PySem.W.fnOf "is_colour" "is_colour" (defArgs s_is_colour) (defBody s_is_colour) (defScope s_is_colour) .none kV dc pm an cd ct), sl⟩) (c : PySem.W.codeIn K cd "is_colour" = true) (k : PySem.W.keepIn K (.ref f) = true) : DefIn g K mg "is_colour" d_is_colour :=
  ⟨_, ["value"], _, s_is_colour, f, _, PySem.W.mg_of X G a, (fun_mk (st := s_is_colour) l c k).binds (fun _ _ _ _ _ _ us hl => match us, hl with | [_], _ => rfl), fun_mk (st := s_is_colour) l c k, sc_is_colour, rfl, rfl, c_is_colour⟩
theorem sc_is_opacity : FnScope N_is_opacity ["value"] (defScope s_is_opacity) := ⟨rfl, rfl, rfl, by decide +kernel, rfl, by decide +kernel, by decide +kernel⟩
def d_is_opacity : Def := ⟨1, false, 1, (.seq (.ret (.and (.isi (.var 0) .tuple) (.and (.cmp .eq (.bltB .len 0) (.cst (.int 2))) (.and (.call 0 (.cons (.ixB 0 (.cst (.int 1))) (.cons (.cst (.int 1)) (.cons (.cst (.int 6)) .nil)))) (.call 0 (.cons (.ixB 0 (.cst (.int 0))) (.cons (.cst (.int 1)) (.cons (.ixB 0 (.cst (.int 1))) .nil)))))))) .skip)⟩
theorem c_is_opacity : compBody (g.cc N_is_opacity) (defScope s_is_opacity) (defBody s_is_opacity) = some d_is_opacity.body := by kernel_rfl
theorem in_is_opacity {K : PySem.W.Frag} {h : Heap} {mg : Str → Option Value} {f : Addr} {od an : Option Addr} {sl : Array (Option Value)} {oc kV dc pm cd ct : Value} (X : K.In h) (G : h.Ns mainGlobals mg) (a : PySem.W.nsIn K mainGlobals "is_opacity" = some (some (.ref f))) (l : K.lookup f = some ⟨oc, od, .func (PySem.W.fnOf "is_opacity" "is_opacity" (defArgs s_is_opacity) (defBody s_is_opacity) (defScope s_is_opacity) .none kV dc pm an cd ct), sl⟩) (c : PySem.W.codeIn K cd "is_opacity" = true) (k : PySem.W.keepIn K (.ref f) = true) : DefIn g K mg "is_opacity" d_is_opacity :=
  ⟨_, ["value"], _, s_is_opacity, f, _, PySem.W.mg_of X G a, (fun_mk (st := s_is_opacity) l c k).binds (fun _ _ _ _ _ _ us hl => match us, hl with | [_], _ => rfl), fun_mk (st := s_is_opacity) l c k, sc_is_opacity, rfl, rfl, c_is_opacity⟩
theorem sc_is_matrix : FnScope N_is_matrix ["value"] (defScope s_is_matrix) := ⟨rfl, rfl, rfl, by decide +kernel, rfl, by decide +kernel, by decide +kernel⟩
def d_is_matrix : Def := ⟨2, false, 1, (.seq (.ife (.or (.not (.isi (.var 0) .tuple)) (.cmp .ne (.bltB .len 0) (.cst (.int 6)))) (.seq (.ret (.cst (.bool false))) .skip) .skip) (.seq (.ife (.or (.not (.blt .all (.cons (.lc [1] [1] (.nm 1) .seq (.cons (.slcB false true 0 .nil (.cst (.int 4))) .nil) (.cst (.bool true)) (.call 0 (.cons (.var 1) (.cons (.neg (.cst (.int 2))) (.cons (.cst (.int 2)) .nil))))) .nil))) (.not (.blt .all (.cons (.lc [1] [1] (.nm 1) .seq (.cons (.slcB true false 0 (.cst (.int 4)) .nil) .nil) (.cst (.bool true)) (.call 0 (.cons (.var 1) (.cons (.neg (.cst (.int 9))) (.cons (.cst (.int 9)) .nil))))) .nil)))) (.seq (.ret (.cst (.bool false))) .skip) .skip) (.seq (.ret (.cmp .ne (.op .mul (.ixB 0 (.cst (.int 0))) (.ixB 0 (.cst (.int 3)))) (.op .mul (.ixB 0 (.cst (.int 1))) (.ixB 0 (.cst (.int 2)))))) .skip)))⟩
theorem c_is_matrix : compBody (g.cc N_is_matrix) (defScope s_is_matrix) (defBody s_is_matrix) = some d_is_matrix.body := by kernel_rfl
theorem in_is_matrix {K : PySem.W.Frag} {h : Heap} {mg : Str → Option Value} {f : Addr} {od an : Option Addr} {sl : Array (Option Value)} {oc kV dc pm cd ct : Value} (X : K.In h) (G : h.Ns mainGlobals mg) (a : PySem.W.nsIn K mainGlobals "is_matrix" = some (some (.ref f))) (l : K.lookup f = some ⟨oc, od, .func (PySem.W.fnOf "is_matrix" "is_matrix" (defArgs s_is_matrix) (defBody s_is_matrix) (defScope s_is_matrix) .none kV dc pm an cd ct), sl⟩) (c : PySem.W.codeIn K cd "is_matrix" = true) (k : PySem.W.keepIn K (.ref f) = true) : DefIn g K mg "is_matrix" d_is_matrix :=
  ⟨_, ["value"], _, s_is_matrix, f, _, PySem.W.mg_of X G a, (fun_mk (st := s_is_matrix) l c k).binds (fun _ _ _ _ _ _ us hl => match us, hl with | [_], _ => rfl), fun_mk (st := s_is_matrix) l c k, sc_is_matrix, rfl, rfl, c_is_matrix⟩
theorem sc_is_layer_within : FnScope N_is_layer_within ["value", "deep"] (defScope s_is_layer_within) := ⟨rfl, rfl, rfl, by decide +kernel, rfl, by decide +kernel, by decide +kernel⟩
def d_is_layer_within : Def := ⟨2, false, 2, (.seq (.ife (.or (.not (.isi (.var 0) .tuple)) (.or (.cmp .lt (.bltB .len 0) (.cst (.int 3))) (.not (.isi (.ixB 0 (.cst (.int 0))) .str)))) (.seq (.ret (.cst (.bool false))) .skip) .skip) (.seq (.ife (.cmp .eq (.ixB 0 (.cst (.int 0))) (.cst (.str "fill"))) (.seq (.ret (.and (.cmp .eq (.bltB .len 0) (.cst (.int 4))) (.and (.call 2 (.cons (.ixB 0 (.cst (.int 1))) .nil)) (.and (.call 3 (.cons (.ixB 0 (.cst (.int 2))) .nil)) (.call 4 (.cons (.ixB 0 (.cst (.int 3))) .nil)))))) .skip) .skip) (.seq (.ife (.cmp .eq (.ixB 0 (.cst (.int 0))) (.cst (.str "rub"))) (.seq (.ret (.and (.cmp .eq (.bltB .len 0) (.cst (.int 3))) (.and (.call 2 (.cons (.ixB 0 (.cst (.int 1))) .nil)) (.call 4 (.cons (.ixB 0 (.cst (.int 2))) .nil))))) .skip) .skip) (.seq (.ife (.or (.cmp .ne (.ixB 0 (.cst (.int 0))) (.cst (.str "group"))) (.or (.cmp .ne (.bltB .len 0) (.cst (.int 5))) (.cmpL .eq 1 (.cst (.int 0))))) (.seq (.ret (.cst (.bool false))) .skip) .skip) (.seq (.ife (.or (.not (.call 7 (.cons (.ixB 0 (.cst (.int 1))) (.cons (.opB .sub 1 (.cst (.int 1))) .nil)))) (.or (.not (.call 4 (.cons (.ixB 0 (.cst (.int 2))) .nil))) (.not (.call 5 (.cons (.ixB 0 (.cst (.int 4))) .nil))))) (.seq (.ret (.cst (.bool false))) .skip) .skip) (.seq (.ret (.or (.cmp .isN (.ixB 0 (.cst (.int 3))) (.cst .none)) (.call 2 (.cons (.ixB 0 (.cst (.int 3))) .nil)))) .skip))))))⟩
theorem c_is_layer_within : compBody (g.cc N_is_layer_within) (defScope s_is_layer_within) (defBody s_is_layer_within) = some d_is_layer_within.body := by kernel_rfl
theorem in_is_layer_within {K : PySem.W.Frag} {h : Heap} {mg : Str → Option Value} {f : Addr} {od an : Option Addr} {sl : Array (Option Value)} {oc kV dc pm cd ct : Value} (X : K.In h) (G : h.Ns mainGlobals mg) (a : PySem.W.nsIn K mainGlobals "is_layer_within" = some (some (.ref f))) (l : K.lookup f = some ⟨oc, od, .func (PySem.W.fnOf "is_layer_within" "is_layer_within" (defArgs s_is_layer_within) (defBody s_is_layer_within) (defScope s_is_layer_within) .none kV dc pm an cd ct), sl⟩) (c : PySem.W.codeIn K cd "is_layer_within" = true) (k : PySem.W.keepIn K (.ref f) = true) : DefIn g K mg "is_layer_within" d_is_layer_within :=
  ⟨_, ["value", "deep"], _, s_is_layer_within, f, _, PySem.W.mg_of X G a, (fun_mk (st := s_is_layer_within) l c k).binds (fun _ _ _ _ _ _ us hl => match us, hl with | [_, _], _ => rfl), fun_mk (st := s_is_layer_within) l c k, sc_is_layer_within, rfl, rfl, c_is_layer_within⟩
theorem sc_are_layers : FnScope N_are_layers ["value", "deep"] (defScope s_are_layers) := ⟨rfl, rfl, rfl, by decide +kernel, rfl, by decide +kernel, by decide +kernel⟩
def d_are_layers : Def := ⟨3, false, 2, (.seq (.ret (.and (.isi (.var 0) .tuple) (.and (.cmp .le (.bltB .len 0) (.cst (.int 4))) (.blt .all (.cons (.lc [2, 1] [2] (.nm 2) .seq (.cons (.var 0) .nil) (.cst (.bool true)) (.call 6 (.cons (.var 2) (.cons (.var 1) .nil)))) .nil))))) .skip)⟩
theorem c_are_layers : compBody (g.cc N_are_layers) (defScope s_are_layers) (defBody s_are_layers) = some d_are_layers.body := by kernel_rfl
theorem in_are_layers {K : PySem.W.Frag} {h : Heap} {mg : Str → Option Value} {f : Addr} {od an : Option Addr} {sl : Array (Option Value)} {oc kV dc pm cd ct : Value} (X : K.In h) (G : h.Ns mainGlobals mg) (a : PySem.W.nsIn K mainGlobals "are_layers" = some (some (.ref f))) (l : K.lookup f = some ⟨oc, od, .func (PySem.W.fnOf "are_layers" "are_layers" (defArgs s_are_layers) (defBody s_are_layers) (defScope s_are_layers) .none kV dc pm an cd ct), sl⟩) (c : PySem.W.codeIn K cd "are_layers" = true) (k : PySem.W.keepIn K (.ref f) = true) : DefIn g K mg "are_layers" d_are_layers :=
  ⟨_, ["value", "deep"], _, s_are_layers, f, _, PySem.W.mg_of X G a, (fun_mk (st := s_are_layers) l c k).binds (fun _ _ _ _ _ _ us hl => match us, hl with | [_, _], _ => rfl), fun_mk (st := s_are_layers) l c k, sc_are_layers, rfl, rfl, c_are_layers⟩
theorem sc_points_in : FnScope N_points_in ["layers"] (defScope s_points_in) := ⟨rfl, rfl, rfl, by decide +kernel, rfl, by decide +kernel, by decide +kernel⟩
def d_points_in : Def := ⟨5, false, 1, (.seq (.asg 1 (.cst (.int 0))) (.seq (.forS (.nm 2) .seq (.cons (.var 0) .nil) (.seq (.asg 3 (.ife (.cmp .eq (.ixB 2 (.cst (.int 0))) (.cst (.str "group"))) (.ixB 2 (.cst (.int 3))) (.ixB 2 (.cst (.int 1))))) (.seq (.ife (.cmp .eq (.ixB 2 (.cst (.int 0))) (.cst (.str "group"))) (.seq (.asg 1 (.opB .add 1 (.call 8 (.cons (.ixB 2 (.cst (.int 1))) .nil)))) .skip) .skip) (.seq (.ife (.cmpL .notN 3 (.cst .none)) (.seq (.asg 1 (.opB .add 1 (.blt .sum (.cons (.lc [4] [4] (.nm 4) .seq (.cons (.ixB 3 (.cst (.int 1))) .nil) (.cst (.bool true)) (.bltB .len 4)) .nil)))) .skip) .skip) .skip)))) (.seq (.ret (.var 1)) .skip)))⟩
theorem c_points_in : compBody (g.cc N_points_in) (defScope s_points_in) (defBody s_points_in) = some d_points_in.body := by kernel_rfl
theorem in_points_in {K : PySem.W.Frag} {h : Heap} {mg : Str → Option Value} {f : Addr} {od an : Option Addr} {sl : Array (Option Value)} {oc kV dc pm cd ct : Value} (X : K.In h) (G : h.Ns mainGlobals mg) (a : PySem.W.nsIn K mainGlobals "points_in" = some (some (.ref f))) (l : K.lookup f = some ⟨oc, od, .func (PySem.W.fnOf "points_in" "points_in" (defArgs s_points_in) (defBody s_points_in) (defScope s_points_in) .none kV dc pm an cd ct), sl⟩) (c : PySem.W.codeIn K cd "points_in" = true) (k : PySem.W.keepIn K (.ref f) = true) : DefIn g K mg "points_in" d_points_in :=
  ⟨_, ["layers"], _, s_points_in, f, _, PySem.W.mg_of X G a, (fun_mk (st := s_points_in) l c k).binds (fun _ _ _ _ _ _ us hl => match us, hl with | [_], _ => rfl), fun_mk (st := s_points_in) l c k, sc_points_in, rfl, rfl, c_points_in⟩
theorem sc_is_drawing : FnScope N_is_drawing ["value"] (defScope s_is_drawing) := ⟨rfl, rfl, rfl, by decide +kernel, rfl, by decide +kernel, by decide +kernel⟩
def d_is_drawing : Def := ⟨1, false, 1, (.seq (.ret (.and (.call 7 (.cons (.var 0) (.cons (.cst (.int 2)) .nil))) (.cmp .le (.call 8 (.cons (.var 0) .nil)) (.glb "MOST_POINTS" (.int 60))))) .skip)⟩
theorem c_is_drawing : compBody (g.cc N_is_drawing) (defScope s_is_drawing) (defBody s_is_drawing) = some d_is_drawing.body := by kernel_rfl
theorem in_is_drawing {K : PySem.W.Frag} {h : Heap} {mg : Str → Option Value} {f : Addr} {od an : Option Addr} {sl : Array (Option Value)} {oc kV dc pm cd ct : Value} (X : K.In h) (G : h.Ns mainGlobals mg) (a : PySem.W.nsIn K mainGlobals "is_drawing" = some (some (.ref f))) (l : K.lookup f = some ⟨oc, od, .func (PySem.W.fnOf "is_drawing" "is_drawing" (defArgs s_is_drawing) (defBody s_is_drawing) (defScope s_is_drawing) .none kV dc pm an cd ct), sl⟩) (c : PySem.W.codeIn K cd "is_drawing" = true) (k : PySem.W.keepIn K (.ref f) = true) : DefIn g K mg "is_drawing" d_is_drawing :=
  ⟨_, ["value"], _, s_is_drawing, f, _, PySem.W.mg_of X G a, (fun_mk (st := s_is_drawing) l c k).binds (fun _ _ _ _ _ _ us hl => match us, hl with | [_], _ => rfl), fun_mk (st := s_is_drawing) l c k, sc_is_drawing, rfl, rfl, c_is_drawing⟩
theorem sc_is_layer : FnScope N_is_layer ["value"] (defScope s_is_layer) := ⟨rfl, rfl, rfl, by decide +kernel, rfl, by decide +kernel, by decide +kernel⟩
def d_is_layer : Def := ⟨1, false, 1, (.seq (.ret (.and (.call 6 (.cons (.var 0) (.cons (.cst (.int 2)) .nil))) (.cmp .le (.call 8 (.cons (.tup (.cons (.var 0) .nil)) .nil)) (.glb "MOST_POINTS" (.int 60))))) .skip)⟩
theorem c_is_layer : compBody (g.cc N_is_layer) (defScope s_is_layer) (defBody s_is_layer) = some d_is_layer.body := by kernel_rfl
theorem in_is_layer {K : PySem.W.Frag} {h : Heap} {mg : Str → Option Value} {f : Addr} {od an : Option Addr} {sl : Array (Option Value)} {oc kV dc pm cd ct : Value} (X : K.In h) (G : h.Ns mainGlobals mg) (a : PySem.W.nsIn K mainGlobals "is_layer" = some (some (.ref f))) (l : K.lookup f = some ⟨oc, od, .func (PySem.W.fnOf "is_layer" "is_layer" (defArgs s_is_layer) (defBody s_is_layer) (defScope s_is_layer) .none kV dc pm an cd ct), sl⟩) (c : PySem.W.codeIn K cd "is_layer" = true) (k : PySem.W.keepIn K (.ref f) = true) : DefIn g K mg "is_layer" d_is_layer :=
  ⟨_, ["value"], _, s_is_layer, f, _, PySem.W.mg_of X G a, (fun_mk (st := s_is_layer) l c k).binds (fun _ _ _ _ _ _ us hl => match us, hl with | [_], _ => rfl), fun_mk (st := s_is_layer) l c k, sc_is_layer, rfl, rfl, c_is_layer⟩
theorem sc_need_drawing : FnScope N_need_drawing ["drawing"] (defScope s_need_drawing) := ⟨rfl, rfl, rfl, by decide +kernel, rfl, by decide +kernel, by decide +kernel⟩
def d_need_drawing : Def := ⟨1, false, 1, (.seq (.ife (.not (.call 9 (.cons (.var 0) .nil))) (.seq (.raise "InvalidDrawing") .skip) .skip) .skip)⟩
theorem c_need_drawing : compBody (g.cc N_need_drawing) (defScope s_need_drawing) (defBody s_need_drawing) = some d_need_drawing.body := by kernel_rfl
theorem in_need_drawing {K : PySem.W.Frag} {h : Heap} {mg : Str → Option Value} {f : Addr} {od an : Option Addr} {sl : Array (Option Value)} {oc kV dc pm cd ct : Value} (X : K.In h) (G : h.Ns mainGlobals mg) (a : PySem.W.nsIn K mainGlobals "need_drawing" = some (some (.ref f))) (l : K.lookup f = some ⟨oc, od, .func (PySem.W.fnOf "need_drawing" "need_drawing" (defArgs s_need_drawing) (defBody s_need_drawing) (defScope s_need_drawing) .none kV dc pm an cd ct), sl⟩) (c : PySem.W.codeIn K cd "need_drawing" = true) (k : PySem.W.keepIn K (.ref f) = true) : DefIn g K mg "need_drawing" d_need_drawing :=
  ⟨_, ["drawing"], _, s_need_drawing, f, _, PySem.W.mg_of X G a, (fun_mk (st := s_need_drawing) l c k).binds (fun _ _ _ _ _ _ us hl => match us, hl with | [_], _ => rfl), fun_mk (st := s_need_drawing) l c k, sc_need_drawing, rfl, rfl, c_need_drawing⟩
theorem sc_count_points : FnScope N_count_points ["drawing"] (defScope s_count_points) := ⟨rfl, rfl, rfl, by decide +kernel, rfl, by decide +kernel, by decide +kernel⟩
def d_count_points : Def := ⟨1, false, 1, (.seq (.expr (.call 11 (.cons (.var 0) .nil))) (.seq (.ret (.call 8 (.cons (.var 0) .nil))) .skip))⟩
theorem c_count_points : compBody (g.cc N_count_points) (defScope s_count_points) (defBody s_count_points) = some d_count_points.body := by kernel_rfl
theorem in_count_points {K : PySem.W.Frag} {h : Heap} {mg : Str → Option Value} {f : Addr} {od an : Option Addr} {sl : Array (Option Value)} {oc kV dc pm cd ct : Value} (X : K.In h) (G : h.Ns mainGlobals mg) (a : PySem.W.nsIn K mainGlobals "count_points" = some (some (.ref f))) (l : K.lookup f = some ⟨oc, od, .func (PySem.W.fnOf "count_points" "count_points" (defArgs s_count_points) (defBody s_count_points) (defScope s_count_points) .none kV dc pm an cd ct), sl⟩) (c : PySem.W.codeIn K cd "count_points" = true) (k : PySem.W.keepIn K (.ref f) = true) : DefIn g K mg "count_points" d_count_points :=
  ⟨_, ["drawing"], _, s_count_points, f, _, PySem.W.mg_of X G a, (fun_mk (st := s_count_points) l c k).binds (fun _ _ _ _ _ _ us hl => match us, hl with | [_], _ => rfl), fun_mk (st := s_count_points) l c k, sc_count_points, rfl, rfl, c_count_points⟩
theorem sc__law_drawn : FnScope N__law_drawn ["cell", "k"] (defScope s__law_drawn) := ⟨rfl, rfl, rfl, by decide +kernel, rfl, by decide +kernel, by decide +kernel⟩
def d__law_drawn : Def := ⟨3, false, 2, (.seq (.asg 2 (.op .mod (.op .add (.opB .mul 0 (.cst (.int 6364136223846793005))) (.op .mul (.opB .add 1 (.cst (.int 1))) (.cst (.int 1442695040888963407)))) (.cst (.int 340282366920938463463374607431768211507)))) (.seq (.asg 2 (.op .mod (.opB .mul 2 (.var 2)) (.cst (.int 340282366920938463463374607431768211297)))) (.seq (.asg 2 (.op .mul (.op .mul (.op .add (.opB .mod 2 (.cst (.int 18446744073709551557))) (.cst (.int 1))) (.op .add (.opB .fdiv 2 (.cst (.int 18446744073709551557))) (.cst (.int 1)))) (.var 2))) (.seq (.ret (.opB .mod 2 (.cst (.int 340282366920938463463374607431768211507)))) .skip))))⟩
theorem c__law_drawn : compBody (g.cc N__law_drawn) (defScope s__law_drawn) (defBody s__law_drawn) = some d__law_drawn.body := by kernel_rfl
theorem in__law_drawn {K : PySem.W.Frag} {h : Heap} {mg : Str → Option Value} {f : Addr} {od an : Option Addr} {sl : Array (Option Value)} {oc kV dc pm cd ct : Value} (X : K.In h) (G : h.Ns mainGlobals mg) (a : PySem.W.nsIn K mainGlobals "_law_drawn" = some (some (.ref f))) (l : K.lookup f = some ⟨oc, od, .func (PySem.W.fnOf "_law_drawn" "_law_drawn" (defArgs s__law_drawn) (defBody s__law_drawn) (defScope s__law_drawn) .none kV dc pm an cd ct), sl⟩) (c : PySem.W.codeIn K cd "_law_drawn" = true) (k : PySem.W.keepIn K (.ref f) = true) : DefIn g K mg "_law_drawn" d__law_drawn :=
  ⟨_, ["cell", "k"], _, s__law_drawn, f, _, PySem.W.mg_of X G a, (fun_mk (st := s__law_drawn) l c k).binds (fun _ _ _ _ _ _ us hl => match us, hl with | [_, _], _ => rfl), fun_mk (st := s__law_drawn) l c k, sc__law_drawn, rfl, rfl, c__law_drawn⟩
theorem sc__law_roll : FnScope N__law_roll ["dice", "many"] (defScope s__law_roll) := ⟨rfl, rfl, rfl, by decide +kernel, rfl, by decide +kernel, by decide +kernel⟩
def d__law_roll : Def := ⟨3, true, 2, (.seq (.ife (.cmp .ge (.ixB 0 (.cst (.int 0))) (.op .pow (.cst (.int 10)) (.cst (.int 18)))) (.seq (.asg 2 (.op .mod (.ixB 0 (.cst (.int 0))) (.var 1))) (.seq (.setD 0 (.cst (.int 0)) (.op .fdiv (.ixB 0 (.cst (.int 0))) (.var 1))) (.seq (.ret (.var 2)) .skip))) .skip) (.seq (.setD 0 (.cst (.int 1)) (.op .add (.ixB 0 (.cst (.int 1))) (.cst (.int 1)))) (.seq (.ret (.op .mod (.op .fdiv (.call 13 (.cons (.ixB 0 (.cst (.int 0))) (.cons (.ixB 0 (.cst (.int 1))) .nil))) (.cst (.int 8))) (.var 1))) .skip)))⟩
theorem c__law_roll : compBody (g.cc N__law_roll) (defScope s__law_roll) (defBody s__law_roll) = some d__law_roll.body := by kernel_rfl
theorem in__law_roll {K : PySem.W.Frag} {h : Heap} {mg : Str → Option Value} {f : Addr} {od an : Option Addr} {sl : Array (Option Value)} {oc kV dc pm cd ct : Value} (X : K.In h) (G : h.Ns mainGlobals mg) (a : PySem.W.nsIn K mainGlobals "_law_roll" = some (some (.ref f))) (l : K.lookup f = some ⟨oc, od, .func (PySem.W.fnOf "_law_roll" "_law_roll" (defArgs s__law_roll) (defBody s__law_roll) (defScope s__law_roll) .none kV dc pm an cd ct), sl⟩) (c : PySem.W.codeIn K cd "_law_roll" = true) (k : PySem.W.keepIn K (.ref f) = true) : DefIn g K mg "_law_roll" d__law_roll :=
  ⟨_, ["dice", "many"], _, s__law_roll, f, _, PySem.W.mg_of X G a, (fun_mk (st := s__law_roll) l c k).binds (fun _ _ _ _ _ _ us hl => match us, hl with | [_, _], _ => rfl), fun_mk (st := s__law_roll) l c k, sc__law_roll, rfl, rfl, c__law_roll⟩
theorem sc__law_group : FnScope N__law_group ["layers", "matrix"] (defScope s__law_group) := ⟨rfl, rfl, rfl, by decide +kernel, rfl, by decide +kernel, by decide +kernel⟩
def d__law_group : Def := ⟨2, false, 2, (.seq (.ret (.tup (.cons (.cst (.str "group")) (.cons (.var 0) (.cons (.tup (.cons (.cst (.int 1)) (.cons (.cst (.int 1)) .nil))) (.cons (.cst .none) (.cons (.var 1) .nil))))))) .skip)⟩
theorem c__law_group : compBody (g.cc N__law_group) (defScope s__law_group) (defBody s__law_group) = some d__law_group.body := by kernel_rfl
theorem in__law_group {K : PySem.W.Frag} {h : Heap} {mg : Str → Option Value} {f : Addr} {od an : Option Addr} {sl : Array (Option Value)} {oc kV dc pm cd ct : Value} (X : K.In h) (G : h.Ns mainGlobals mg) (a : PySem.W.nsIn K mainGlobals "_law_group" = some (some (.ref f))) (l : K.lookup f = some ⟨oc, od, .func (PySem.W.fnOf "_law_group" "_law_group" (defArgs s__law_group) (defBody s__law_group) (defScope s__law_group) .none kV dc pm an cd ct), sl⟩) (c : PySem.W.codeIn K cd "_law_group" = true) (k : PySem.W.keepIn K (.ref f) = true) : DefIn g K mg "_law_group" d__law_group :=
  ⟨_, ["layers", "matrix"], _, s__law_group, f, _, PySem.W.mg_of X G a, (fun_mk (st := s__law_group) l c k).binds (fun _ _ _ _ _ _ us hl => match us, hl with | [_, _], _ => rfl), fun_mk (st := s__law_group) l c k, sc__law_group, rfl, rfl, c__law_group⟩
theorem sc__law_right_matrices : FnScope N__law_right_matrices ["fill"] (defScope s__law_right_matrices) := ⟨rfl, rfl, rfl, by decide +kernel, rfl, by decide +kernel, by decide +kernel⟩
def d__law_right_matrices : Def := ⟨6, false, 1, (.seq (.forS (.nm 1) .range1 (.cons (.cst (.int 6)) .nil) (.seq (.asg 2 (.ife (.cmpL .lt 1 (.cst (.int 4))) (.cst (.int 2)) (.cst (.int 9)))) (.seq (.forS (.nm 3) .seq (.cons (.tup (.cons (.var 2) (.cons (.neg (.var 2)) (.cons (.opB .add 2 (.cst (.int 1))) (.cons (.op .sub (.neg (.var 2)) (.cst (.int 1))) (.cons (.cst (.bool true)) (.cons (.cst .none) .nil))))))) .nil) (.seq (.asg 4 (.op .add (.op .add (.slc false true (.tup (.cons (.cst (.int 1)) (.cons (.cst (.int 0)) (.cons (.cst (.int 0)) (.cons (.cst (.int 1)) (.cons (.cst (.int 0)) (.cons (.cst (.int 0)) .nil))))))) .nil (.var 1)) (.tup (.cons (.var 3) .nil))) (.slc true false (.tup (.cons (.cst (.int 1)) (.cons (.cst (.int 0)) (.cons (.cst (.int 0)) (.cons (.cst (.int 1)) (.cons (.cst (.int 0)) (.cons (.cst (.int 0)) .nil))))))) (.opB .add 1 (.cst (.int 1))) .nil))) (.seq (.asg 5 (.and (.cmpL .inn 3 (.tup (.cons (.var 2) (.cons (.neg (.var 2)) .nil)))) (.cmpL .notB 3 (.cst (.bool true))))) (.seq (.ife (.cmp .ne (.call 10 (.cons (.call 15 (.cons (.tup (.cons (.var 0) .nil)) (.cons (.var 4) .nil))) .nil)) (.var 5)) (.seq (.ret (.cst (.bool false))) .skip) .skip) .skip)))) .skip))) (.seq (.ife (.call 10 (.cons (.call 15 (.cons (.tup (.cons (.var 0) .nil)) (.cons (.tup (.cons (.cst (.int 1)) (.cons (.cst (.int 2)) (.cons (.cst (.int 1)) (.cons (.cst (.int 2)) (.cons (.cst (.int 0)) (.cons (.cst (.int 0)) .nil))))))) .nil))) .nil)) (.seq (.ret (.cst (.bool false))) .skip) .skip) (.seq (.ret (.call 10 (.cons (.call 15 (.cons (.tup .nil) (.cons (.tup (.cons (.cst (.int 2)) (.cons (.neg (.cst (.int 2))) (.cons (.cst (.int 2)) (.cons (.cst (.int 1)) (.cons (.cst (.int 9)) (.cons (.neg (.cst (.int 9))) .nil))))))) .nil))) .nil))) .skip)))⟩
theorem c__law_right_matrices : compBody (g.cc N__law_right_matrices) (defScope s__law_right_matrices) (defBody s__law_right_matrices) = some d__law_right_matrices.body := by kernel_rfl
theorem in__law_right_matrices {K : PySem.W.Frag} {h : Heap} {mg : Str → Option Value} {f : Addr} {od an : Option Addr} {sl : Array (Option Value)} {oc kV dc pm cd ct : Value} (X : K.In h) (G : h.Ns mainGlobals mg) (a : PySem.W.nsIn K mainGlobals "_law_right_matrices" = some (some (.ref f))) (l : K.lookup f = some ⟨oc, od, .func (PySem.W.fnOf "_law_right_matrices" "_law_right_matrices" (defArgs s__law_right_matrices) (defBody s__law_right_matrices) (defScope s__law_right_matrices) .none kV dc pm an cd ct), sl⟩) (c : PySem.W.codeIn K cd "_law_right_matrices" = true) (k : PySem.W.keepIn K (.ref f) = true) : DefIn g K mg "_law_right_matrices" d__law_right_matrices :=
  ⟨_, ["fill"], _, s__law_right_matrices, f, _, PySem.W.mg_of X G a, (fun_mk (st := s__law_right_matrices) l c k).binds (fun _ _ _ _ _ _ us hl => match us, hl with | [_], _ => rfl), fun_mk (st := s__law_right_matrices) l c k, sc__law_right_matrices, rfl, rfl, c__law_right_matrices⟩
theorem sc__law_right_parts : FnScope N__law_right_parts ["fill", "loop"] (defScope s__law_right_parts) := ⟨rfl, rfl, rfl, by decide +kernel, rfl, by decide +kernel, by decide +kernel⟩
def d__law_right_parts : Def := ⟨6, false, 2, (.seq (.forS (.nm 2) .seq (.cons (.lst (.cons (.tup (.cons (.cst (.int 1)) (.cons (.cst (.int 6)) .nil))) (.cons (.tup (.cons (.cst (.int 6)) (.cons (.cst (.int 6)) .nil))) (.cons (.tup (.cons (.cst (.int 2)) (.cons (.cst (.int 4)) .nil))) (.cons (.tup (.cons (.cst (.int 0)) (.cons (.cst (.int 6)) .nil))) (.cons (.tup (.cons (.cst (.int 5)) (.cons (.cst (.int 4)) .nil))) (.cons (.tup (.cons (.cst (.int 1)) (.cons (.cst (.int 7)) .nil))) (.cons (.tup (.cons (.cst (.int 1)) (.cons (.cst (.int 0)) .nil))) .nil)))))))) .nil) (.seq (.asg 3 (.cmpL .inn 2 (.lst (.cons (.tup (.cons (.cst (.int 1)) (.cons (.cst (.int 6)) .nil))) (.cons (.tup (.cons (.cst (.int 6)) (.cons (.cst (.int 6)) .nil))) (.cons (.tup (.cons (.cst (.int 2)) (.cons (.cst (.int 4)) .nil))) .nil)))))) (.seq (.ife (.cmp .ne (.call 10 (.cons (.tup (.cons (.cst (.str "rub")) (.cons (.tup (.cons (.cst (.str "turns")) (.cons (.tup (.cons (.var 1) .nil)) .nil))) (.cons (.var 2) .nil)))) .nil)) (.var 3)) (.seq (.ret (.cst (.bool false))) .skip) .skip) (.seq (.ife (.cmp .ne (.call 10 (.cons (.op .add (.slcB false true 0 .nil (.cst (.int 3))) (.tup (.cons (.var 2) .nil))) .nil)) (.var 3)) (.seq (.ret (.cst (.bool false))) .skip) .skip) .skip)))) (.seq (.forS (.nm 4) .seq (.cons (.lst (.cons (.tup (.cons (.cst (.int 0)) (.cons (.cst (.int 0)) (.cons (.cst (.int 0)) .nil)))) (.cons (.tup (.cons (.cst (.int 9)) (.cons (.cst (.int 9)) (.cons (.cst (.int 9)) .nil)))) (.cons (.tup (.cons (.cst (.int 10)) (.cons (.cst (.int 0)) (.cons (.cst (.int 0)) .nil)))) (.cons (.tup (.cons (.cst (.int 0)) (.cons (.neg (.cst (.int 1))) (.cons (.cst (.int 0)) .nil)))) (.cons (.tup (.cons (.cst (.int 0)) (.cons (.cst (.int 0)) .nil))) (.cons (.lst (.cons (.cst (.int 0)) (.cons (.cst (.int 0)) (.cons (.cst (.int 0)) .nil)))) .nil))))))) .nil) (.seq (.ife (.cmp .ne (.call 10 (.cons (.op .add (.slcB false true 0 .nil (.cst (.int 2))) (.tup (.cons (.var 4) (.cons (.tup (.cons (.cst (.int 1)) (.cons (.cst (.int 2)) .nil))) .nil)))) .nil)) (.cmpL .inn 4 (.lst (.cons (.tup (.cons (.cst (.int 0)) (.cons (.cst (.int 0)) (.cons (.cst (.int 0)) .nil)))) (.cons (.tup (.cons (.cst (.int 9)) (.cons (.cst (.int 9)) (.cons (.cst (.int 9)) .nil)))) .nil))))) (.seq (.ret (.cst (.bool false))) .skip) .skip) .skip)) (.seq (.forS (.nm 5) .seq (.cons (.lst (.cons (.tup (.cons (.cst (.int 9)) (.cons (.neg (.cst (.int 9))) .nil))) (.cons (.tup (.cons (.cst (.int 10)) (.cons (.cst (.int 0)) .nil))) (.cons (.tup (.cons (.cst (.int 0)) (.cons (.neg (.cst (.int 10))) .nil))) (.cons (.tup (.cons (.cst (.int 0)) .nil)) (.cons (.tup (.cons (.cst (.int 0)) (.cons (.cst (.int 0)) (.cons (.cst (.int 0)) .nil)))) (.cons (.lst (.cons (.cst (.int 0)) (.cons (.cst (.int 0)) .nil))) (.cons (.tup (.cons (.cst (.bool true)) (.cons (.cst (.int 0)) .nil))) (.cons (.cst .none) .nil))))))))) .nil) (.seq (.ife (.cmp .ne (.call 2 (.cons (.tup (.cons (.cst (.str "odd")) (.cons (.tup (.cons (.op .add (.slcB false true 1 .nil (.cst (.int 2))) (.tup (.cons (.var 5) .nil))) .nil)) .nil))) .nil)) (.cmpL .eq 5 (.tup (.cons (.cst (.int 9)) (.cons (.neg (.cst (.int 9))) .nil))))) (.seq (.ret (.cst (.bool false))) .skip) .skip) .skip)) (.seq (.ret (.cst (.bool true))) .skip))))⟩
theorem c__law_right_parts : compBody (g.cc N__law_right_parts) (defScope s__law_right_parts) (defBody s__law_right_parts) = some d__law_right_parts.body := by kernel_rfl
theorem in__law_right_parts {K : PySem.W.Frag} {h : Heap} {mg : Str → Option Value} {f : Addr} {od an : Option Addr} {sl : Array (Option Value)} {oc kV dc pm cd ct : Value} (X : K.In h) (G : h.Ns mainGlobals mg) (a : PySem.W.nsIn K mainGlobals "_law_right_parts" = some (some (.ref f))) (l : K.lookup f = some ⟨oc, od, .func (PySem.W.fnOf "_law_right_parts" "_law_right_parts" (defArgs s__law_right_parts) (defBody s__law_right_parts) (defScope s__law_right_parts) .none kV dc pm an cd ct), sl⟩) (c : PySem.W.codeIn K cd "_law_right_parts" = true) (k : PySem.W.keepIn K (.ref f) = true) : DefIn g K mg "_law_right_parts" d__law_right_parts :=
  ⟨_, ["fill", "loop"], _, s__law_right_parts, f, _, PySem.W.mg_of X G a, (fun_mk (st := s__law_right_parts) l c k).binds (fun _ _ _ _ _ _ us hl => match us, hl with | [_, _], _ => rfl), fun_mk (st := s__law_right_parts) l c k, sc__law_right_parts, rfl, rfl, c__law_right_parts⟩
theorem sc__law_right_sizes : FnScope N__law_right_sizes ["many", "loop"] (defScope s__law_right_sizes) := ⟨rfl, rfl, rfl, by decide +kernel, rfl, by decide +kernel, by decide +kernel⟩
def d__law_right_sizes : Def := ⟨4, false, 2, (.seq (.ife (.or (.not (.call 2 (.cons (.tup (.cons (.cst (.str "odd")) (.cons (.tup (.cons (.var 0) .nil)) .nil))) .nil))) (.call 2 (.cons (.tup (.cons (.cst (.str "odd")) (.cons (.tup (.cons (.opB .add 0 (.tup (.cons (.tup (.cons (.cst (.int 0)) (.cons (.cst (.int 1)) .nil))) .nil))) .nil)) .nil))) .nil))) (.seq (.ret (.cst (.bool false))) .skip) .skip) (.seq (.ife (.call 2 (.cons (.tup (.cons (.cst (.str "odd")) (.cons (.tup (.cons (.slcB false true 1 .nil (.cst (.int 2))) .nil)) .nil))) .nil)) (.seq (.ret (.cst (.bool false))) .skip) .skip) (.seq (.ife (.or (.not (.call 2 (.cons (.tup (.cons (.cst (.str "turns")) (.cons (.op .mul (.tup (.cons (.var 1) .nil)) (.cst (.int 3))) .nil))) .nil))) (.call 2 (.cons (.tup (.cons (.cst (.str "turns")) (.cons (.op .mul (.tup (.cons (.var 1) .nil)) (.cst (.int 4))) .nil))) .nil))) (.seq (.ret (.cst (.bool false))) .skip) .skip) (.seq (.ife (.or (.call 2 (.cons (.tup (.cons (.cst (.str "turns")) (.cons (.tup .nil) .nil))) .nil)) (.call 2 (.cons (.tup (.cons (.cst (.str "even")) (.cons (.tup (.cons (.var 1) .nil)) .nil))) .nil))) (.seq (.ret (.cst (.bool false))) .skip) .skip) (.seq (.asg 2 (.tup (.cons (.cst (.str "fill")) (.cons (.tup (.cons (.cst (.str "odd")) (.cons (.tup (.cons (.var 0) (.cons (.var 0) .nil))) .nil))) (.cons (.tup (.cons (.cst (.int 1)) (.cons (.cst (.int 1)) (.cons (.cst (.int 1)) .nil)))) (.cons (.tup (.cons (.cst (.int 1)) (.cons (.cst (.int 1)) .nil))) .nil)))))) (.seq (.asg 3 (.tup (.cons (.var 2) (.cons (.var 2) (.cons (.var 2) (.cons (.tup (.cons (.cst (.str "rub")) (.cons (.tup (.cons (.cst (.str "odd")) (.cons (.tup (.cons (.var 0) (.cons (.slcB false true 0 .nil (.cst (.int 4))) .nil))) .nil))) (.cons (.tup (.cons (.cst (.int 1)) (.cons (.cst (.int 1)) .nil))) .nil)))) .nil)))))) (.seq (.ife (.or (.not (.call 9 (.cons (.var 3) .nil))) (.cmp .ne (.call 12 (.cons (.var 3) .nil)) (.cst (.int 60)))) (.seq (.ret (.cst (.bool false))) .skip) .skip) (.seq (.ret (.not (.call 9 (.cons (.op .add (.slcB false true 3 .nil (.cst (.int 3))) (.tup (.cons (.tup (.cons (.cst (.str "rub")) (.cons (.tup (.cons (.cst (.str "odd")) (.cons (.tup (.cons (.var 0) (.cons (.slcB false true 0 .nil (.cst (.int 5))) .nil))) .nil))) (.cons (.tup (.cons (.cst (.int 1)) (.cons (.cst (.int 1)) .nil))) .nil)))) .nil))) .nil)))) .skip))))))))⟩
theorem c__law_right_sizes : compBody (g.cc N__law_right_sizes) (defScope s__law_right_sizes) (defBody s__law_right_sizes) = some d__law_right_sizes.body := by kernel_rfl
theorem in__law_right_sizes {K : PySem.W.Frag} {h : Heap} {mg : Str → Option Value} {f : Addr} {od an : Option Addr} {sl : Array (Option Value)} {oc kV dc pm cd ct : Value} (X : K.In h) (G : h.Ns mainGlobals mg) (a : PySem.W.nsIn K mainGlobals "_law_right_sizes" = some (some (.ref f))) (l : K.lookup f = some ⟨oc, od, .func (PySem.W.fnOf "_law_right_sizes" "_law_right_sizes" (defArgs s__law_right_sizes) (defBody s__law_right_sizes) (defScope s__law_right_sizes) .none kV dc pm an cd ct), sl⟩) (c : PySem.W.codeIn K cd "_law_right_sizes" = true) (k : PySem.W.keepIn K (.ref f) = true) : DefIn g K mg "_law_right_sizes" d__law_right_sizes :=
  ⟨_, ["many", "loop"], _, s__law_right_sizes, f, _, PySem.W.mg_of X G a, (fun_mk (st := s__law_right_sizes) l c k).binds (fun _ _ _ _ _ _ us hl => match us, hl with | [_, _], _ => rfl), fun_mk (st := s__law_right_sizes) l c k, sc__law_right_sizes, rfl, rfl, c__law_right_sizes⟩
def Γ : List Def := [d_is_whole, d_is_loop, d_is_shape, d_is_colour, d_is_opacity, d_is_matrix, d_is_layer_within, d_are_layers, d_points_in, d_is_drawing, d_is_layer, d_need_drawing, d_count_points, d__law_drawn, d__law_roll, d__law_group, d__law_right_matrices, d__law_right_parts, d__law_right_sizes]
theorem r_is_whole (k : Nat) : run Γ (k + 1) 0 = runDef (run Γ k) d_is_whole := run_at rfl k
theorem r_is_loop (k : Nat) : run Γ (k + 1) 1 = runDef (run Γ k) d_is_loop := run_at rfl k
theorem r_is_shape (k : Nat) : run Γ (k + 1) 2 = runDef (run Γ k) d_is_shape := run_at rfl k
theorem r_is_colour (k : Nat) : run Γ (k + 1) 3 = runDef (run Γ k) d_is_colour := run_at rfl k
theorem r_is_opacity (k : Nat) : run Γ (k + 1) 4 = runDef (run Γ k) d_is_opacity := run_at rfl k
theorem r_is_matrix (k : Nat) : run Γ (k + 1) 5 = runDef (run Γ k) d_is_matrix := run_at rfl k
theorem r_is_layer_within (k : Nat) : run Γ (k + 1) 6 = runDef (run Γ k) d_is_layer_within := run_at rfl k
theorem r_are_layers (k : Nat) : run Γ (k + 1) 7 = runDef (run Γ k) d_are_layers := run_at rfl k
theorem r_points_in (k : Nat) : run Γ (k + 1) 8 = runDef (run Γ k) d_points_in := run_at rfl k
theorem r_is_drawing (k : Nat) : run Γ (k + 1) 9 = runDef (run Γ k) d_is_drawing := run_at rfl k
theorem r_is_layer (k : Nat) : run Γ (k + 1) 10 = runDef (run Γ k) d_is_layer := run_at rfl k
theorem r_need_drawing (k : Nat) : run Γ (k + 1) 11 = runDef (run Γ k) d_need_drawing := run_at rfl k
theorem r_count_points (k : Nat) : run Γ (k + 1) 12 = runDef (run Γ k) d_count_points := run_at rfl k
theorem r__law_drawn (k : Nat) : run Γ (k + 1) 13 = runDef (run Γ k) d__law_drawn := run_at rfl k
theorem r__law_roll (k : Nat) : run Γ (k + 1) 14 = runDef (run Γ k) d__law_roll := run_at rfl k
theorem r__law_group (k : Nat) : run Γ (k + 1) 15 = runDef (run Γ k) d__law_group := run_at rfl k
theorem r__law_right_matrices (k : Nat) : run Γ (k + 1) 16 = runDef (run Γ k) d__law_right_matrices := run_at rfl k
theorem r__law_right_parts (k : Nat) : run Γ (k + 1) 17 = runDef (run Γ k) d__law_right_parts := run_at rfl k
theorem r__law_right_sizes (k : Nat) : run Γ (k + 1) 18 = runDef (run Γ k) d__law_right_sizes := run_at rfl k
def lawBody : IS := (.seq (.asg 2 (.tup (.cons (.tup (.cons (.cst (.int 0)) (.cons (.cst (.int 0)) .nil))) (.cons (.tup (.cons (.cst (.int 9)) (.cons (.cst (.int 0)) .nil))) (.cons (.tup (.cons (.neg (.cst (.int 9))) (.cons (.op .add (.cst (.int 1)) (.callD 14 1 (.cons (.cst (.int 9)) .nil))) .nil))) .nil))))) (.seq (.asg 3 (.tup (.cons (.cst (.str "fill")) (.cons (.tup (.cons (.cst (.str "odd")) (.cons (.tup (.cons (.var 2) .nil)) .nil))) (.cons (.tup (.cons (.cst (.int 0)) (.cons (.cst (.int 9)) (.cons (.callD 14 1 (.cons (.cst (.int 10)) .nil)) .nil)))) (.cons (.tup (.cons (.cst (.int 6)) (.cons (.cst (.int 6)) .nil))) .nil)))))) (.seq (.asg 4 (.tup (.cons (.tup (.cons (.cst (.int 0)) (.cons (.cst (.int 0)) .nil))) (.cons (.tup (.cons (.cst (.int 1)) (.cons (.cst (.int 0)) .nil))) (.cons (.tup (.cons (.cst (.int 2)) (.cons (.cst (.int 0)) .nil))) (.cons (.tup (.cons (.cst (.int 3)) (.cons (.cst (.int 1)) .nil))) (.cons (.tup (.cons (.cst (.int 3)) (.cons (.cst (.int 2)) .nil))) (.cons (.tup (.cons (.cst (.int 2)) (.cons (.cst (.int 3)) .nil))) (.cons (.tup (.cons (.cst (.int 1)) (.cons (.cst (.int 3)) .nil))) (.cons (.tup (.cons (.cst (.int 0)) (.cons (.cst (.int 2)) .nil))) .nil)))))))))) (.seq (.ife (.or (.not (.call 16 (.cons (.var 3) .nil))) (.not (.call 17 (.cons (.var 3) (.cons (.var 2) .nil))))) (.seq (.ret (.cst (.bool false))) .skip) .skip) (.seq (.ife (.not (.call 18 (.cons (.var 4) (.cons (.var 2) .nil)))) (.seq (.ret (.cst (.bool false))) .skip) .skip) (.seq (.asg 5 (.tup (.cons (.cst (.int 1)) (.cons (.cst (.int 0)) (.cons (.cst (.int 0)) (.cons (.cst (.int 1)) (.cons (.cst (.int 0)) (.cons (.cst (.int 0)) .nil)))))))) (.seq (.asg 6 (.call 15 (.cons (.tup (.cons (.call 15 (.cons (.tup (.cons (.var 3) .nil)) (.cons (.var 5) .nil))) .nil)) (.cons (.var 5) .nil)))) (.seq (.ife (.or (.not (.call 10 (.cons (.var 6) .nil))) (.or (.call 10 (.cons (.call 15 (.cons (.tup (.cons (.var 6) .nil)) (.cons (.var 5) .nil))) .nil)) (.not (.call 9 (.cons (.tup (.cons (.var 6) .nil)) .nil))))) (.seq (.ret (.cst (.bool false))) .skip) .skip) (.seq (.ife (.or (.call 10 (.cons (.call 15 (.cons (.op .mul (.tup (.cons (.var 3) .nil)) (.cst (.int 5))) (.cons (.var 5) .nil))) .nil)) (.not (.call 10 (.cons (.call 15 (.cons (.op .mul (.tup (.cons (.var 3) .nil)) (.cst (.int 4))) (.cons (.var 5) .nil))) .nil)))) (.seq (.ret (.cst (.bool false))) .skip) .skip) (.seq (.ife (.or (.call 9 (.cons (.op .mul (.tup (.cons (.var 3) .nil)) (.cst (.int 5))) .nil)) (.not (.call 9 (.cons (.op .mul (.tup (.cons (.var 3) .nil)) (.cst (.int 4))) .nil)))) (.seq (.ret (.cst (.bool false))) .skip) .skip) .skip))))))))))
theorem c_law : compBody (g.cc N_law) (defScope s_law) (forBody (defBody s_law)) = some lawBody := by kernel_rfl
end Tb
set_option maxHeartbeats 4000000
namespace Tb
open PySem PySem.Spec PyProof.Rows L2 PL
theorem sc_cell : FnScope ["script", "k"] ["script", "k"] (defScope s__law_cell) := ⟨rfl, rfl, rfl, by decide +kernel, rfl, by decide +kernel, by decide +kernel⟩
theorem sc_rounds : FnScope ["script", "most", "k"] ["script", "most"] (defScope s__law_rounds) := ⟨rfl, rfl, rfl, by decide +kernel, rfl, by decide +kernel, by decide +kernel⟩
theorem sc_law : FnScope N_law ["script"] (defScope s_law) := ⟨rfl, rfl, rfl, by decide +kernel, rfl, by decide +kernel, by decide +kernel⟩
section
variable {P : Program} {w : World} {K : PySem.W.Frag} {mg : Str → Option Value} {base : Heap}
theorem ok_cell {f : Addr} {fd : FuncData} {k : Nat} (F : Fun K "_law_cell" "_law_cell" s__law_cell f fd) (ml : mg "len" = none) : FnOk P w K mg base CX0 (k + 1) f fd ["script", "k"] (spCell K) := by
  refine F.ok sc_cell (fun vs H Q E h => ?_) (fun cdv A outer s H vs Q E hr h => ?_)
  · obtain ⟨a, ns, k, rfl, _⟩ := h
    rfl
  · obtain ⟨a, ns, k, rfl, hS, hlen, hk, q⟩ := h
    refine ⟨_, pss_cons (ps_if (pt_cmpR (op_eqD hr.units) (pv 0) (pe_lst pa_nil) (nomark _)) (pss_one (ps_ret (pe_op op_mul (pv 1) pe_int))) pss_nil)
      (pss_one (ps_ret (pe_op op_add (pe_ix ix_list (pv 0) (pe_op op_mod (pv 1) (pe_callB call_len_seq (by rfl) ml PySem.boot_len (pa_cons (pv 0) pa_nil))) (fun _ _ => rfl))
        (pe_op op_mul (pe_op op_fdiv (pv 1) (pe_callB call_len_seq (by rfl) ml PySem.boot_len (pa_cons (pv 0) pa_nil))) pe_int)))), ?_⟩
    refine ⟨.ref a, rfl, Nat.zero_le _, fun o no => ?_⟩
    have sm : Same H (upd H o (.lst [])) := same_upd no
    have hS1 : SqL K (upd H o (.lst [])) a (ns.map V.int) := sm.seq hS
    refine ⟨.list (ns.map PyData.int), .list [], .lst hS1 (ints_dp ns), .lst (SqL.of upd_same) .nil, ints_shaped ns, rfl, _, rfl, ite2 (fun e => ?_) (fun e => ?_)⟩
    · exact ⟨.int k, rfl, k, 7919, rfl, rfl, .inr ⟨by decide, by decide⟩, q _ _ sm⟩
    · have hne : ns ≠ [] := fun z => by subst z; exact e rfl
      have hpos : 0 < (ns.map V.int).length := by rw [List.length_map]; exact List.length_pos_iff.mpr hne
      have hl63 : (ns.map V.int).length ≤ 63 := by rw [List.length_map]; exact hlen
      have h1 : 0 ≤ k % ((ns.map V.int).length : Int) := Int.emod_nonneg _ (by omega)
      have h2 : k % ((ns.map V.int).length : Int) < (ns.map V.int).length := Int.emod_lt_of_pos _ (by omega)
      obtain ⟨j, hj⟩ := Int.eq_ofNat_of_zero_le h1
      have hjl : j < ns.length := by rw [hj, List.length_map] at h2; omega
      have hat : atI (ns.map V.int) (k % ((ns.map V.int).length : Int)) = some (.int ns[j]) := by
        rw [hj]
        exact atI_nat (by rw [List.getElem?_map, List.getElem?_eq_getElem hjl]; rfl)
      refine ⟨.ref a, rfl, .int k, rfl, .ref a, rfl, a, _, rfl, .inl hS1, k, _, rfl, rfl, by omega, a, _, _, .int ns[j], rfl, rfl, hS1, hat, .int k, rfl, .ref a, rfl, a, _, rfl, .inl hS1, k, _, rfl, rfl, ⟨by omega, by omega⟩, _, 104729, rfl, rfl, .inr ⟨by decide, by decide⟩, _, _, rfl, rfl, q _ _ sm⟩
theorem ok_rounds {f fc : Addr} {fd fdc : FuncData} {k : Nat} (F : Fun K "_law_rounds" "_law_rounds" s__law_rounds f fd) (FC : Fun K "_law_cell" "_law_cell" s__law_cell fc fdc) (bC : Binds K fdc ["script", "k"] []) (gC : mg "_law_cell" = some (.ref fc)) (ml : mg "len" = none) (mx : mg "max" = none) (mn : mg "min" = none) (mr : mg "range" = none) :
    FnOk P w K mg base CX0 (k + 2) f fd ["script", "most"] (spRounds K) := by
  have GC : FnOk P w K mg base CX0 (k + 1) fc fdc ["script", "k"] (spCell K) := ok_cell FC ml
  refine F.ok sc_rounds (fun vs H Q E h => ?_) (fun cdv A outer s H vs Q E hr h => ?_)
  · obtain ⟨a, ns, m, rfl, _⟩ := h
    rfl
  · obtain ⟨a, ns, m, rfl, hS, hlen, hm0, hm, q⟩ := h
    refine ⟨_, pss_one (ps_ret (pe_lc (own := [("k", 2)]) (g := gName 2) (tt := tYes) rfl sc_rounds.nd
      (pi_range1 (by rfl) mr (pa_cons (pe_callB (call_max2 rfl) (by rfl) mx (by decide +kernel) (pa_cons pe_int (pa_cons (pe_callB (call_min2 rfl) (by rfl) mn (by decide +kernel) (pa_cons (pv 1) (pa_cons (pe_callB call_len_seq (by rfl) ml PySem.boot_len (pa_cons (pv 0) pa_nil)) pa_nil))) pa_nil))) pa_nil))
      (blkOk_by (N := ["script", "most", "k"]) (sc := defScope s__law_rounds) (by decide +kernel)) (fun _ _ _ _ _ => pg_name (i := 2) sc_rounds.nd rfl (Or.inl rfl)) (fun _ _ _ _ _ => pts_nil)
      (fun _ _ _ _ _ => pe_lst (pa_cons (pe_call GC hr (by rfl) gC FC.kp bC .nil pass0 (pa_cons (pv 0) (pa_cons (pv 2) pa_nil))) (pa_cons pe_int pa_nil))))), ?_⟩
    refine ⟨.int m, rfl, .ref a, rfl, a, _, rfl, .inl hS, m, _, rfl, 1, _, rfl, _, rfl, ?_, ?_, fun Dd nD => ?_⟩
    · rw [List.length_map]; split <;> (try split) <;> omega
    · rw [List.length_map]; split <;> (try split) <;> omega
    · generalize hn : (if (if ((ns.map V.int).length : Int) < m then ((ns.map V.int).length : Int) else m) > 1 then (if ((ns.map V.int).length : Int) < m then ((ns.map V.int).length : Int) else m) else 1) = nn
      have hnn : nn ≤ 63 := by
        rw [← hn, List.length_map]; split <;> (try split) <;> omega
      refine lc_range (lo := 0) (n := nn.toNat) (fun i H' => ∃ as : List Addr, Same H H' ∧ H' Dd = some (.lst (as.map V.ref)) ∧ as.length = i ∧ as.Nodup ∧ Dd ∉ as ∧ ∀ b ∈ as, H b = none ∧ ∃ c : Int, H' b = some (.lst [.int c, .int 0])) ?_ ?_ ?_
      · exact ⟨[], same_upd nD, upd_same, rfl, List.nodup_nil, by simp, fun b hb => by cases hb⟩
      · rintro i Hi hi ⟨as, sm, hD, hl, nd, nm, hc⟩
        refine ⟨rfl, ?_⟩
        refine ⟨.ref a, rfl, .int (0 + i), rfl, a, ns, 0 + i, rfl, sm.seq hS, hlen, by omega, fun c H2 sm2 => ⟨by show 2 ≤ sizeLine; decide, fun p np => ?_⟩⟩
        have nDp : Dd ≠ p := ne_of_none (sm2 _ _ hD) np
        refine ⟨as.map V.ref, by rw [upd_ne nDp]; exact sm2 _ _ hD, ?_, as ++ [p], ?_, ?_, ?_, ?_, ?_, ?_⟩
        · rw [List.length_map, hl]; exact small1000 (by omega)
        · intro b o e
          have e1 := sm2 _ _ (sm _ _ e)
          rw [upd_ne (ne_of_none e nD), upd_ne (ne_of_none e1 np)]; exact e1
        · rw [upd_same, List.map_append]; rfl
        · rw [List.length_append, hl]; rfl
        · rw [List.nodup_append]
          refine ⟨nd, by simp, fun x hx y hy => ?_⟩
          have : y = p := by simpa using hy
          subst this
          obtain ⟨_, c', e⟩ := hc x hx
          exact ne_of_none (sm2 _ _ e) np
        · rw [List.mem_append]
          rintro (z | z)
          · exact nm z
          · exact nDp (by simpa using z)
        · intro b hb
          rcases List.mem_append.mp hb with hb | hb
          · obtain ⟨h0, c', e⟩ := hc b hb
            have e1 := sm2 _ _ e
            refine ⟨h0, c', ?_⟩
            rw [upd_ne (fun z => by subst z; exact nm hb), upd_ne (ne_of_none e1 np)]; exact e1
          · have : b = p := by simpa using hb
            subst this
            exact ⟨sm.free (sm2.free np), c, by rw [upd_ne nDp.symm, upd_same]⟩
      · rintro H' ⟨as, sm, hD, hl, nd, nm, hc⟩
        exact q Dd as H' sm ⟨hD, nd, nm, by omega, fun b hb => (hc b hb).2⟩
theorem ok_law {f fr : Addr} {fd fdr : FuncData} {k : Nat} {cf : CF} (F : Fun K "law" "law" s_law f fd) (FR : Fun K "_law_rounds" "_law_rounds" s__law_rounds fr fdr) (bR : Binds K fdr ["script", "most"] []) (gR : mg "_law_rounds" = some (.ref fr))
    (GR : FnOk P w K mg base CX0 2 fr fdr ["script", "most"] (spRounds K)) (T : TabOk g P w K mg base cf (k + 2)) (hall : ∀ c : Int, ∃ s', evS cf lawBody (roundS N_law.length 1 c) = .ok .next s' ∧ s'.ρ.length = N_law.length) :
    FnOk P w K mg base (L2.CX P w) (k + 3) f fd ["script"] (spLaw K) := by
  refine F.okX sc_law (fun vs H Q E h => ?_) (fun cdv A outer s H vs Q E hr h => ?_)
  · obtain ⟨a, ns, rfl, _⟩ := h
    rfl
  · have ok : StOk (g.cc N_law) cf (cxOf (L2.CX P w) P w K mg base N_law "law" (defScope s_law) f cdv A outer s H E) (fun cls d _ H => E cls d H) (k + 2) :=
      StOk.of T rfl rfl rfl rfl rfl rfl sc_law.nd rfl (takes_of rfl rfl rfl rfl) hr (passes_of rfl) (fun _ => rfl)
    obtain ⟨a, ns, rfl, hS, hlen, q⟩ := h
    refine ⟨_, pss_cons (ps_for (passes_of rfl) rfl (pi_list (pe_call GR (hr.mono (by omega)) (by rfl) gR FR.kp bR .nil pass0 (pa_cons (pv 0) (pa_cons pe_int pa_nil)))) (pg_name (i := 1) sc_law.nd rfl (.inl rfl))
      (cSs_ok (compS_ok 40 40) ok rfl c_law)) (pss_one (ps_ret pe_bl)), ?_⟩
    exact ⟨.ref a, rfl, a, ns, _, rfl, hS, hlen, by decide, by decide, fun Dd as H' sm R => ⟨Dd, rfl, ⟨_, SqL.of R.1⟩, law_for hall R rfl (by decide +kernel) (fun σ' H' => q H')⟩⟩
end
end Tb
set_option maxHeartbeats 2000000
namespace Tb
open PySem PL
local macro_rules | `(tactic| walk_at "pl") => `(tactic| try simp only [↓rb_ok, ↓rb_exc, ↓rb_stuck, ↓rb_bindM, ↓rb_pure, ↓rb_stuckM, ↓rb_some, ↓rb_none, ↓rb_one, ↓rb_one1, ↓rb_asC, ↓rb_bt, ↓rb_bf, ↓rb_fn, ↓rb_fr, ↓rb_fb, ↓rb_fc, ↓rb_take, ↓rb_peek, ↓tk0, ↓tkS, ↓pk0, ↓pkS, ↓tk_d, ↓tk_o, ↓pk_d, ↓pk_o, ↓pk_c, ↓e_nil, ↓e_cons, ↓e_var, ↓e_cst, ↓e_glb, ↓gd0, ↓gd1, ↓gd2, ↓gd3, ↓gd4, ↓gd5, ↓gd6, ↓gd7, ↓gd8, ↓rb_guard, ↓e_tup, ↓e_lst, ↓e_op, ↓e_neg, ↓e_opB, ↓e_cmp, ↓e_cmpL, ↓e_cmpR, ↓e_chain, ↓e_not, ↓e_and, ↓e_or, ↓e_ife, ↓e_call, ↓e_callD, ↓rc0_ok, ↓rc_ok, ↓rc0_if, ↓e_blt, ↓e_bltB, ↓e_isi, ↓e_ix, ↓e_ixB, ↓rb_partF, ↓rb_partT, ↓rb_part, ↓e_slc, ↓e_slcB, ↓rb_itM, ↓e_lc, ↓rb_lcT, ↓t_skip, ↓t_seq, ↓t_asg, ↓t_ife, ↓t_for, ↓for_nil, ↓tg_nm, ↓t_ret, ↓t_expr, ↓t_raise, ↓t_setD, ↓sd0, ↓sd1, ↓dc0, ↓dc1, ↓v_lt, ↓v_le, ↓v_gt, ↓v_ge, ↓v_eqI, ↓v_neI, ↓v_eqS, ↓v_neS, ↓v_isN, ↓v_notN, ↓v_inT, ↓v_notInT, ↓v_add, ↓v_sub, ↓v_mul, ↓v_fdiv, ↓v_mod, ↓v_pow, ↓v_addT, ↓v_addL, ↓v_neg, ↓v_lenL, ↓v_lenT, ↓v_abs, ↓v_tupL, ↓v_tupT, ↓v_all, ↓v_any, ↓v_sum, ↓v_ix0, ↓v_ix1, ↓v_ix2, ↓v_ix3, ↓v_ix4, ↓v_it, ↓v_itL, ↓v_slT, ↓v_slL, RV.toD, RV.toSV, isiB, isiD, Option.getD_some, Bool.not_true, Bool.not_false, reduceCtorEq, List.map_cons, List.map_nil, List.set_cons_zero, List.set_cons_succ])
def isWholeD (d : D) (lo hi : Int) : Bool := match d with
  | .int i => decide (lo ≤ i) && decide (i ≤ hi)
  | _ => false
theorem M_is_whole (k : Nat) (d : D) (lo hi : Int) (δ : Int × Int) : run Γ (k + 1) 0 false [d, .int lo, .int hi] δ = .ok (.bool (isWholeD d lo hi)) δ := by
  rw [r_is_whole]
  refine run_of (s := ⟨[some (.d d), some (.d (.int lo)), some (.d (.int hi))], δ⟩) rfl rfl ?_
  unfold d_is_whole
  cases d with
  | int i =>
    walk_at "pl"
    unfold isWholeD
    by_cases h : lo ≤ i
    · simp only [h, decide_true, Bool.true_and]; walk_at "pl"; rfl
    · simp only [h, decide_false, Bool.false_and]; walk_at "pl"; rfl
  | _ => walk_at "pl"; rfl
def isPtD (d : D) : Bool := match d with
  | .tuple ps => (decide (ps.length = 2)) && ps.all fun x => isWholeD x (-9) 9
  | _ => false
theorem isPtD_t (ps : List D) : isPtD (.tuple ps) = ((decide (ps.length = 2)) && ps.all fun x => isWholeD x (-9) 9) := rfl
def isLoopD (d : D) : Bool := match d with
  | .tuple xs => decide (3 ≤ xs.length) && (decide (xs.length ≤ 8) && xs.all isPtD)
  | _ => false
theorem okLen_small {n : Nat} (h : n ≤ 100) : okLen n = true := decide_eq_true (by omega)
theorem M_is_loop (k : Nat) (d : D) (δ : Int × Int) : run Γ (k + 2) 1 false [d] δ = .ok (.bool (isLoopD d)) δ := by
  rw [r_is_loop]
  refine run_of (s := ⟨[some (.d d), none, none], δ⟩) rfl rfl ?_
  unfold d_is_loop
  cases d with
  | tuple xs =>
    walk_at "pl"
    unfold isLoopD
    by_cases h : 3 ≤ xs.length
    · have h' : (3 : Int) ≤ (xs.length : Int) := by omega
      simp only [h, h', decide_true, Bool.true_and]
      walk_at "pl"
      by_cases g : xs.length ≤ 8
      · have g' : (xs.length : Int) ≤ 8 := by omega
        have hl : okLen xs.length = true := okLen_small (by omega)
        simp only [g, g', decide_true, Bool.true_and]
        walk_at "pl"
        rw [v_it hl]
        walk_at "pl"
        obtain ⟨ρ', _, e⟩ := for_all (tg := .nm 1) (p := isPtD) (δ := δ) (I := fun ρ => ∃ o, ρ = [some (.d (.tuple xs)), o, none]) (b := evS (run Γ (k + 1)) (.seq (.ife (.or (.not (.isi (.var 1) .tuple)) (.or (.cmp .ne (.bltB .len 1) (.cst (.int 2))) (.not (.blt .all (.cons (.lc [2] [2] (.nm 2) .seq (.cons (.var 1) .nil) (.cst (.bool true)) (.call 0 (.cons (.var 2) (.cons (.neg (.cst (.int 9))) (.cons (.cst (.int 9)) .nil))))) .nil))))) (.seq (.ret (.cst (.bool false))) .skip) .skip) .skip)) (fun x ρ ⟨o, e⟩ => by
          subst e
          refine ⟨[some (.d (.tuple xs)), some (.d x), none], ⟨_, rfl⟩, ?_⟩
          rw [← rb_self (R.bind _ _)]
          simp only [↓tg_nm, List.set_cons_succ, List.set_cons_zero]
          cases x with
          | tuple ps =>
            walk_at "pl"
            rw [isPtD_t]
            by_cases h2 : ps.length = 2
            · have h2' : ((ps.length : Int) == 2) = true := by rw [beq_iff_eq]; omega
              rw [decide_eq_true h2, Bool.true_and]; simp only [h2', Bool.not_true]
              walk_at "pl"
              rw [v_it (okLen_small (by omega))]
              rw [lcR_bool (fun y => isWholeD y (-9) 9) (fun y _ => by
                rw [← rb_self (lcT _ _ _ _ _)]
                refine ⟨_, by
                  show R.bind (lcT _ _ _ y ⟨[some (.d (.tuple xs)), some (.d (.tuple ps)), none], δ⟩) _ = _
                  walk_at "pl"
                  rw [M_is_whole]
                  walk_at "pl"
                  rfl, rfl⟩)]
              walk_at "pl"
              rw [all_id]
              cases ps.all fun y => isWholeD y (-9) 9 <;> (simp only [Bool.not_true, Bool.not_false]; walk_at "pl"; rfl)
            · have h2' : ((ps.length : Int) == 2) = false := by rw [beq_eq_false_iff_ne]; omega
              rw [decide_eq_false h2, Bool.false_and]; simp only [h2', Bool.not_false]
              walk_at "pl"
              rfl
          | _ => walk_at "pl"; rfl) xs _ ⟨_, rfl⟩
        rw [e]
        cases xs.all isPtD <;> (simp only [if_true, if_false, Bool.false_eq_true]; walk_at "pl"; rfl)
      · have g' : ¬ (xs.length : Int) ≤ 8 := by omega
        simp only [g, g', decide_false, Bool.false_and]
        walk_at "pl"
        rfl
    · have h' : ¬ (3 : Int) ≤ (xs.length : Int) := by omega
      simp only [h, h', decide_false, Bool.false_and]
      walk_at "pl"
      rfl
  | _ => walk_at "pl"; rfl
def isRuleD (r : Str) : Bool := [PyData.str "odd", PyData.str "turns"].any fun z => PyData.eqv z (.str r)
def isShapeD (d : D) : Bool := match d with
  | .tuple [.str r, .tuple ls] => isRuleD r && (decide (1 ≤ ls.length) && (decide (ls.length ≤ 3) && ls.all isLoopD))
  | _ => false
theorem len3 {a b c : D} {r : List D} {n : Int} (h : n < 3) : (((a :: b :: c :: r).length : Int) == n) = false := by
  rw [beq_eq_false_iff_ne]; simp only [List.length_cons]; omega
theorem M_is_shape (k : Nat) (d : D) (δ : Int × Int) : run Γ (k + 3) 2 false [d] δ = .ok (.bool (isShapeD d)) δ := by
  rw [r_is_shape]
  refine run_of (s := ⟨[some (.d d), none], δ⟩) rfl rfl ?_
  unfold d_is_shape
  cases d with
  | tuple xs =>
    match xs with
    | [] => walk_at "pl"; rfl
    | [a] => walk_at "pl"; cases a <;> rfl
    | a :: b :: c :: r =>
      walk_at "pl"
      simp only [len3 (show (2 : Int) < 3 by decide), Bool.not_false]
      walk_at "pl"
      cases a <;> first | rfl | (cases b <;> rfl)
    | [a, b] =>
      cases a with
      | str r =>
        walk_at "pl"
        simp only [show ((([PyData.str r, b] : List D).length : Int) == 2) = true from rfl, Bool.not_true]
        walk_at "pl"
        rw [v_notInT rfl]
        change endRC (R.bind (bcase (!isRuleD r) _ _ _) _) = _
        cases b with
        | tuple ls =>
          show _ = RC.ok (.bool (isRuleD r && (decide (1 ≤ ls.length) && (decide (ls.length ≤ 3) && ls.all isLoopD)))) δ
          cases isRuleD r with
          | false => walk_at "pl"; rfl
          | true =>
            walk_at "pl"
            by_cases h : 1 ≤ ls.length
            · have h' : (1 : Int) ≤ (ls.length : Int) := by omega
              simp only [h, h', decide_true, Bool.true_and]
              walk_at "pl"
              by_cases g : ls.length ≤ 3
              · have g' : (ls.length : Int) ≤ 3 := by omega
                simp only [g, g', decide_true, Bool.true_and]
                walk_at "pl"
                rw [v_it (okLen_small (by omega))]
                rw [lcR_bool isLoopD (fun y _ => by
                  rw [← rb_self (lcT _ _ _ _ _)]
                  refine ⟨_, by
                    show R.bind (lcT _ _ _ y ⟨[some (.d (.tuple [.str r, .tuple ls])), none], δ⟩) _ = _
                    walk_at "pl"
                    rw [M_is_loop]
                    walk_at "pl"
                    rfl, rfl⟩)]
                walk_at "pl"
                rw [all_id]
                rfl
              · have g' : ¬ (ls.length : Int) ≤ 3 := by omega
                simp only [g, g', decide_false, Bool.false_and]
                walk_at "pl"
                rfl
            · have h' : ¬ (1 : Int) ≤ (ls.length : Int) := by omega
              simp only [h, h', decide_false, Bool.false_and]
              walk_at "pl"
              rfl
        | _ => cases isRuleD r <;> (walk_at "pl"; rfl)
      | _ => walk_at "pl"; rfl
  | _ => walk_at "pl"; rfl
def isColourD (d : D) : Bool := match d with
  | .tuple cs => decide (cs.length = 3) && cs.all fun x => isWholeD x 0 9
  | _ => false
theorem M_is_colour (k : Nat) (d : D) (δ : Int × Int) : run Γ (k + 2) 3 false [d] δ = .ok (.bool (isColourD d)) δ := by
  rw [r_is_colour]
  refine run_of (s := ⟨[some (.d d), none], δ⟩) rfl rfl ?_
  unfold d_is_colour
  cases d with
  | tuple cs =>
    walk_at "pl"
    show _ = RC.ok (.bool (decide (cs.length = 3) && cs.all fun x => isWholeD x 0 9)) δ
    by_cases h : cs.length = 3
    · have h' : ((cs.length : Int) == 3) = true := by rw [beq_iff_eq]; omega
      rw [decide_eq_true h, Bool.true_and]
      simp only [h']
      walk_at "pl"
      rw [v_it (okLen_small (by omega))]
      rw [lcR_bool (fun x => isWholeD x 0 9) (fun y _ => by
        rw [← rb_self (lcT _ _ _ _ _)]
        refine ⟨_, by
          show R.bind (lcT _ _ _ y ⟨[some (.d (.tuple cs)), none], δ⟩) _ = _
          walk_at "pl"
          rw [M_is_whole]
          walk_at "pl"
          rfl, rfl⟩)]
      walk_at "pl"
      rw [all_id]
      rfl
    · have h' : ((cs.length : Int) == 3) = false := by rw [beq_eq_false_iff_ne]; omega
      rw [decide_eq_false h, Bool.false_and]
      simp only [h']
      walk_at "pl"
      rfl
  | _ => walk_at "pl"; rfl
def isOpacityD (d : D) : Bool := match d with
  | .tuple [a, .int n] => isWholeD (.int n) 1 6 && isWholeD a 1 n
  | _ => false
theorem M_is_opacity (k : Nat) (d : D) (δ : Int × Int) : run Γ (k + 2) 4 false [d] δ = .ok (.bool (isOpacityD d)) δ := by
  rw [r_is_opacity]
  refine run_of (s := ⟨[some (.d d)], δ⟩) rfl rfl ?_
  unfold d_is_opacity
  cases d with
  | tuple xs =>
    match xs with
    | [] => walk_at "pl"; rfl
    | [a] => walk_at "pl"; rfl
    | a :: b :: c :: r =>
      walk_at "pl"
      simp only [len3 (show (2 : Int) < 3 by decide)]
      walk_at "pl"
      cases b <;> rfl
    | [a, b] =>
      walk_at "pl"
      simp only [show ((([a, b] : List D).length : Int) == 2) = true from rfl]
      walk_at "pl"
      rw [M_is_whole]
      walk_at "pl"
      cases b with
      | int n =>
        show _ = RC.ok (.bool (isWholeD (.int n) 1 6 && isWholeD a 1 n)) δ
        cases isWholeD (.int n) 1 6 with
        | false => walk_at "pl"; rfl
        | true => walk_at "pl"; rw [M_is_whole]; walk_at "pl"; rfl
      | _ => simp only [isWholeD]; walk_at "pl"; rfl
  | _ => walk_at "pl"; rfl
end Tb
set_option maxHeartbeats 2000000
namespace Tb
open PySem PL
local macro_rules | `(tactic| walk_at "pl") => `(tactic| try simp only [↓rb_ok, ↓rb_exc, ↓rb_stuck, ↓rb_bindM, ↓rb_pure, ↓rb_stuckM, ↓rb_some, ↓rb_none, ↓rb_one, ↓rb_one1, ↓rb_asC, ↓rb_bt, ↓rb_bf, ↓rb_fn, ↓rb_fr, ↓rb_fb, ↓rb_fc, ↓rb_take, ↓rb_peek, ↓tk0, ↓tkS, ↓pk0, ↓pkS, ↓tk_d, ↓tk_o, ↓pk_d, ↓pk_o, ↓pk_c, ↓e_nil, ↓e_cons, ↓e_var, ↓e_cst, ↓e_glb, ↓gd0, ↓gd1, ↓gd2, ↓gd3, ↓gd4, ↓gd5, ↓gd6, ↓gd7, ↓gd8, ↓rb_guard, ↓e_tup, ↓e_lst, ↓e_op, ↓e_neg, ↓e_opB, ↓e_cmp, ↓e_cmpL, ↓e_cmpR, ↓e_chain, ↓e_not, ↓e_and, ↓e_or, ↓e_ife, ↓e_call, ↓e_callD, ↓rc0_ok, ↓rc_ok, ↓rc0_if, ↓e_blt, ↓e_bltB, ↓e_isi, ↓e_ix, ↓e_ixB, ↓rb_partF, ↓rb_partT, ↓rb_part, ↓e_slc, ↓e_slcB, ↓rb_itM, ↓e_lc, ↓rb_lcT, ↓t_skip, ↓t_seq, ↓t_asg, ↓t_ife, ↓t_for, ↓for_nil, ↓tg_nm, ↓t_ret, ↓t_expr, ↓t_raise, ↓t_setD, ↓sd0, ↓sd1, ↓dc0, ↓dc1, ↓v_lt, ↓v_le, ↓v_gt, ↓v_ge, ↓v_eqI, ↓v_neI, ↓v_eqS, ↓v_neS, ↓v_isN, ↓v_notN, ↓v_inT, ↓v_notInT, ↓v_add, ↓v_sub, ↓v_mul, ↓v_fdiv, ↓v_mod, ↓v_pow, ↓v_addT, ↓v_addL, ↓v_neg, ↓v_lenL, ↓v_lenT, ↓v_abs, ↓v_tupL, ↓v_tupT, ↓v_all, ↓v_any, ↓v_sum, ↓v_ix0, ↓v_ix1, ↓v_ix2, ↓v_ix3, ↓v_ix4, ↓v_it, ↓v_itL, ↓v_slT, ↓v_slL, RV.toD, RV.toSV, isiB, isiD, Option.getD_some, Bool.not_true, Bool.not_false, reduceCtorEq, List.map_cons, List.map_nil, List.set_cons_zero, List.set_cons_succ])
def ivD : D → Int
  | .int i => i
  | _ => 0
def isMatrixD (d : D) : Bool := match d with
  | .tuple [a, b, c, d, e, f] => [a, b, c, d].all (fun x => isWholeD x (-2) 2) && ([e, f].all (fun x => isWholeD x (-9) 9) && !(ivD a * ivD d == ivD b * ivD c))
  | _ => false
theorem isWholeD_int {d : D} {lo hi : Int} (h : isWholeD d lo hi = true) : ∃ i, d = .int i ∧ lo ≤ i ∧ i ≤ hi := by
  cases d with
  | int i =>
    have h : (decide (lo ≤ i) && decide (i ≤ hi)) = true := h
    rw [Bool.and_eq_true] at h
    exact ⟨i, rfl, of_decide_eq_true h.1, of_decide_eq_true h.2⟩
  | _ => cases h
theorem okMul_left {i j : Int} (h1 : -(2 ^ 64) < i) (h2 : i < 2 ^ 64) : okMul i j = true := by
  have h : ¬ (Builtin.Int.intBits i > shortFactorBits) := Nat.not_lt.mpr (intBits_le_64 h1 h2)
  unfold okMul
  rw [decide_eq_false h]; simp
theorem okMul_right {i j : Int} (h1 : -(2 ^ 64) < j) (h2 : j < 2 ^ 64) : okMul i j = true := by
  have h : ¬ (Builtin.Int.intBits j > shortFactorBits) := Nat.not_lt.mpr (intBits_le_64 h1 h2)
  unfold okMul
  rw [decide_eq_false h]; simp
theorem len7 {a b c d e f g : D} {r : List D} {n : Int} (h : n < 7) : (((a :: b :: c :: d :: e :: f :: g :: r).length : Int) == n) = false := by
  rw [beq_eq_false_iff_ne]; simp only [List.length_cons]; omega
theorem M_is_matrix (k : Nat) (d : D) (δ : Int × Int) : run Γ (k + 2) 5 false [d] δ = .ok (.bool (isMatrixD d)) δ := by
  rw [r_is_matrix]
  refine run_of (s := ⟨[some (.d d), none], δ⟩) rfl rfl ?_
  unfold d_is_matrix
  cases d with
  | tuple xs =>
    match xs with
    | [] => walk_at "pl"; rfl
    | [_] => walk_at "pl"; rfl
    | [_, _] => walk_at "pl"; rfl
    | [_, _, _] => walk_at "pl"; rfl
    | [_, _, _, _] => walk_at "pl"; rfl
    | [_, _, _, _, _] => walk_at "pl"; rfl
    | a :: b :: c :: d :: e :: f :: g :: r =>
      walk_at "pl"
      simp only [len7 (show (6 : Int) < 7 by decide), Bool.not_false]
      walk_at "pl"
      rfl
    | [a, b, c, d, e, f] =>
      walk_at "pl"
      simp only [show ((([a, b, c, d, e, f] : List D).length : Int) == 6) = true from rfl, Bool.not_true]
      walk_at "pl"
      rw [show cutL [a, b, c, d, e, f] none (some 4) = [a, b, c, d] from rfl, v_it (okLen_small (by simp))]
      rw [lcR_bool (fun x => isWholeD x (-2) 2) (fun y _ => by
        rw [← rb_self (lcT _ _ _ _ _)]
        refine ⟨_, by
          show R.bind (lcT _ _ _ y ⟨[some (.d (.tuple [a, b, c, d, e, f])), none], δ⟩) _ = _
          walk_at "pl"
          rw [M_is_whole]
          walk_at "pl"
          rfl, rfl⟩)]
      rw [show ∀ ρ, frzAll [1] ⟨[some (.d (.tuple [a, b, c, d, e, f])), none], ρ⟩ = ⟨[some (.d (.tuple [a, b, c, d, e, f])), none], ρ⟩ from fun _ => rfl]
      walk_at "pl"
      rw [show [isWholeD a (-2) 2, isWholeD b (-2) 2, isWholeD c (-2) 2, isWholeD d (-2) 2].all id = [a, b, c, d].all (fun x => isWholeD x (-2) 2) from rfl]
      show _ = RC.ok (.bool ([a, b, c, d].all (fun x => isWholeD x (-2) 2) && ([e, f].all (fun x => isWholeD x (-9) 9) && !(ivD a * ivD d == ivD b * ivD c)))) δ
      cases h1 : [a, b, c, d].all (fun x => isWholeD x (-2) 2) with
      | false => simp only [Bool.false_and]; walk_at "pl"; rfl
      | true =>
        simp only [Bool.true_and]
        walk_at "pl"
        rw [show cutL [a, b, c, d, e, f] (some 4) none = [e, f] from rfl, v_it (okLen_small (by simp))]
        rw [lcR_bool (fun x => isWholeD x (-9) 9) (fun y _ => by
          rw [← rb_self (lcT _ _ _ _ _)]
          refine ⟨_, by
            show R.bind (lcT _ _ _ y ⟨[some (.d (.tuple [a, b, c, d, e, f])), none], δ⟩) _ = _
            walk_at "pl"
            rw [M_is_whole]
            walk_at "pl"
            rfl, rfl⟩)]
        rw [show ∀ ρ, frzAll [1] ⟨[some (.d (.tuple [a, b, c, d, e, f])), none], ρ⟩ = ⟨[some (.d (.tuple [a, b, c, d, e, f])), none], ρ⟩ from fun _ => rfl]
        walk_at "pl"
        rw [show [isWholeD e (-9) 9, isWholeD f (-9) 9].all id = [e, f].all (fun x => isWholeD x (-9) 9) from rfl]
        cases h2 : [e, f].all (fun x => isWholeD x (-9) 9) with
        | false => simp only [Bool.false_and]; walk_at "pl"; rfl
        | true =>
          simp only [Bool.true_and]
          simp only [List.all_cons, List.all_nil, Bool.and_true, Bool.and_eq_true] at h1
          obtain ⟨i, rfl, b1, b2⟩ := isWholeD_int h1.1
          obtain ⟨j, rfl, b3, b4⟩ := isWholeD_int h1.2.1
          obtain ⟨l, rfl, _, _⟩ := isWholeD_int h1.2.2.1
          obtain ⟨m, rfl, _, _⟩ := isWholeD_int h1.2.2.2
          walk_at "pl"
          rw [v_mul (okMul_left (by omega) (by omega))]
          walk_at "pl"
          rw [v_mul (okMul_left (by omega) (by omega))]
          walk_at "pl"
          rfl
  | _ => walk_at "pl"; rfl
def areD (f : D → Bool) (d : D) : Bool := match d with
  | .tuple xs => decide (xs.length ≤ 4) && xs.all f
  | _ => false
def fillOk (x1 x2 : D) : List D → Bool
  | [x3] => isShapeD x1 && (isColourD x2 && isOpacityD x3)
  | _ => false
def rubOk (x1 x2 : D) : List D → Bool
  | [] => isShapeD x1 && isOpacityD x2
  | _ => false
def grpOk (f : D → Bool) (x1 x2 : D) : List D → Bool
  | [x3, x4] => areD f x1 && (isOpacityD x2 && (isMatrixD x4 && (isNoneD x3 || isShapeD x3)))
  | _ => false
def layD (g : D → D → List D → Bool) (d : D) : Bool := match d with
  | .tuple (.str t :: x1 :: x2 :: r) => if t == "fill" then fillOk x1 x2 r else if t == "rub" then rubOk x1 x2 r else if t == "group" then g x1 x2 r else false
  | _ => false
def isLayerD : Nat → D → Bool
  | 0 => layD fun _ _ _ => false
  | n + 1 => layD (grpOk (isLayerD n))
theorem len4 {a b c d : D} {r : List D} {n : Int} (h : n < 4) : (((a :: b :: c :: d :: r).length : Int) == n) = false := by
  rw [beq_eq_false_iff_ne]; simp only [List.length_cons]; omega
theorem len5 {a b c d e : D} {r : List D} {n : Int} (h : n < 5) : (((a :: b :: c :: d :: e :: r).length : Int) == n) = false := by
  rw [beq_eq_false_iff_ne]; simp only [List.length_cons]; omega
theorem len6 {a b c d e f : D} {r : List D} {n : Int} (h : n < 6) : (((a :: b :: c :: d :: e :: f :: r).length : Int) == n) = false := by
  rw [beq_eq_false_iff_ne]; simp only [List.length_cons]; omega
theorem M_are_layers_of (n : Nat) (j : Nat) (hl : ∀ d δ, run Γ j 6 false [d, .int (n : Int)] δ = .ok (.bool (isLayerD n d)) δ) (d : D) (δ : Int × Int) : run Γ (j + 1) 7 false [d, .int (n : Int)] δ = .ok (.bool (areD (isLayerD n) d)) δ := by
  rw [r_are_layers]
  refine run_of (s := ⟨[some (.d d), some (.d (.int n)), none], δ⟩) rfl rfl ?_
  unfold d_are_layers
  cases d with
  | tuple xs =>
    walk_at "pl"
    show _ = RC.ok (.bool (decide (xs.length ≤ 4) && xs.all (isLayerD n))) δ
    by_cases g : xs.length ≤ 4
    · have g' : (xs.length : Int) ≤ 4 := by omega
      simp only [g, g', decide_true, Bool.true_and]
      walk_at "pl"
      rw [v_it (okLen_small (by omega))]
      rw [lcR_bool (isLayerD n) (fun y _ => by
        rw [← rb_self (lcT _ _ _ _ _)]
        refine ⟨_, by
          show R.bind (lcT _ _ _ y ⟨[some (.d (.tuple xs)), some (.d (.int n)), none], δ⟩) _ = _
          walk_at "pl"
          rw [hl]
          walk_at "pl"
          rfl, rfl⟩)]
      walk_at "pl"
      rw [all_id]
      rfl
    · have g' : ¬ (xs.length : Int) ≤ 4 := by omega
      simp only [g, g', decide_false, Bool.false_and]
      walk_at "pl"
      rfl
  | _ => walk_at "pl"; rfl
end Tb
set_option maxHeartbeats 2000000
namespace Tb
open PySem PL
local macro_rules | `(tactic| walk_at "pl") => `(tactic| try simp only [↓rb_ok, ↓rb_exc, ↓rb_stuck, ↓rb_bindM, ↓rb_pure, ↓rb_stuckM, ↓rb_some, ↓rb_none, ↓rb_one, ↓rb_one1, ↓rb_asC, ↓rb_bt, ↓rb_bf, ↓rb_fn, ↓rb_fr, ↓rb_fb, ↓rb_fc, ↓rb_take, ↓rb_peek, ↓tk0, ↓tkS, ↓pk0, ↓pkS, ↓tk_d, ↓tk_o, ↓pk_d, ↓pk_o, ↓pk_c, ↓e_nil, ↓e_cons, ↓e_var, ↓e_cst, ↓e_glb, ↓gd0, ↓gd1, ↓gd2, ↓gd3, ↓gd4, ↓gd5, ↓gd6, ↓gd7, ↓gd8, ↓rb_guard, ↓e_tup, ↓e_lst, ↓e_op, ↓e_neg, ↓e_opB, ↓e_cmp, ↓e_cmpL, ↓e_cmpR, ↓e_chain, ↓e_not, ↓e_and, ↓e_or, ↓e_ife, ↓e_call, ↓e_callD, ↓rc0_ok, ↓rc_ok, ↓rc0_if, ↓e_blt, ↓e_bltB, ↓e_isi, ↓e_ix, ↓e_ixB, ↓rb_partF, ↓rb_partT, ↓rb_part, ↓e_slc, ↓e_slcB, ↓rb_itM, ↓e_lc, ↓rb_lcT, ↓t_skip, ↓t_seq, ↓t_asg, ↓t_ife, ↓t_for, ↓for_nil, ↓tg_nm, ↓t_ret, ↓t_expr, ↓t_raise, ↓t_setD, ↓sd0, ↓sd1, ↓dc0, ↓dc1, ↓v_lt, ↓v_le, ↓v_gt, ↓v_ge, ↓v_eqI, ↓v_neI, ↓v_eqS, ↓v_neS, ↓v_isN, ↓v_notN, ↓v_inT, ↓v_notInT, ↓v_add, ↓v_sub, ↓v_mul, ↓v_fdiv, ↓v_mod, ↓v_pow, ↓v_addT, ↓v_addL, ↓v_neg, ↓v_lenL, ↓v_lenT, ↓v_abs, ↓v_tupL, ↓v_tupT, ↓v_all, ↓v_any, ↓v_sum, ↓v_ix0, ↓v_ix1, ↓v_ix2, ↓v_ix3, ↓v_ix4, ↓v_it, ↓v_itL, ↓v_slT, ↓v_slL, RV.toD, RV.toSV, isiB, isiD, Option.getD_some, Bool.not_true, Bool.not_false, reduceCtorEq, List.map_cons, List.map_nil, List.set_cons_zero, List.set_cons_succ])
theorem notlt3 {a b c : D} {r : List D} : decide ((((a :: b :: c :: r).length : Nat) : Int) < 3) = false := by
  rw [decide_eq_false_iff_not]; simp only [List.length_cons]; omega
def gOf : Nat → D → D → List D → Bool
  | 0 => fun _ _ _ => false
  | n + 1 => grpOk (isLayerD n)
theorem isLayerD_of (n : Nat) (d : D) : isLayerD n d = layD (gOf n) d := by cases n <;> rfl
theorem layD1 (g : D → D → List D → Bool) (a : D) : layD g (.tuple [a]) = false := by cases a <;> rfl
theorem layD2 (g : D → D → List D → Bool) (a b : D) : layD g (.tuple [a, b]) = false := by cases a <;> rfl
theorem fillO (x1 x2 : D) : ∀ r : List D, r.length ≠ 1 → fillOk x1 x2 r = false
  | [], _ => rfl
  | [_], h => absurd rfl h
  | _ :: _ :: _, _ => rfl
theorem rubO (x1 x2 : D) : ∀ r : List D, r.length ≠ 0 → rubOk x1 x2 r = false
  | [], h => absurd rfl h
  | _ :: _, _ => rfl
theorem grpO (f : D → Bool) (x1 x2 : D) : ∀ r : List D, r.length ≠ 2 → grpOk f x1 x2 r = false
  | [], _ => rfl
  | [_], _ => rfl
  | [_, _], h => absurd rfl h
  | _ :: _ :: _ :: _, _ => rfl
theorem lenIs {a b c : D} {r : List D} {n : Int} (m : Nat) (h : (m : Int) + 3 = n) : (((a :: b :: c :: r).length : Int) == n) = decide (r.length = m) := by
  by_cases e : r.length = m
  · rw [decide_eq_true e, beq_iff_eq]; simp only [List.length_cons]; omega
  · rw [decide_eq_false e, beq_eq_false_iff_ne]; simp only [List.length_cons]; omega
theorem one_of : ∀ {r : List D}, r.length = 1 → ∃ a, r = [a]
  | [a], _ => ⟨a, rfl⟩
theorem two_of : ∀ {r : List D}, r.length = 2 → ∃ a b, r = [a, b]
  | [a, b], _ => ⟨a, b, rfl⟩
theorem M_is_layer_step (n j : Nat)
    (hg : ∀ m x δ, n = m + 1 → run Γ (j + 3) 7 false [x, .int ((n : Int) - 1)] δ = .ok (.bool (areD (isLayerD m) x)) δ)
    (d : D) (δ : Int × Int) : run Γ (j + 4) 6 false [d, .int (n : Int)] δ = .ok (.bool (isLayerD n d)) δ := by
  rw [r_is_layer_within, isLayerD_of]
  refine run_of (s := ⟨[some (.d d), some (.d (.int n))], δ⟩) rfl rfl ?_
  unfold d_is_layer_within
  cases d with
  | tuple xs =>
    match xs with
    | [] => walk_at "pl"; rfl
    | [a] => rw [layD1]; walk_at "pl"; rfl
    | [a, b] => rw [layD2]; walk_at "pl"; rfl
    | a :: x1 :: x2 :: r =>
      walk_at "pl"
      simp only [notlt3]
      walk_at "pl"
      cases a with
      | str t =>
        walk_at "pl"
        show _ = RC.ok (.bool (if t == "fill" then fillOk x1 x2 r else if t == "rub" then rubOk x1 x2 r else if t == "group" then gOf n x1 x2 r else false)) δ
        cases h1 : (t == "fill") with
        | true =>
          walk_at "pl"
          rw [lenIs (n := 4) 1 rfl, if_pos trivial]
          by_cases e : r.length = 1
          · rw [decide_eq_true e]
            obtain ⟨x3, rfl⟩ := one_of e
            show _ = RC.ok (.bool (isShapeD x1 && (isColourD x2 && isOpacityD x3))) δ
            walk_at "pl"
            rw [M_is_shape]; walk_at "pl"
            cases isShapeD x1 with
            | false => walk_at "pl"; rfl
            | true =>
              walk_at "pl"
              rw [M_is_colour]; walk_at "pl"
              cases isColourD x2 with
              | false => walk_at "pl"; rfl
              | true =>
                walk_at "pl"
                rw [M_is_opacity]; walk_at "pl"
                rfl
          · rw [decide_eq_false e, fillO x1 x2 r e]
            walk_at "pl"; rfl
        | false =>
          walk_at "pl"
          rw [if_neg id]
          cases h2 : (t == "rub") with
          | true =>
            walk_at "pl"
            rw [lenIs (n := 3) 0 rfl, if_pos trivial]
            by_cases e : r.length = 0
            · rw [decide_eq_true e]
              obtain rfl := List.length_eq_zero_iff.mp e
              show _ = RC.ok (.bool (isShapeD x1 && isOpacityD x2)) δ
              walk_at "pl"
              rw [M_is_shape]; walk_at "pl"
              cases isShapeD x1 with
              | false => walk_at "pl"; rfl
              | true =>
                walk_at "pl"
                rw [M_is_opacity]; walk_at "pl"
                rfl
            · rw [decide_eq_false e, rubO x1 x2 r e]
              walk_at "pl"; rfl
          | false =>
            walk_at "pl"
            rw [if_neg id]
            cases h3 : (t == "group") with
            | false => walk_at "pl"; rfl
            | true =>
              walk_at "pl"
              rw [lenIs (n := 5) 2 rfl, if_pos trivial]
              by_cases e : r.length = 2
              · rw [decide_eq_true e]
                obtain ⟨x3, x4, rfl⟩ := two_of e
                cases n with
                | zero => walk_at "pl"; rfl
                | succ m =>
                  have z : (((m + 1 : Nat) : Int) == 0) = false := by rw [beq_eq_false_iff_ne]; omega
                  walk_at "pl"
                  simp only [z]
                  show _ = RC.ok (.bool (areD (isLayerD m) x1 && (isOpacityD x2 && (isMatrixD x4 && (isNoneD x3 || isShapeD x3))))) δ
                  walk_at "pl"
                  rw [hg m x1 _ rfl]; walk_at "pl"
                  cases areD (isLayerD m) x1 with
                  | false => walk_at "pl"; rfl
                  | true =>
                    walk_at "pl"
                    rw [M_is_opacity]; walk_at "pl"
                    cases isOpacityD x2 with
                    | false => walk_at "pl"; rfl
                    | true =>
                      walk_at "pl"
                      rw [M_is_matrix]; walk_at "pl"
                      cases isMatrixD x4 with
                      | false => walk_at "pl"; rfl
                      | true =>
                        walk_at "pl"
                        cases isNoneD x3 with
                        | true => walk_at "pl"; rfl
                        | false =>
                          walk_at "pl"
                          rw [M_is_shape]; walk_at "pl"
                          rfl
              · rw [decide_eq_false e, show gOf n x1 x2 r = false from by cases n with | zero => rfl | succ m => exact grpO _ x1 x2 r e]
                walk_at "pl"; rfl
      | _ => walk_at "pl"; rfl
  | _ => walk_at "pl"; rfl
theorem M_is_layer_within : ∀ (n k : Nat) (d : D) (δ : Int × Int), run Γ (k + 2 * n + 4) 6 false [d, .int (n : Int)] δ = .ok (.bool (isLayerD n d)) δ
  | 0, k, d, δ => M_is_layer_step 0 k (fun _ _ _ e => by cases e) d δ
  | n + 1, k, d, δ => M_is_layer_step (n + 1) (k + 2 * n + 2) (fun m x δ e => by
      obtain rfl : n = m := Nat.succ.inj e
      rw [show (((n + 1 : Nat) : Int) - 1) = (n : Int) by omega]
      exact M_are_layers_of n (k + 2 * n + 4) (M_is_layer_within n k) x δ) d δ
theorem M_are_layers (n k : Nat) (d : D) (δ : Int × Int) : run Γ (k + 2 * n + 5) 7 false [d, .int (n : Int)] δ = .ok (.bool (areD (isLayerD n) d)) δ :=
  M_are_layers_of n (k + 2 * n + 4) (M_is_layer_within n k) d δ
end Tb
set_option maxHeartbeats 2000000
namespace Tb
open PySem PL
local macro_rules | `(tactic| walk_at "pl") => `(tactic| try simp only [↓rb_ok, ↓rb_exc, ↓rb_stuck, ↓rb_bindM, ↓rb_pure, ↓rb_stuckM, ↓rb_some, ↓rb_none, ↓rb_one, ↓rb_one1, ↓rb_asC, ↓rb_bt, ↓rb_bf, ↓rb_fn, ↓rb_fr, ↓rb_fb, ↓rb_fc, ↓rb_take, ↓rb_peek, ↓tk0, ↓tkS, ↓pk0, ↓pkS, ↓tk_d, ↓tk_o, ↓pk_d, ↓pk_o, ↓pk_c, ↓e_nil, ↓e_cons, ↓e_var, ↓e_cst, ↓e_glb, ↓gd0, ↓gd1, ↓gd2, ↓gd3, ↓gd4, ↓gd5, ↓gd6, ↓gd7, ↓gd8, ↓rb_guard, ↓e_tup, ↓e_lst, ↓e_op, ↓e_neg, ↓e_opB, ↓e_cmp, ↓e_cmpL, ↓e_cmpR, ↓e_chain, ↓e_not, ↓e_and, ↓e_or, ↓e_ife, ↓e_call, ↓e_callD, ↓rc0_ok, ↓rc_ok, ↓rc0_if, ↓e_blt, ↓e_bltB, ↓e_isi, ↓e_ix, ↓e_ixB, ↓rb_partF, ↓rb_partT, ↓rb_part, ↓e_slc, ↓e_slcB, ↓rb_itM, ↓e_lc, ↓rb_lcT, ↓t_skip, ↓t_seq, ↓t_asg, ↓t_ife, ↓t_for, ↓for_nil, ↓tg_nm, ↓t_ret, ↓t_expr, ↓t_raise, ↓t_setD, ↓sd0, ↓sd1, ↓dc0, ↓dc1, ↓v_lt, ↓v_le, ↓v_gt, ↓v_ge, ↓v_eqI, ↓v_neI, ↓v_eqS, ↓v_neS, ↓v_isN, ↓v_notN, ↓v_inT, ↓v_notInT, ↓v_add, ↓v_sub, ↓v_mul, ↓v_fdiv, ↓v_mod, ↓v_pow, ↓v_addT, ↓v_addL, ↓v_neg, ↓v_lenL, ↓v_lenT, ↓v_abs, ↓v_tupL, ↓v_tupT, ↓v_all, ↓v_any, ↓v_sum, ↓v_ix0, ↓v_ix1, ↓v_ix2, ↓v_ix3, ↓v_ix4, ↓v_it, ↓v_itL, ↓v_slT, ↓v_slL, RV.toD, RV.toSV, isiB, isiD, Option.getD_some, Bool.not_true, Bool.not_false, reduceCtorEq, List.map_cons, List.map_nil, List.set_cons_zero, List.set_cons_succ])
theorem for_run {A : Type} {tg : Tg} {b : M Fl} {δ : Int × Int} {I : A → List (Option SV) → Prop} (F : A → D → A) : ∀ (xs : List D), (∀ x ∈ xs, ∀ a ρ, I a ρ → ∃ ρ', I (F a x) ρ' ∧ R.bind (setTg tg x ⟨ρ, δ⟩) (fun _ s => b s) = .ok .next ⟨ρ', δ⟩) →
    ∀ (a : A) (ρ : List (Option SV)), I a ρ → ∃ ρ', I (xs.foldl F a) ρ' ∧ forM tg b xs ⟨ρ, δ⟩ = .ok .next ⟨ρ', δ⟩
  | [], _, a, ρ, hI => ⟨ρ, hI, rfl⟩
  | x :: xs, h, a, ρ, hI => by
    obtain ⟨ρ1, h1, e1⟩ := h x List.mem_cons_self a ρ hI
    obtain ⟨ρ2, h2, e2⟩ := for_run F xs (fun y hy => h y (List.mem_cons_of_mem _ hy)) (F a x) ρ1 h1
    refine ⟨ρ2, h2, ?_⟩
    have e0 : forM tg b (x :: xs) ⟨ρ, δ⟩ = R.bind (R.bind (setTg tg x ⟨ρ, δ⟩) fun _ s => b s) fun f => match f with | .next => forM tg b xs | .cont => forM tg b xs | .brk => pureM .next | .ret d => pureM (.ret d) := by
      show bindM (setTg tg x) (fun _ => bindM b fun f => match f with | .next => forM tg b xs | .cont => forM tg b xs | .brk => pureM .next | .ret d => pureM (.ret d)) ⟨ρ, δ⟩ = _
      unfold bindM R.bind
      cases setTg tg x ⟨ρ, δ⟩ <;> rfl
    rw [e0, e1]
    exact e2
def lenD : D → Int
  | .tuple ps => ps.length
  | _ => 0
def shN (d : D) : Int := match d with
  | .tuple [_, .tuple ls] => (ls.map lenD).sum
  | _ => 0
def sumD (f : D → Int) (d : D) : Int := match d with
  | .tuple xs => xs.foldl (fun a x => a + f x) 0
  | _ => 0
def ptsG : (D → Int) → D → Int := fun f d => match d with
  | .tuple [.str _, x1, _, x3, _] => sumD f x1 + shN x3
  | .tuple (.str _ :: x1 :: _) => shN x1
  | _ => 0
def ptsD : Nat → D → Int
  | 0 => ptsG fun _ => 0
  | n + 1 => ptsG (ptsD n)
theorem and_l {a b : Bool} (h : (a && b) = true) : a = true := by cases a; cases h; rfl
theorem and_r {a b : Bool} (h : (a && b) = true) : b = true := by cases a; cases h; exact h
theorem loop_cases {d : D} (h : isLoopD d = true) : ∃ ps, d = .tuple ps ∧ ps.length ≤ 8 := by
  cases d with
  | tuple ps => exact ⟨ps, rfl, of_decide_eq_true (and_l (and_r h))⟩
  | _ => cases h
theorem shape_cases {d : D} (h : isShapeD d = true) : ∃ r ls, d = .tuple [.str r, .tuple ls] ∧ ls.length ≤ 3 ∧ ∀ l ∈ ls, isLoopD l = true := by
  unfold isShapeD at h
  split at h
  · rename_i r ls
    exact ⟨r, ls, rfl, of_decide_eq_true (and_l (and_r (and_r h))), List.all_eq_true.mp (and_r (and_r (and_r h)))⟩
  · cases h
theorem lay_cases {n : Nat} {d : D} (h : isLayerD n d = true) : (∃ x1 x2 x3, d = .tuple [.str "fill", x1, x2, x3] ∧ isShapeD x1 = true) ∨ (∃ x1 x2, d = .tuple [.str "rub", x1, x2] ∧ isShapeD x1 = true) ∨
    ∃ m x1 x2 x3 x4, n = m + 1 ∧ d = .tuple [.str "group", x1, x2, x3, x4] ∧ areD (isLayerD m) x1 = true ∧ (isNoneD x3 || isShapeD x3) = true := by
  rw [isLayerD_of] at h
  unfold layD at h
  split at h
  · rename_i t x1 x2 r
    split at h
    · rename_i e
      obtain rfl := eq_of_beq e
      match r, h with
      | [x3], h => exact .inl ⟨x1, x2, x3, rfl, and_l h⟩
    · split at h
      · rename_i e
        obtain rfl := eq_of_beq e
        match r, h with
        | [], h => exact .inr (.inl ⟨x1, x2, rfl, and_l h⟩)
      · split at h
        · rename_i e
          obtain rfl := eq_of_beq e
          match n, r, h with
          | m + 1, [x3, x4], h => exact .inr (.inr ⟨m, x1, x2, x3, x4, rfl, rfl, and_l h, and_r (and_r (and_r h))⟩)
        · cases h
  · cases h
theorem nfg : (Str.ofString "fill" == Str.ofString "group") = false := by decide +kernel
theorem nrg : (Str.ofString "rub" == Str.ofString "group") = false := by decide +kernel
theorem ygg : (Str.ofString "group" == Str.ofString "group") = true := by decide +kernel
theorem nnT (l : List D) : isNoneD (.tuple l) = false := rfl
theorem none_of {x : D} (h : isNoneD x = true) : x = .none := by cases x <;> first | rfl | cases h
theorem M_pts_step (n j : Nat) (hg : ∀ m x δ, n = m + 1 → areD (isLayerD m) x = true → run Γ j 8 false [x] δ = .ok (.int (sumD (ptsD m) x)) δ)
    (d : D) (δ : Int × Int) (hd : areD (isLayerD n) d = true) : run Γ (j + 1) 8 false [d] δ = .ok (.int (sumD (ptsD n) d)) δ := by
  rw [r_points_in]
  refine run_of (s := ⟨[some (.d d), none, none, none, none], δ⟩) rfl rfl ?_
  unfold d_points_in
  cases d with
  | tuple xs =>
    have hx := List.all_eq_true.mp (and_r hd)
    have hn : xs.length ≤ 4 := of_decide_eq_true (and_l hd)
    walk_at "pl"
    rw [v_it (okLen_small (by omega))]
    generalize hb : evS (run Γ j) (.seq (.asg 3 _) _) = b
    obtain ⟨ρ', ⟨o2, o3, hI⟩, e⟩ := for_run (tg := .nm 2) (b := b) (δ := δ) (I := fun a ρ => ∃ o2 o3, ρ = [some (.d (.tuple xs)), some (.d (.int a)), o2, o3, none]) (fun a x => a + ptsD n x) xs (fun x hxx a ρ ⟨o2, o3, e⟩ => by
      subst e hb
      rw [← rb_self (R.bind _ _)]
      simp only [↓tg_nm, List.set_cons_succ, List.set_cons_zero]
      have lcx : ∀ (a0 a1 a2 a3 : D) (ls : List D) (kl : List RV → M Fl), (∀ l ∈ ls, isLoopD l = true) → R.bind (lcR [4] [4] (.nm 4) (bindM (ev (run Γ j) (.cst (.bool true))) asC) (ev (run Γ j) (.bltB .len 4)) ls ⟨[some (.d a0), some (.d a1), some (.d a2), some (.d a3), none], δ⟩) kl = kl [.own ((ls.map lenD).map PyData.int)] ⟨[some (.d a0), some (.d a1), some (.d a2), some (.d a3), none], δ⟩ := by
        intro a0 a1 a2 a3 ls kl hls
        rw [lcR_int lenD (fun y hy => by
          obtain ⟨ps, rfl, _⟩ := loop_cases (hls y hy)
          rw [← rb_self (lcT _ _ _ _ _)]
          refine ⟨_, by
            show R.bind (lcT _ _ _ _ ⟨[some (.d a0), some (.d a1), some (.d a2), some (.d a3), none], δ⟩) _ = _
            walk_at "pl"
            rfl, rfl⟩)]
        rfl
      rcases lay_cases (hx x hxx) with ⟨x1, x2, x3, rfl, h1⟩ | ⟨x1, x2, rfl, h1⟩ | ⟨m, x1, x2, x3, x4, hm, rfl, h1, h2⟩
      · obtain ⟨r, ls, rfl, hl, hls⟩ := shape_cases h1
        walk_at "pl"
        simp only [nfg]
        walk_at "pl"
        simp only [nfg]
        walk_at "pl"
        simp only [nnT, Bool.not_false]
        walk_at "pl"
        rw [v_it (okLen_small (by omega)), lcx _ _ _ _ _ _ hls]
        walk_at "pl"
        exact ⟨_, ⟨_, _, by cases n <;> rfl⟩, rfl⟩
      · obtain ⟨r, ls, rfl, hl, hls⟩ := shape_cases h1
        walk_at "pl"
        simp only [nrg]
        walk_at "pl"
        simp only [nrg]
        walk_at "pl"
        simp only [nnT, Bool.not_false]
        walk_at "pl"
        rw [v_it (okLen_small (by omega)), lcx _ _ _ _ _ _ hls]
        walk_at "pl"
        exact ⟨_, ⟨_, _, by cases n <;> rfl⟩, rfl⟩
      · subst hm
        walk_at "pl"
        simp only [ygg]
        walk_at "pl"
        simp only [ygg]
        walk_at "pl"
        rw [hg m _ _ rfl h1]
        walk_at "pl"
        cases h3 : isNoneD x3 with
        | true =>
          obtain rfl := none_of h3
          walk_at "pl"
          exact ⟨_, ⟨_, _, by
            show _ = [_, some (SV.d (PyData.int (a + (sumD (ptsD m) x1 + 0)))), _, _, _]
            rw [Int.add_zero]⟩, rfl⟩
        | false =>
          rw [h3, Bool.false_or] at h2
          obtain ⟨r, ls, rfl, hl, hls⟩ := shape_cases h2
          walk_at "pl"
          rw [v_it (okLen_small (by omega)), lcx _ _ _ _ _ _ hls]
          walk_at "pl"
          exact ⟨_, ⟨_, _, by
            show _ = [_, some (SV.d (PyData.int (a + (sumD (ptsD m) x1 + (ls.map lenD).sum)))), _, _, _]
            rw [← Int.add_assoc]⟩, rfl⟩) 0 [some (.d (.tuple xs)), some (.d (.int 0)), none, none, none] ⟨none, none, rfl⟩
    rw [e, hI]
    walk_at "pl"
    rfl
  | _ => cases hd
theorem M_points_in : ∀ (n k : Nat) (d : D) (δ : Int × Int), areD (isLayerD n) d = true → run Γ (k + n + 1) 8 false [d] δ = .ok (.int (sumD (ptsD n) d)) δ
  | 0, k, d, δ, h => M_pts_step 0 k (fun _ _ _ e => by cases e) d δ h
  | n + 1, k, d, δ, h => M_pts_step (n + 1) (k + n + 1) (fun m x δ e hx => by
      obtain rfl : n = m := Nat.succ.inj e
      exact M_points_in n k x δ hx) d δ h
def isDrawingD (d : D) : Bool := areD (isLayerD 2) d && decide (sumD (ptsD 2) d ≤ 60)
def isLayD (d : D) : Bool := isLayerD 2 d && decide (sumD (ptsD 2) (.tuple [d]) ≤ 60)
theorem M_is_drawing (k : Nat) (d : D) (δ : Int × Int) : run Γ (k + 10) 9 false [d] δ = .ok (.bool (isDrawingD d)) δ := by
  rw [r_is_drawing]
  refine run_of (s := ⟨[some (.d d)], δ⟩) rfl rfl ?_
  unfold d_is_drawing isDrawingD
  walk_at "pl"
  rw [show ∀ δ, run Γ (k + 9) 7 false [d, .int 2] δ = .ok (.bool (areD (isLayerD 2) d)) δ from M_are_layers 2 k d]
  walk_at "pl"
  cases h : areD (isLayerD 2) d with
  | false => walk_at "pl"; rfl
  | true =>
    walk_at "pl"
    rw [show ∀ δ, run Γ (k + 9) 8 false [d] δ = .ok (.int (sumD (ptsD 2) d)) δ from fun δ => M_points_in 2 (k + 6) d δ h]
    walk_at "pl"
    rfl
theorem M_is_layer (k : Nat) (d : D) (δ : Int × Int) : run Γ (k + 9) 10 false [d] δ = .ok (.bool (isLayD d)) δ := by
  rw [r_is_layer]
  refine run_of (s := ⟨[some (.d d)], δ⟩) rfl rfl ?_
  unfold d_is_layer isLayD
  walk_at "pl"
  rw [show ∀ δ, run Γ (k + 8) 6 false [d, .int 2] δ = .ok (.bool (isLayerD 2 d)) δ from M_is_layer_within 2 k d]
  walk_at "pl"
  cases h : isLayerD 2 d with
  | false => walk_at "pl"; rfl
  | true =>
    walk_at "pl"
    rw [show ∀ δ, run Γ (k + 8) 8 false [.tuple [d]] δ = .ok (.int (sumD (ptsD 2) (.tuple [d]))) δ from fun δ => M_points_in 2 (k + 5) _ δ (by show (true && (isLayerD 2 d && true)) = true; rw [h]; rfl)]
    walk_at "pl"
    rfl
theorem M_need_drawing (k : Nat) (d : D) (δ : Int × Int) (h : isDrawingD d = true) : run Γ (k + 11) 11 false [d] δ = .ok .none δ := by
  rw [r_need_drawing]
  refine run_of (s := ⟨[some (.d d)], δ⟩) rfl rfl ?_
  unfold d_need_drawing
  walk_at "pl"
  rw [M_is_drawing, h]
  walk_at "pl"
  rfl
theorem M_need_drawing_no (k : Nat) (d : D) (δ : Int × Int) (h : isDrawingD d = false) : run Γ (k + 11) 11 false [d] δ = .exc "InvalidDrawing" δ := by
  rw [r_need_drawing]
  refine run_of (s := ⟨[some (.d d)], δ⟩) rfl rfl ?_
  unfold d_need_drawing
  walk_at "pl"
  rw [M_is_drawing, h]
  walk_at "pl"
  rfl
theorem M_count_points (k : Nat) (d : D) (δ : Int × Int) (h : isDrawingD d = true) : run Γ (k + 12) 12 false [d] δ = .ok (.int (sumD (ptsD 2) d)) δ := by
  rw [r_count_points]
  refine run_of (s := ⟨[some (.d d)], δ⟩) rfl rfl ?_
  unfold d_count_points
  walk_at "pl"
  rw [M_need_drawing k d _ h]
  walk_at "pl"
  rw [show ∀ δ, run Γ (k + 11) 8 false [d] δ = .ok (.int (sumD (ptsD 2) d)) δ from fun δ => M_points_in 2 (k + 8) d δ (and_l h)]
  walk_at "pl"
  rfl
end Tb
set_option maxHeartbeats 2000000
namespace Tb
open PySem PL
def orcD : Orc := fun f dc ds δ => match dc, ds with
  | false, [d] => if f == 2 then some (.ok (.bool (isShapeD d)) δ) else if f == 9 then some (.ok (.bool (isDrawingD d)) δ) else if f == 10 then some (.ok (.bool (isLayD d)) δ)
      else if f == 12 then (if isDrawingD d then some (.ok (.int (sumD (ptsD 2) d)) δ) else none) else none
  | _, _ => none
theorem orcD_ok (k f : Nat) (dc : Bool) (ds : List D) (δ : Int × Int) (r : RC) (h : orcD f dc ds δ = some r) : run Γ (12 + k) f dc ds δ = r := by
  unfold orcD at h
  split at h
  · rename_i d
    split at h
    · rename_i e
      obtain rfl := eq_of_beq e
      cases h
      rw [show 12 + k = (k + 9) + 3 by omega]; exact M_is_shape _ _ _
    · split at h
      · rename_i e
        obtain rfl := eq_of_beq e
        cases h
        rw [show 12 + k = (k + 2) + 10 by omega]; exact M_is_drawing _ _ _
      · split at h
        · rename_i e
          obtain rfl := eq_of_beq e
          cases h
          rw [show 12 + k = (k + 3) + 9 by omega]; exact M_is_layer _ _ _
        · split at h
          · rename_i e
            obtain rfl := eq_of_beq e
            split at h
            · rename_i g
              cases h
              rw [show 12 + k = k + 12 by omega]; exact M_count_points _ _ _ g
            · cases h
          · cases h
  · cases h
theorem run_orcD (n : Nat) : run Γ (12 + n) = orc Γ orcD 12 n := orc_run orcD_ok n
end Tb
set_option maxHeartbeats 2000000
namespace Tb
open PySem PL
local macro_rules | `(tactic| walk_at "pl") => `(tactic| try simp only [↓rb_ok, ↓rb_exc, ↓rb_stuck, ↓rb_bindM, ↓rb_pure, ↓rb_stuckM, ↓rb_some, ↓rb_none, ↓rb_one, ↓rb_one1, ↓rb_asC, ↓rb_bt, ↓rb_bf, ↓rb_fn, ↓rb_fr, ↓rb_fb, ↓rb_fc, ↓rb_take, ↓rb_peek, ↓tk0, ↓tkS, ↓pk0, ↓pkS, ↓tk_d, ↓tk_o, ↓pk_d, ↓pk_o, ↓pk_c, ↓e_nil, ↓e_cons, ↓e_var, ↓e_cst, ↓e_glb, ↓gd0, ↓gd1, ↓gd2, ↓gd3, ↓gd4, ↓gd5, ↓gd6, ↓gd7, ↓gd8, ↓rb_guard, ↓e_tup, ↓e_lst, ↓e_op, ↓e_neg, ↓e_opB, ↓e_cmp, ↓e_cmpL, ↓e_cmpR, ↓e_chain, ↓e_not, ↓e_and, ↓e_or, ↓e_ife, ↓e_call, ↓e_callD, ↓rc0_ok, ↓rc_ok, ↓rc0_if, ↓e_blt, ↓e_bltB, ↓e_isi, ↓e_ix, ↓e_ixB, ↓rb_partF, ↓rb_partT, ↓rb_part, ↓e_slc, ↓e_slcB, ↓rb_itM, ↓e_lc, ↓rb_lcT, ↓t_skip, ↓t_seq, ↓t_asg, ↓t_ife, ↓t_for, ↓for_nil, ↓tg_nm, ↓t_ret, ↓t_expr, ↓t_raise, ↓t_setD, ↓sd0, ↓sd1, ↓dc0, ↓dc1, ↓v_lt, ↓v_le, ↓v_gt, ↓v_ge, ↓v_eqI, ↓v_neI, ↓v_eqS, ↓v_neS, ↓v_isN, ↓v_notN, ↓v_inT, ↓v_notInT, ↓v_add, ↓v_sub, ↓v_mul, ↓v_fdiv, ↓v_mod, ↓v_pow, ↓v_addT, ↓v_addL, ↓v_neg, ↓v_lenL, ↓v_lenT, ↓v_abs, ↓v_tupL, ↓v_tupT, ↓v_all, ↓v_any, ↓v_sum, ↓v_ix0, ↓v_ix1, ↓v_ix2, ↓v_ix3, ↓v_ix4, ↓v_it, ↓v_itL, ↓v_slT, ↓v_slL, RV.toD, RV.toSV, isiB, isiD, Option.getD_some, Bool.not_true, Bool.not_false, reduceCtorEq, List.map_cons, List.map_nil, List.set_cons_zero, List.set_cons_succ])
theorem okMulR {i j : Int} (h1 : -(2 ^ 64) < j) (h2 : j < 2 ^ 64) : okMul i j = true := by
  have h : ¬ (Builtin.Int.intBits j > shortFactorBits) := Nat.not_lt.mpr (intBits_le_64 h1 h2)
  unfold okMul
  rw [decide_eq_false h]; simp
theorem bits_le {m : Nat} {x : Int} (h : x.natAbs < 2 ^ m) : Builtin.Int.intBits x ≤ m := by
  unfold Builtin.Int.intBits
  split
  · omega
  · rename_i g
    have g' : x.natAbs ≠ 0 := fun e => g (by rw [beq_iff_eq]; omega)
    have := (Nat.log2_lt g').mpr h
    omega
theorem okMul_bits {i j : Int} (h1 : i.natAbs < 2 ^ 200) (h2 : j.natAbs < 2 ^ 200) : okMul i j = true := by
  have a := bits_le h1
  have b := bits_le h2
  have c : Builtin.Int.intTooBig (Builtin.Int.intBits i + Builtin.Int.intBits j) = false := by
    unfold Builtin.Int.intTooBig
    rw [decide_eq_false_iff_not]
    have : (300 : Int) + 300 ≤ bitsLine := by decide
    omega
  unfold okMul
  rw [c]; simp
theorem okDiv_small {j : Int} (h0 : j ≠ 0) (h : j.natAbs < 2 ^ 200) : okDiv j = true := by
  unfold okDiv
  have g' : j.natAbs ≠ 0 := by omega
  have := (Nat.log2_lt g').mpr h
  rw [beq_eq_false_iff_ne.mpr h0, decide_eq_true (by omega)]; rfl
theorem v_ixL0 {β : Type} {s : S} {kd : D → M β} {x y : D} : R.bind (optM (ixD (.list [x, y]) (.int 0)) s) kd = kd x s := by
  show R.bind (optM (L2.atI [x, y] ((0 : Nat) : Int)) s) kd = _
  rw [L2.atI_nat (j := 0) (v := x) rfl]; rfl
theorem v_ixL1 {β : Type} {s : S} {kd : D → M β} {x y : D} : R.bind (optM (ixD (.list [x, y]) (.int 1)) s) kd = kd y s := by
  show R.bind (optM (L2.atI [x, y] ((1 : Nat) : Int)) s) kd = _
  rw [L2.atI_nat (j := 1) (v := y) rfl]; rfl
theorem fm_lo {i j : Int} (h : 0 < j) : 0 ≤ i.fmod j := Int.fmod_nonneg_of_pos i h
theorem fm_hi {i j : Int} (h : 0 < j) : i.fmod j < j := Int.fmod_lt_of_pos i h
theorem M_drawn (k : Nat) (c n : Int) (δ : Int × Int) : ∃ t, run Γ (k + 1) 13 false [.int c, .int n] δ = .ok (.int t) δ := by
  rw [r__law_drawn]
  suffices h : ∃ t, endRC (R.bind (evS (run Γ k) d__law_drawn.body ⟨[some (.d (.int c)), some (.d (.int n)), none], δ⟩) fun a s => .ok a s) = .ok (.int t) δ by
    obtain ⟨t, e⟩ := h
    exact ⟨t, run_of (s := ⟨[some (.d (.int c)), some (.d (.int n)), none], δ⟩) rfl rfl e⟩
  unfold d__law_drawn
  walk_at "pl"
  rw [v_mul (okMulR (by decide) (by decide))]
  walk_at "pl"
  rw [v_mul (okMulR (by decide) (by decide))]
  walk_at "pl"
  rw [v_mod (by decide)]
  have a1 := fm_lo (i := c * 6364136223846793005 + (n + 1) * 1442695040888963407) (j := 340282366920938463463374607431768211507) (by decide)
  have a2 := fm_hi (i := c * 6364136223846793005 + (n + 1) * 1442695040888963407) (j := 340282366920938463463374607431768211507) (by decide)
  generalize (c * 6364136223846793005 + (n + 1) * 1442695040888963407).fmod 340282366920938463463374607431768211507 = m1 at a1 a2 ⊢
  walk_at "pl"
  rw [v_mul (okMul_bits (by omega) (by omega))]
  walk_at "pl"
  rw [v_mod (by decide)]
  have b1 := fm_lo (i := m1 * m1) (j := 340282366920938463463374607431768211297) (by decide)
  have b2 := fm_hi (i := m1 * m1) (j := 340282366920938463463374607431768211297) (by decide)
  generalize (m1 * m1).fmod 340282366920938463463374607431768211297 = m2 at b1 b2 ⊢
  walk_at "pl"
  rw [v_mod (by decide)]
  have c1 := fm_lo (i := m2) (j := 18446744073709551557) (by decide)
  have c2 := fm_hi (i := m2) (j := 18446744073709551557) (by decide)
  generalize m2.fmod 18446744073709551557 = m3 at c1 c2 ⊢
  walk_at "pl"
  rw [v_fdiv (okDiv_small (by decide) (by decide)), Int.fdiv_eq_ediv_of_nonneg _ (by decide)]
  walk_at "pl"
  rw [v_mul (okMul_bits (by omega) (by omega))]
  walk_at "pl"
  have e1 : ((m3 + 1) * (m2 / 18446744073709551557 + 1)).natAbs < 2 ^ 200 := by
    rw [Int.natAbs_mul]
    have x1 : (m3 + 1).natAbs < 2 ^ 65 := by omega
    have x2 : (m2 / 18446744073709551557 + 1).natAbs < 2 ^ 65 := by omega
    exact Nat.lt_trans (Nat.mul_lt_mul'' x1 x2) (by decide)
  rw [v_mul (okMul_bits e1 (by omega))]
  walk_at "pl"
  rw [v_mod (by decide)]
  walk_at "pl"
  exact ⟨_, rfl⟩
theorem M_roll (k : Nat) (m : Int) (δ : Int × Int) (h0 : 0 < m) (h1 : m < 2 ^ 64) : ∃ t δ', run Γ (k + 2) 14 true [.int m] δ = .ok (.int t) δ' ∧ 0 ≤ t ∧ t < m := by
  obtain ⟨c, n⟩ := δ
  rw [r__law_roll]
  suffices h : ∃ t δ', endRC (R.bind (evS (run Γ (k + 1)) d__law_roll.body ⟨[some .dice, some (.d (.int m)), none], (c, n)⟩) fun a s => .ok a s) = .ok (.int t) δ' ∧ 0 ≤ t ∧ t < m by
    obtain ⟨t, δ', e, r⟩ := h
    exact ⟨t, δ', run_of (s := ⟨[some .dice, some (.d (.int m)), none], (c, n)⟩) rfl rfl e, r⟩
  unfold d__law_roll
  walk_at "pl"
  rw [v_ixL0]
  walk_at "pl"
  rw [v_pow (by decide)]
  walk_at "pl"
  by_cases g : (10 : Int) ^ (18 : Int).toNat ≤ c
  · rw [decide_eq_true g]
    walk_at "pl"
    rw [v_ixL0]
    walk_at "pl"
    rw [v_mod (by omega)]
    walk_at "pl"
    rw [v_ixL0]
    walk_at "pl"
    rw [v_fdiv (okDiv_small (by omega) (by omega))]
    walk_at "pl"
    exact ⟨_, _, rfl, fm_lo h0, fm_hi h0⟩
  · rw [decide_eq_false g]
    walk_at "pl"
    rw [v_ixL1]
    walk_at "pl"
    rw [v_ixL0]
    walk_at "pl"
    rw [v_ixL1]
    walk_at "pl"
    obtain ⟨t, e⟩ := M_drawn k c (n + 1) (0, 0)
    rw [e]
    walk_at "pl"
    rw [v_fdiv (okDiv_small (by decide) (by decide))]
    walk_at "pl"
    rw [v_mod (by omega)]
    walk_at "pl"
    exact ⟨_, _, rfl, fm_lo h0, fm_hi h0⟩
end Tb
set_option maxHeartbeats 2000000
namespace Tb
open PySem PL
local macro_rules | `(tactic| walk_at "pl") => `(tactic| try simp only [↓rb_ok, ↓rb_exc, ↓rb_stuck, ↓rb_bindM, ↓rb_pure, ↓rb_stuckM, ↓rb_some, ↓rb_none, ↓rb_one, ↓rb_one1, ↓rb_asC, ↓rb_bt, ↓rb_bf, ↓rb_fn, ↓rb_fr, ↓rb_fb, ↓rb_fc, ↓rb_take, ↓rb_peek, ↓tk0, ↓tkS, ↓pk0, ↓pkS, ↓tk_d, ↓tk_o, ↓pk_d, ↓pk_o, ↓pk_c, ↓e_nil, ↓e_cons, ↓e_var, ↓e_cst, ↓e_glb, ↓gd0, ↓gd1, ↓gd2, ↓gd3, ↓gd4, ↓gd5, ↓gd6, ↓gd7, ↓gd8, ↓rb_guard, ↓e_tup, ↓e_lst, ↓e_op, ↓e_neg, ↓e_opB, ↓e_cmp, ↓e_cmpL, ↓e_cmpR, ↓e_chain, ↓e_not, ↓e_and, ↓e_or, ↓e_ife, ↓e_call, ↓e_callD, ↓rc0_ok, ↓rc_ok, ↓rc0_if, ↓e_blt, ↓e_bltB, ↓e_isi, ↓e_ix, ↓e_ixB, ↓rb_partF, ↓rb_partT, ↓rb_part, ↓e_slc, ↓e_slcB, ↓rb_itM, ↓e_lc, ↓rb_lcT, ↓t_skip, ↓t_seq, ↓t_asg, ↓t_ife, ↓t_for, ↓for_nil, ↓tg_nm, ↓t_ret, ↓t_expr, ↓t_raise, ↓t_setD, ↓sd0, ↓sd1, ↓dc0, ↓dc1, ↓v_lt, ↓v_le, ↓v_gt, ↓v_ge, ↓v_eqI, ↓v_neI, ↓v_eqS, ↓v_neS, ↓v_isN, ↓v_notN, ↓v_inT, ↓v_notInT, ↓v_add, ↓v_sub, ↓v_mul, ↓v_fdiv, ↓v_mod, ↓v_pow, ↓v_addT, ↓v_addL, ↓v_neg, ↓v_lenL, ↓v_lenT, ↓v_abs, ↓v_tupL, ↓v_tupT, ↓v_all, ↓v_any, ↓v_sum, ↓v_ix0, ↓v_ix1, ↓v_ix2, ↓v_ix3, ↓v_ix4, ↓v_it, ↓v_itL, ↓v_slT, ↓v_slL, RV.toD, RV.toSV, isiB, isiD, Option.getD_some, Bool.not_true, Bool.not_false, reduceCtorEq, List.map_cons, List.map_nil, List.set_cons_zero, List.set_cons_succ])
def loop47 (a : Int) : D := .tuple [.tuple [.int 0, .int 0], .tuple [.int 9, .int 0], .tuple [.int (-9), .int (1 + a)]]
def fill47 (a b : Int) : D := .tuple [.str "fill", .tuple [.str "odd", .tuple [loop47 a]], .tuple [.int 0, .int 9, .int b], .tuple [.int 6, .int 6]]
theorem start47 (c : Int) : ∃ (a b : Int) (δ : Int × Int), 0 ≤ a ∧ a < (9 : Nat) ∧ 0 ≤ b ∧ b < (10 : Nat) ∧ evS (run Γ 20) lawBody (roundS N_law.length 1 c) = evS (run Γ 20) (dropS 2 lawBody) ⟨[none, some .dice, some (.d (loop47 a)), some (.d (fill47 a b)), none, none, none], δ⟩ := by
  obtain ⟨a, δ1, e1, l1, u1⟩ := M_roll 18 9 (c, 0) (by decide) (by decide)
  obtain ⟨b, δ2, e2, l2, u2⟩ := M_roll 18 10 δ1 (by decide) (by decide)
  refine ⟨a, b, δ2, l1, u1, l2, u2, ?_⟩
  rw [← rb_self (evS _ _ _), ← rb_self (evS _ (dropS 2 lawBody) _)]
  unfold lawBody
  generalize hr : IS.seq (.asg 4 _) _ = rest
  show R.bind (evS (run Γ 20) _ ⟨[none, some .dice, none, none, none, none, none], (c, 0)⟩) _ = R.bind (evS (run Γ 20) rest _) _
  walk_at "pl"
  rw [e1]
  walk_at "pl"
  rw [e2]
  walk_at "pl"
  rfl
def ck47 (δ : Int × Int) (a b : Int) : Bool := fine 7 (evS (orc Γ orcD 12 8) (dropS 2 lawBody) ⟨[none, some .dice, some (.d (loop47 a)), some (.d (fill47 a b)), none, none, none], δ⟩)
theorem ck47_0 (δ : Int × Int) : ((List.range 10).all fun (b : Nat) => ck47 δ 0 b) = true := by kernel_rfl
theorem ck47_1 (δ : Int × Int) : ((List.range 10).all fun (b : Nat) => ck47 δ 1 b) = true := by kernel_rfl
theorem ck47_2 (δ : Int × Int) : ((List.range 10).all fun (b : Nat) => ck47 δ 2 b) = true := by kernel_rfl
theorem ck47_3 (δ : Int × Int) : ((List.range 10).all fun (b : Nat) => ck47 δ 3 b) = true := by kernel_rfl
theorem ck47_4 (δ : Int × Int) : ((List.range 10).all fun (b : Nat) => ck47 δ 4 b) = true := by kernel_rfl
theorem ck47_5 (δ : Int × Int) : ((List.range 10).all fun (b : Nat) => ck47 δ 5 b) = true := by kernel_rfl
theorem ck47_6 (δ : Int × Int) : ((List.range 10).all fun (b : Nat) => ck47 δ 6 b) = true := by kernel_rfl
theorem ck47_7 (δ : Int × Int) : ((List.range 10).all fun (b : Nat) => ck47 δ 7 b) = true := by kernel_rfl
theorem ck47_8 (δ : Int × Int) : ((List.range 10).all fun (b : Nat) => ck47 δ 8 b) = true := by kernel_rfl
theorem ck47_all (δ : Int × Int) {a b : Int} (a0 : 0 ≤ a) (a1 : a < (9 : Nat)) (b0 : 0 ≤ b) (b1 : b < (10 : Nat)) : ck47 δ a b = true := by
  have : a = 0 ∨ a = 1 ∨ a = 2 ∨ a = 3 ∨ a = 4 ∨ a = 5 ∨ a = 6 ∨ a = 7 ∨ a = 8 := by omega
  rcases this with rfl | rfl | rfl | rfl | rfl | rfl | rfl | rfl | rfl
  · exact all_of (p := ck47 δ 0) (ck47_0 δ) b0 b1
  · exact all_of (p := ck47 δ 1) (ck47_1 δ) b0 b1
  · exact all_of (p := ck47 δ 2) (ck47_2 δ) b0 b1
  · exact all_of (p := ck47 δ 3) (ck47_3 δ) b0 b1
  · exact all_of (p := ck47 δ 4) (ck47_4 δ) b0 b1
  · exact all_of (p := ck47 δ 5) (ck47_5 δ) b0 b1
  · exact all_of (p := ck47 δ 6) (ck47_6 δ) b0 b1
  · exact all_of (p := ck47 δ 7) (ck47_7 δ) b0 b1
  · exact all_of (p := ck47 δ 8) (ck47_8 δ) b0 b1
theorem hall : ∀ c : Int, ∃ s', evS (run Γ 20) lawBody (roundS N_law.length 1 c) = .ok .next s' ∧ s'.ρ.length = N_law.length := by
  intro c
  obtain ⟨a, b, δ, a0, a1, b0, b1, e⟩ := start47 c
  rw [e]
  refine fine_ex (n := 7) ?_
  rw [show run Γ 20 = orc Γ orcD 12 8 from run_orcD 8]
  exact ck47_all δ a0 a1 b0 b1
end Tb
set_option maxHeartbeats 4000000
namespace Tb
open PySem PySem.Spec PyProof.Rows L2 PL
theorem all_mk {l : PySem.W.OpenLaw} {w : World} {K : PySem.W.Frag} {h : Heap} {mg : Str → Option Value} {fa : Addr} (X : K.In h) (G : h.Ns mainGlobals mg) (hfa : mg "law" = some (.ref fa))
    {f0 : Addr} {od0 an0 : Option Addr} {sl0 : Array (Option Value)} {oc0 kV0 dc0 pm0 cd0 ct0 : Value} (a0 : PySem.W.nsIn K mainGlobals "is_whole" = some (some (.ref f0))) (l0 : K.lookup f0 = some ⟨oc0, od0, .func (PySem.W.fnOf "is_whole" "is_whole" (defArgs s_is_whole) (defBody s_is_whole) (defScope s_is_whole) .none kV0 dc0 pm0 an0 cd0 ct0), sl0⟩) (c0 : PySem.W.codeIn K cd0 "is_whole" = true) (k0 : PySem.W.keepIn K (.ref f0) = true)
    {f1 : Addr} {od1 an1 : Option Addr} {sl1 : Array (Option Value)} {oc1 kV1 dc1 pm1 cd1 ct1 : Value} (a1 : PySem.W.nsIn K mainGlobals "is_loop" = some (some (.ref f1))) (l1 : K.lookup f1 = some ⟨oc1, od1, .func (PySem.W.fnOf "is_loop" "is_loop" (defArgs s_is_loop) (defBody s_is_loop) (defScope s_is_loop) .none kV1 dc1 pm1 an1 cd1 ct1), sl1⟩) (c1 : PySem.W.codeIn K cd1 "is_loop" = true) (k1 : PySem.W.keepIn K (.ref f1) = true)
    {f2 : Addr} {od2 an2 : Option Addr} {sl2 : Array (Option Value)} {oc2 kV2 dc2 pm2 cd2 ct2 : Value} (a2 : PySem.W.nsIn K mainGlobals "is_shape" = some (some (.ref f2))) (l2 : K.lookup f2 = some ⟨oc2, od2, .func (PySem.W.fnOf "is_shape" "is_shape" (defArgs s_is_shape) (defBody s_is_shape) (defScope s_is_shape) .none kV2 dc2 pm2 an2 cd2 ct2), sl2⟩) (c2 : PySem.W.codeIn K cd2 "is_shape" = true) (k2 : PySem.W.keepIn K (.ref f2) = true)
    {f3 : Addr} {od3 an3 : Option Addr} {sl3 : Array (Option Value)} {oc3 kV3 dc3 pm3 cd3 ct3 : Value} (a3 : PySem.W.nsIn K mainGlobals "is_colour" = some (some (.ref f3))) (l3 : K.lookup f3 = some ⟨oc3, od3, .func (PySem.W.fnOf "is_colour" "is_colour" (defArgs s_is_colour) (defBody s_is_colour) (defScope s_is_colour) .none kV3 dc3 pm3 an3 cd3 ct3), sl3⟩) (c3 : PySem.W.codeIn K cd3 "is_colour" = true) (k3 : PySem.W.keepIn K (.ref f3) = true)
    {f4 : Addr} {od4 an4 : Option Addr} {sl4 : Array (Option Value)} {oc4 kV4 dc4 pm4 cd4 ct4 : Value} (a4 : PySem.W.nsIn K mainGlobals "is_opacity" = some (some (.ref f4))) (l4 : K.lookup f4 = some ⟨oc4, od4, .func (PySem.W.fnOf "is_opacity" "is_opacity" (defArgs s_is_opacity) (defBody s_is_opacity) (defScope s_is_opacity) .none kV4 dc4 pm4 an4 cd4 ct4), sl4⟩) (c4 : PySem.W.codeIn K cd4 "is_opacity" = true) (k4 : PySem.W.keepIn K (.ref f4) = true)
    {f5 : Addr} {od5 an5 : Option Addr} {sl5 : Array (Option Value)} {oc5 kV5 dc5 pm5 cd5 ct5 : Value} (a5 : PySem.W.nsIn K mainGlobals "is_matrix" = some (some (.ref f5))) (l5 : K.lookup f5 = some ⟨oc5, od5, .func (PySem.W.fnOf "is_matrix" "is_matrix" (defArgs s_is_matrix) (defBody s_is_matrix) (defScope s_is_matrix) .none kV5 dc5 pm5 an5 cd5 ct5), sl5⟩) (c5 : PySem.W.codeIn K cd5 "is_matrix" = true) (k5 : PySem.W.keepIn K (.ref f5) = true)
    {f6 : Addr} {od6 an6 : Option Addr} {sl6 : Array (Option Value)} {oc6 kV6 dc6 pm6 cd6 ct6 : Value} (a6 : PySem.W.nsIn K mainGlobals "is_layer_within" = some (some (.ref f6))) (l6 : K.lookup f6 = some ⟨oc6, od6, .func (PySem.W.fnOf "is_layer_within" "is_layer_within" (defArgs s_is_layer_within) (defBody s_is_layer_within) (defScope s_is_layer_within) .none kV6 dc6 pm6 an6 cd6 ct6), sl6⟩) (c6 : PySem.W.codeIn K cd6 "is_layer_within" = true) (k6 : PySem.W.keepIn K (.ref f6) = true)
    {f7 : Addr} {od7 an7 : Option Addr} {sl7 : Array (Option Value)} {oc7 kV7 dc7 pm7 cd7 ct7 : Value} (a7 : PySem.W.nsIn K mainGlobals "are_layers" = some (some (.ref f7))) (l7 : K.lookup f7 = some ⟨oc7, od7, .func (PySem.W.fnOf "are_layers" "are_layers" (defArgs s_are_layers) (defBody s_are_layers) (defScope s_are_layers) .none kV7 dc7 pm7 an7 cd7 ct7), sl7⟩) (c7 : PySem.W.codeIn K cd7 "are_layers" = true) (k7 : PySem.W.keepIn K (.ref f7) = true)
    {f8 : Addr} {od8 an8 : Option Addr} {sl8 : Array (Option Value)} {oc8 kV8 dc8 pm8 cd8 ct8 : Value} (a8 : PySem.W.nsIn K mainGlobals "points_in" = some (some (.ref f8))) (l8 : K.lookup f8 = some ⟨oc8, od8, .func (PySem.W.fnOf "points_in" "points_in" (defArgs s_points_in) (defBody s_points_in) (defScope s_points_in) .none kV8 dc8 pm8 an8 cd8 ct8), sl8⟩) (c8 : PySem.W.codeIn K cd8 "points_in" = true) (k8 : PySem.W.keepIn K (.ref f8) = true)
    {f9 : Addr} {od9 an9 : Option Addr} {sl9 : Array (Option Value)} {oc9 kV9 dc9 pm9 cd9 ct9 : Value} (a9 : PySem.W.nsIn K mainGlobals "is_drawing" = some (some (.ref f9))) (l9 : K.lookup f9 = some ⟨oc9, od9, .func (PySem.W.fnOf "is_drawing" "is_drawing" (defArgs s_is_drawing) (defBody s_is_drawing) (defScope s_is_drawing) .none kV9 dc9 pm9 an9 cd9 ct9), sl9⟩) (c9 : PySem.W.codeIn K cd9 "is_drawing" = true) (k9 : PySem.W.keepIn K (.ref f9) = true)
    {f10 : Addr} {od10 an10 : Option Addr} {sl10 : Array (Option Value)} {oc10 kV10 dc10 pm10 cd10 ct10 : Value} (a10 : PySem.W.nsIn K mainGlobals "is_layer" = some (some (.ref f10))) (l10 : K.lookup f10 = some ⟨oc10, od10, .func (PySem.W.fnOf "is_layer" "is_layer" (defArgs s_is_layer) (defBody s_is_layer) (defScope s_is_layer) .none kV10 dc10 pm10 an10 cd10 ct10), sl10⟩) (c10 : PySem.W.codeIn K cd10 "is_layer" = true) (k10 : PySem.W.keepIn K (.ref f10) = true)
    {f11 : Addr} {od11 an11 : Option Addr} {sl11 : Array (Option Value)} {oc11 kV11 dc11 pm11 cd11 ct11 : Value} (a11 : PySem.W.nsIn K mainGlobals "need_drawing" = some (some (.ref f11))) (l11 : K.lookup f11 = some ⟨oc11, od11, .func (PySem.W.fnOf "need_drawing" "need_drawing" (defArgs s_need_drawing) (defBody s_need_drawing) (defScope s_need_drawing) .none kV11 dc11 pm11 an11 cd11 ct11), sl11⟩) (c11 : PySem.W.codeIn K cd11 "need_drawing" = true) (k11 : PySem.W.keepIn K (.ref f11) = true)
    {f12 : Addr} {od12 an12 : Option Addr} {sl12 : Array (Option Value)} {oc12 kV12 dc12 pm12 cd12 ct12 : Value} (a12 : PySem.W.nsIn K mainGlobals "count_points" = some (some (.ref f12))) (l12 : K.lookup f12 = some ⟨oc12, od12, .func (PySem.W.fnOf "count_points" "count_points" (defArgs s_count_points) (defBody s_count_points) (defScope s_count_points) .none kV12 dc12 pm12 an12 cd12 ct12), sl12⟩) (c12 : PySem.W.codeIn K cd12 "count_points" = true) (k12 : PySem.W.keepIn K (.ref f12) = true)
    {f13 : Addr} {od13 an13 : Option Addr} {sl13 : Array (Option Value)} {oc13 kV13 dc13 pm13 cd13 ct13 : Value} (a13 : PySem.W.nsIn K mainGlobals "_law_drawn" = some (some (.ref f13))) (l13 : K.lookup f13 = some ⟨oc13, od13, .func (PySem.W.fnOf "_law_drawn" "_law_drawn" (defArgs s__law_drawn) (defBody s__law_drawn) (defScope s__law_drawn) .none kV13 dc13 pm13 an13 cd13 ct13), sl13⟩) (c13 : PySem.W.codeIn K cd13 "_law_drawn" = true) (k13 : PySem.W.keepIn K (.ref f13) = true)
    {f14 : Addr} {od14 an14 : Option Addr} {sl14 : Array (Option Value)} {oc14 kV14 dc14 pm14 cd14 ct14 : Value} (a14 : PySem.W.nsIn K mainGlobals "_law_roll" = some (some (.ref f14))) (l14 : K.lookup f14 = some ⟨oc14, od14, .func (PySem.W.fnOf "_law_roll" "_law_roll" (defArgs s__law_roll) (defBody s__law_roll) (defScope s__law_roll) .none kV14 dc14 pm14 an14 cd14 ct14), sl14⟩) (c14 : PySem.W.codeIn K cd14 "_law_roll" = true) (k14 : PySem.W.keepIn K (.ref f14) = true)
    {f15 : Addr} {od15 an15 : Option Addr} {sl15 : Array (Option Value)} {oc15 kV15 dc15 pm15 cd15 ct15 : Value} (a15 : PySem.W.nsIn K mainGlobals "_law_group" = some (some (.ref f15))) (l15 : K.lookup f15 = some ⟨oc15, od15, .func (PySem.W.fnOf "_law_group" "_law_group" (defArgs s__law_group) (defBody s__law_group) (defScope s__law_group) .none kV15 dc15 pm15 an15 cd15 ct15), sl15⟩) (c15 : PySem.W.codeIn K cd15 "_law_group" = true) (k15 : PySem.W.keepIn K (.ref f15) = true)
    {f16 : Addr} {od16 an16 : Option Addr} {sl16 : Array (Option Value)} {oc16 kV16 dc16 pm16 cd16 ct16 : Value} (a16 : PySem.W.nsIn K mainGlobals "_law_right_matrices" = some (some (.ref f16))) (l16 : K.lookup f16 = some ⟨oc16, od16, .func (PySem.W.fnOf "_law_right_matrices" "_law_right_matrices" (defArgs s__law_right_matrices) (defBody s__law_right_matrices) (defScope s__law_right_matrices) .none kV16 dc16 pm16 an16 cd16 ct16), sl16⟩) (c16 : PySem.W.codeIn K cd16 "_law_right_matrices" = true) (k16 : PySem.W.keepIn K (.ref f16) = true)
    {f17 : Addr} {od17 an17 : Option Addr} {sl17 : Array (Option Value)} {oc17 kV17 dc17 pm17 cd17 ct17 : Value} (a17 : PySem.W.nsIn K mainGlobals "_law_right_parts" = some (some (.ref f17))) (l17 : K.lookup f17 = some ⟨oc17, od17, .func (PySem.W.fnOf "_law_right_parts" "_law_right_parts" (defArgs s__law_right_parts) (defBody s__law_right_parts) (defScope s__law_right_parts) .none kV17 dc17 pm17 an17 cd17 ct17), sl17⟩) (c17 : PySem.W.codeIn K cd17 "_law_right_parts" = true) (k17 : PySem.W.keepIn K (.ref f17) = true)
    {f18 : Addr} {od18 an18 : Option Addr} {sl18 : Array (Option Value)} {oc18 kV18 dc18 pm18 cd18 ct18 : Value} (a18 : PySem.W.nsIn K mainGlobals "_law_right_sizes" = some (some (.ref f18))) (l18 : K.lookup f18 = some ⟨oc18, od18, .func (PySem.W.fnOf "_law_right_sizes" "_law_right_sizes" (defArgs s__law_right_sizes) (defBody s__law_right_sizes) (defScope s__law_right_sizes) .none kV18 dc18 pm18 an18 cd18 ct18), sl18⟩) (c18 : PySem.W.codeIn K cd18 "_law_right_sizes" = true) (k18 : PySem.W.keepIn K (.ref f18) = true)
    {f19 : Addr} {od19 an19 : Option Addr} {sl19 : Array (Option Value)} {oc19 kV19 dc19 pm19 cd19 ct19 : Value} (a19 : PySem.W.nsIn K mainGlobals "_law_cell" = some (some (.ref f19))) (l19 : K.lookup f19 = some ⟨oc19, od19, .func (PySem.W.fnOf "_law_cell" "_law_cell" (defArgs s__law_cell) (defBody s__law_cell) (defScope s__law_cell) .none kV19 dc19 pm19 an19 cd19 ct19), sl19⟩) (c19 : PySem.W.codeIn K cd19 "_law_cell" = true) (k19 : PySem.W.keepIn K (.ref f19) = true)
    {f20 : Addr} {od20 an20 : Option Addr} {sl20 : Array (Option Value)} {oc20 kV20 dc20 pm20 cd20 ct20 : Value} (a20 : PySem.W.nsIn K mainGlobals "_law_rounds" = some (some (.ref f20))) (l20 : K.lookup f20 = some ⟨oc20, od20, .func (PySem.W.fnOf "_law_rounds" "_law_rounds" (defArgs s__law_rounds) (defBody s__law_rounds) (defScope s__law_rounds) .none kV20 dc20 pm20 an20 cd20 ct20), sl20⟩) (c20 : PySem.W.codeIn K cd20 "_law_rounds" = true) (k20 : PySem.W.keepIn K (.ref f20) = true)
    {f21 : Addr} {od21 an21 : Option Addr} {sl21 : Array (Option Value)} {oc21 kV21 dc21 pm21 cd21 ct21 : Value} (a21 : PySem.W.nsIn K mainGlobals "law" = some (some (.ref f21))) (l21 : K.lookup f21 = some ⟨oc21, od21, .func (PySem.W.fnOf "law" "law" (defArgs s_law) (defBody s_law) (defScope s_law) .none kV21 dc21 pm21 an21 cd21 ct21), sl21⟩) (c21 : PySem.W.codeIn K cd21 "law" = true) (k21 : PySem.W.keepIn K (.ref f21) = true)
    (z0 : PySem.W.nsIn K mainGlobals "isinstance" = some none)
    (z1 : PySem.W.nsIn K mainGlobals "len" = some none)
    (z2 : PySem.W.nsIn K mainGlobals "all" = some none)
    (z3 : PySem.W.nsIn K mainGlobals "sum" = some none)
    (z4 : PySem.W.nsIn K mainGlobals "max" = some none)
    (z5 : PySem.W.nsIn K mainGlobals "min" = some none)
    (z6 : PySem.W.nsIn K mainGlobals "tuple" = some none)
    (z7 : PySem.W.nsIn K mainGlobals "int" = some none)
    (z8 : PySem.W.nsIn K mainGlobals "bool" = some none)
    (z9 : PySem.W.nsIn K mainGlobals "str" = some none)
    (z10 : PySem.W.nsIn K mainGlobals "range" = some none)
    {gt0 : Tok} (cg0 : PySem.W.nsIn K mainGlobals "MOST_POINTS" = some (some (.int 60 gt0)))
    {C0 : Addr} (ea0 : PySem.W.nsIn K mainGlobals "InvalidDrawing" = some (some (.ref C0))) (ex0 : PySem.W.excIn K C0 [.type "ValueError", .type "Exception", .type "BaseException", .type "object"] "ValueError.__new__" = true) (ek0 : PySem.W.keepIn K (.ref C0) = true) (eb0 : PySem.W.subIn K (.ref C0) (.type "BaseException") = some true) (et0 : PySem.W.typeIn K (.ref C0) = some (.type "type"))
    (hall : ∀ c : Int, ∃ s', evS (run Γ 20) lawBody (roundS N_law.length 1 c) = .ok .next s' ∧ s'.ρ.length = N_law.length) :
    ∃ fd : FuncData, (∀ (s : Shared) (v : Value), BindsTo s fd ⟨[v], []⟩ [("script", v)]) ∧ ∀ base : Heap, K.In base → base.Ns mainGlobals mg → FnOk l.prog w K mg base (L2.CX l.prog w) 21 fa fd ["script"] (spLaw K) := by
  have e := hfa.symm.trans (PySem.W.mg_of X G a21)
  cases e
  refine ⟨PySem.W.fnOf "law" "law" (defArgs s_law) (defBody s_law) (defScope s_law) .none kV21 dc21 pm21 an21 cd21 ct21, fun s v => .of_eq rfl, fun base _ _ => ?_⟩
  have T : TabOk g l.prog w K mg base (run Γ 20) 20 := tab_ok2 (g := g) (Γ := Γ) (AllZ.cons rfl (in_is_whole X G a0 l0 c0 k0) (AllZ.cons rfl (in_is_loop X G a1 l1 c1 k1) (AllZ.cons rfl (in_is_shape X G a2 l2 c2 k2) (AllZ.cons rfl (in_is_colour X G a3 l3 c3 k3) (AllZ.cons rfl (in_is_opacity X G a4 l4 c4 k4) (AllZ.cons rfl (in_is_matrix X G a5 l5 c5 k5) (AllZ.cons rfl (in_is_layer_within X G a6 l6 c6 k6) (AllZ.cons rfl (in_are_layers X G a7 l7 c7 k7) (AllZ.cons rfl (in_points_in X G a8 l8 c8 k8) (AllZ.cons rfl (in_is_drawing X G a9 l9 c9 k9) (AllZ.cons rfl (in_is_layer X G a10 l10 c10 k10) (AllZ.cons rfl (in_need_drawing X G a11 l11 c11 k11) (AllZ.cons rfl (in_count_points X G a12 l12 c12 k12) (AllZ.cons rfl (in__law_drawn X G a13 l13 c13 k13) (AllZ.cons rfl (in__law_roll X G a14 l14 c14 k14) (AllZ.cons rfl (in__law_group X G a15 l15 c15 k15) (AllZ.cons rfl (in__law_right_matrices X G a16 l16 c16 k16) (AllZ.cons rfl (in__law_right_parts X G a17 l17 c17 k17) (AllZ.cons rfl (in__law_right_sizes X G a18 l18 c18 k18) AllZ.nil))))))))))))))))))) (AllP.cons (⟨.int 60, _, PySem.W.mg_of X G cg0, ⟨_, rfl⟩, fun _ => .int _⟩) AllP.nil) (AllP.cons ((PySem.W.mg_none_of X G z0)) (AllP.cons ((PySem.W.mg_none_of X G z1)) (AllP.cons ((PySem.W.mg_none_of X G z2)) (AllP.cons ((PySem.W.mg_none_of X G z3)) (AllP.cons ((PySem.W.mg_none_of X G z4)) (AllP.cons ((PySem.W.mg_none_of X G z5)) (AllP.cons ((PySem.W.mg_none_of X G z6)) (AllP.cons ((PySem.W.mg_none_of X G z7)) (AllP.cons ((PySem.W.mg_none_of X G z8)) (AllP.cons ((PySem.W.mg_none_of X G z9)) (AllP.cons ((PySem.W.mg_none_of X G z10)) AllP.nil))))))))))) (AllP.cons (⟨C0, _, _, _, _, PySem.F.excBase_ValueError, ex0, PySem.W.mg_of X G ea0, ek0, eb0, et0⟩) AllP.nil) 20
  have FC := fun_mk (st := s__law_cell) l19 c19 k19
  have FR := fun_mk (st := s__law_rounds) l20 c20 k20
  have FL := fun_mk (st := s_law) l21 c21 k21
  have bC := FC.binds (ps := ["script", "k"]) fun _ _ _ _ _ _ us hl => match us, hl with | [_, _], _ => rfl
  have bR := FR.binds (ps := ["script", "most"]) fun _ _ _ _ _ _ us hl => match us, hl with | [_, _], _ => rfl
  exact ok_law (k := 18) FL FR bR (PySem.W.mg_of X G a20) (ok_rounds (k := 0) FR FC bC (PySem.W.mg_of X G a19) (PySem.W.mg_none_of X G z1) (PySem.W.mg_none_of X G z4) (PySem.W.mg_none_of X G z5) (PySem.W.mg_none_of X G z10)) T hall
end Tb
open PySem PySem.W PyProof.Rows
set_option maxHeartbeats 0 in
theorem PySem.Challenge.cw_samepictures_k47_whole_layers_at_bounds_holds : PySem.Challenge.rw_samepictures_k47_whole_layers_at_bounds.Holds := by
  w_on; o_law; k_head; (case hw => w_witness2)
  k_fill
  refine L2.walk_of (l := PySem.Challenge.rw_samepictures_k47_whole_layers_at_bounds) (n := 63) (k := 21) (x := "script") (CX := fun w => L2.CX PySem.Challenge.rw_samepictures_k47_whole_layers_at_bounds.prog w) (sp := fun w => PL.spLaw _) rfl (by decide) rfl ⟨rfl, by decide, by decide⟩ (fun w h Y => PySem.W.kIn_of Y) ?F (fun _ _ a ns hl _ hS => ⟨a, ns, rfl, hS, hl, fun _ => rfl⟩) (fun _ _ _ _ _ h => by obtain ⟨_, _, _, _, _, _, _, _, _, _, _, _, z⟩ := h; exact z)
  case F =>
    intro w mg fa h KX G hmg
    refine' Tb.all_mk KX G hmg ?a0 ?l0 ?c0 ?k0 ?a1 ?l1 ?c1 ?k1 ?a2 ?l2 ?c2 ?k2 ?a3 ?l3 ?c3 ?k3 ?a4 ?l4 ?c4 ?k4 ?a5 ?l5 ?c5 ?k5 ?a6 ?l6 ?c6 ?k6 ?a7 ?l7 ?c7 ?k7 ?a8 ?l8 ?c8 ?k8 ?a9 ?l9 ?c9 ?k9 ?a10 ?l10 ?c10 ?k10 ?a11 ?l11 ?c11 ?k11 ?a12 ?l12 ?c12 ?k12 ?a13 ?l13 ?c13 ?k13 ?a14 ?l14 ?c14 ?k14 ?a15 ?l15 ?c15 ?k15 ?a16 ?l16 ?c16 ?k16 ?a17 ?l17 ?c17 ?k17 ?a18 ?l18 ?c18 ?k18 ?a19 ?l19 ?c19 ?k19 ?a20 ?l20 ?c20 ?k20 ?a21 ?l21 ?c21 ?k21 ?z0 ?z1 ?z2 ?z3 ?z4 ?z5 ?z6 ?z7 ?z8 ?z9 ?z10 ?cg0 ?ea0 ?ex0 ?ek0 ?eb0 ?et0 Tb.hall
    (case a0 => k_is)
    (case l0 => k_is)
    (case c0 => k_is)
    (case k0 => k_is)
    (case a1 => k_is)
    (case l1 => k_is)
    (case c1 => k_is)
    (case k1 => k_is)
    (case a2 => k_is)
    (case l2 => k_is)
    (case c2 => k_is)
    (case k2 => k_is)
    (case a3 => k_is)
    (case l3 => k_is)
    (case c3 => k_is)
    (case k3 => k_is)
    (case a4 => k_is)
    (case l4 => k_is)
    (case c4 => k_is)
    (case k4 => k_is)
    (case a5 => k_is)
    (case l5 => k_is)
    (case c5 => k_is)
    (case k5 => k_is)
    (case a6 => k_is)
    (case l6 => k_is)
    (case c6 => k_is)
    (case k6 => k_is)
    (case a7 => k_is)
    (case l7 => k_is)
    (case c7 => k_is)
    (case k7 => k_is)
    (case a8 => k_is)
    (case l8 => k_is)
    (case c8 => k_is)
    (case k8 => k_is)
    (case a9 => k_is)
    (case l9 => k_is)
    (case c9 => k_is)
    (case k9 => k_is)
    (case a10 => k_is)
    (case l10 => k_is)
    (case c10 => k_is)
    (case k10 => k_is)
    (case a11 => k_is)
    (case l11 => k_is)
    (case c11 => k_is)
    (case k11 => k_is)
    (case a12 => k_is)
    (case l12 => k_is)
    (case c12 => k_is)
    (case k12 => k_is)
    (case a13 => k_is)
    (case l13 => k_is)
    (case c13 => k_is)
    (case k13 => k_is)
    (case a14 => k_is)
    (case l14 => k_is)
    (case c14 => k_is)
    (case k14 => k_is)
    (case a15 => k_is)
    (case l15 => k_is)
    (case c15 => k_is)
    (case k15 => k_is)
    (case a16 => k_is)
    (case l16 => k_is)
    (case c16 => k_is)
    (case k16 => k_is)
    (case a17 => k_is)
    (case l17 => k_is)
    (case c17 => k_is)
    (case k17 => k_is)
    (case a18 => k_is)
    (case l18 => k_is)
    (case c18 => k_is)
    (case k18 => k_is)
    (case a19 => k_is)
    (case l19 => k_is)
    (case c19 => k_is)
    (case k19 => k_is)
    (case a20 => k_is)
    (case l20 => k_is)
    (case c20 => k_is)
    (case k20 => k_is)
    (case a21 => k_is)
    (case l21 => k_is)
    (case c21 => k_is)
    (case k21 => k_is)
    (case z0 => k_is)
    (case z1 => k_is)
    (case z2 => k_is)
    (case z3 => k_is)
    (case z4 => k_is)
    (case z5 => k_is)
    (case z6 => k_is)
    (case z7 => k_is)
    (case z8 => k_is)
    (case z9 => k_is)
    (case z10 => k_is)
    (case cg0 => k_is)
    (case ea0 => k_is)
    (case ex0 => k_exc)
    (case ek0 => k_is)
    (case eb0 => k_is)
    (case et0 => k_is)
