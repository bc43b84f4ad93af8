/-  An evaluator of translated code on data without memory: definitions. (One operation: 'stepD'. Code: 'evC'. A call that is carried out in place: 'evI'.) -/
import Derived.Test.YtpdlcbmnmeihoaaGreatDoorBFA
set_option linter.unusedVariables false
set_option linter.unusedSimpArgs false
set_option linter.unnecessarySimpa false
namespace Go.Proofs.YtpdlcbmnmeihoaaGreatDoor.Ev
open Go
structure SV where
  own : Bool
  e : Nat
  sz : Nat
  n : Nat
  f : Nat → List PV
def PV.sv : PV → Option SV
  | .sl own e sz es => some ⟨own, e, sz, es.length, fun i => es.getD i []⟩
  | .lst own x => some ⟨own, x.e, x.sz, x.len, x.row⟩
  | _ => none
structure St where
  fr : List (Nat × PV)
  ob : List (Nat × List PV)
  base : Nat
structure Delta where
  s : List (Nat × PV)
  o : List (Nat × List PV)
def look {α : Type} (d : α) : List (Nat × α) → Nat → α
  | [], _ => d
  | (a, x) :: r, s => match Nat.beq a s with
    | true => x
    | false => look d r s
def notIn (d : Nat) : List Nat → Bool
  | [] => true
  | a :: r => match Nat.beq a d with
    | true => false
    | false => notIn d r
/-- without what is named -/
def rem (K : List Nat) : List (Nat × List PV) → List (Nat × List PV)
  | [] => []
  | (d, l) :: r => match notIn d K with
    | true => (d, l) :: rem K r
    | false => rem K r
def mrgO (o : List (Nat × List PV)) (l : List (Nat × List PV)) : List (Nat × List PV) := match o with
  | [] => l
  | [x] => x :: l
  | x :: y :: r => (x :: y :: r) ++ rem ((x :: y :: r).map Prod.fst) l
def St.app (st : St) (δ : Delta) : St := { fr := δ.s ++ st.fr, ob := mrgO δ.o st.ob, base := st.base }
def St.get (st : St) (s : Nat) : PV := look .any st.fr s
def St.put (st : St) (s : Nat) (p : PV) : St := { st with fr := (s, p) :: st.fr }
def St.obj (st : St) (d : Nat) : List PV := look [] st.ob d
/-- ... as it is read -/
def St.vobj (st : St) (d : Nat) : List PV := (st.obj d).map PV.view
def oneV : Value → Bool
  | .agg _ | .tuple _ => false
  | _ => true
/-- a package variable that is laid -/
def lookG : List (Nat × LX) → Nat → Option LX
  | [], _ => none
  | (a, x) :: r, g => match Nat.beq a g with
    | true => some x
    | false => lookG r g
def St.opd (st : St) : Operand → PV
  | .tmp t => st.get t
  | .global g => match lookG GL g with
    | some x => .ref [.lst false x]
    | none => .any
  | .const v => match oneV v with
    | true => .val v
    | false => .any
  | .func f => .clo f 0 []
def PV.cells : PV → List PV
  | .agg l => l
  | p => [p]
/-- is it surely one cell of memory? -/
def PV.one : PV → Bool
  | .val v => oneV v
  | .sl _ _ _ _ => true
  | .lst _ _ => true
  | .loc _ _ => true
  | .el _ _ _ _ => true
  | .vw _ _ _ _ _ => true
  | .mp _ => true
  | .clo _ _ _ => true
  | _ => false
def ones : List PV → Bool
  | [] => true
  | p :: r => match p.one with
    | true => ones r
    | false => false
/-- operations, resolved -/
inductive K where
  | move (x : Operand)
  | nilsl (e : Nat)
  | take (x : Nat)
  | pick (c a b : Operand)
  | alloc (zero : List PV)
  | box (x : Operand)
  | build (zero : List PV) (parts : List (Nat × Nat × Operand))
  | bslice (e sz : Nat) (parts : List Operand)
  | load (agg : Bool) (sz : Nat) (x : Operand)
  | loadT (x : Operand)
  | store (sz : Nat) (a x : Operand)
  | storeT (a : Operand) (s : Nat)
  | scal (o : Oper)
  | eqA (neg : Bool) (ts : List (Nat × Nat)) (x y : Operand)
  | bin2 (tag : Nat) (x y : Operand)
  | field (off : Nat) (x : Operand)
  | index (sz : Nat) (x i : Operand)
  | len (x : Operand)
  | cap (x : Operand)
  | app (e sz by_ : Nat) (s : Nat) (x : Operand)
  | clone (cm : Bool) (e sz by_ : Nat) (s : Nat) (x : Operand)
  | call (f : Nat) (args : List Operand)
  | icall (f : Nat) (args : List Operand)
  | callv (x : Operand) (args : List Operand)
  | mkfn (f n : Nat) (caps : List Operand)
  | extract (x : Operand) (i : Nat)
  | nil (x : Operand)
  | mksl (e sz by_ : Nat) (z : List PV) (n : Operand)
  | mkcap (e sz by_ : Nat) (n : Operand)
  | slc (sz : Nat) (x : Operand) (lo hi mx : Option Operand)
  | sstr (x : Operand) (lo hi : Option Operand)
  | mkmap (gk gv : Bool) (ks vs : LX)
  | lookup (gq : Bool) (ts : List (Nat × Nat)) (ok g : Bool) (z : List PV) (m k : Operand)
  | mapup (gq : Bool) (ts : List (Nat × Nat)) (m k v : Operand)
  | del (gq : Bool) (ts : List (Nat × Nat)) (m k : Operand)
  | aidx (off sz : Nat) (g : Bool) (x : Operand)
  | ext (sub : Bool) (x y c : Operand)
  | ocall (f : Nat) (args : List Operand)
  | icallT (f : Nat) (args : List Operand) (s : Nat)
  | bstr (x : Operand)
  | stop
structure EOp where
  dst : Option Nat
  g : Option (Nat × Bool)
  k : K
inductive EC where
  | skip
  | region (ban : List Nat) (ap : List (Nat × Nat)) (ops : List EOp)
  | regS (ops : List EOp)
  | seq (a b : EC)
  | cond (c : Operand) (a b : EC)
  | block (id : Nat) (b : EC)
  | loop (keys : List Nat) (b : EC)
  | exit (id : Nat)
  | ret
  | kp (keys : List Nat)
  | frz (ts : List Nat)
  | loopU (keys : List Nat) (b : EC)
  | vws (ts : List Nat)
  | rng (pre : List EOp) (m : Operand) (it nx more pair : Nat) (keys : List Nat) (asg : List EOp) (b : EC) (n : Nat)
  | stop
inductive Ex where
  | normal | exit (id : Nat) | ret
/-- a computation that touches no memory -/
def pureRun {α : Type} (P : Program) : Sem α → (α → Prop) → Prop
  | .pure a, k => k a
  | .program f, k => pureRun P (f P) k
  | _, _ => False
abbrev Oracle := Nat → List PV → (PV → Prop) → Prop
abbrev Inl := Nat → List PV → List (Nat × List PV) → (PV → List (Nat × List PV) → Prop) → Prop
/-- a guard -/
def gd (p : Prop) [d : Decidable p] (k : Prop) : Prop := match d with
  | .isTrue _ => k
  | .isFalse _ => False
theorem gd_and (p : Prop) [d : Decidable p] (k : Prop) : gd p k = (p ∧ k) := by
  unfold gd
  cases d with
  | isTrue h => exact propext ⟨fun hk => ⟨h, hk⟩, fun hk => hk.2⟩
  | isFalse h => exact propext ⟨fun hk => hk.elim, fun hk => h hk.1⟩
/-- .. where it is asked for -/
def gdIf (b : Bool) (p : Prop) [Decidable p] (k : Prop) : Prop := match b with
  | true => gd p k
  | false => k
theorem gdIf_and (b : Bool) (p : Prop) [Decidable p] (k : Prop) : gdIf b p k = ((b = true → p) ∧ k) := by
  cases b with
  | true => simp only [gdIf, gd_and, forall_const]
  | false => simp [gdIf]
def br (t : Bool) (A B : Prop) : Prop := match t with
  | true => A
  | false => B
/-- found, or not -/
def fk (r : Option Nat) (A : Nat → Prop) (B : Prop) : Prop := match r with
  | some i => A i
  | none => B
def getN (l : List PV) (off : Nat) : PV := match l, off with
  | [], _ => .any
  | p :: _, 0 => p
  | _ :: r, n + 1 => getN r n
def lenIs (l : List PV) (n : Nat) : Bool := match l, n with
  | [], 0 => true
  | _ :: r, n + 1 => lenIs r n
  | _, _ => false
def lenGe (l : List PV) (n : Nat) : Bool := match l, n with
  | _, 0 => true
  | _ :: r, n + 1 => lenGe r n
  | _, _ => false
def mkP (agg : Bool) (l : List PV) : PV := match agg, l with
  | true, l => .agg l
  | false, [p] => p.view
  | false, _ => .any
def dput (d : Option Nat) (p : PV) : Delta := match d with
  | some s => ⟨[(s, p)], []⟩
  | none => ⟨[], []⟩
/-- cells, no row and no map -/
def plain : List PV → Bool
  | [] => true
  | .arrO _ :: _ => false
  | .mapO _ _ _ _ :: _ => false
  | .mapE _ _ _ _ _ _ :: _ => false
  | _ :: r => plain r
/-- what mentions no variable of ours, of a cell -/
def PV.pure0 (p : PV) : PV := match p.flat with
  | true => p.view
  | false => .any
/-- a pointer into this frame, as it is handed to a callee: what it points to -/
def snap (O : Nat → List PV) : PV → PV
  | .loc d off => match plain ((O d).drop off) with
    | true => .ref (((O d).drop off).map PV.pure0)
    | false => .any
  | .agg l => .agg (l.map PV.pure0)
  | .ref l => .ref (l.map PV.pure0)
  | p => p.pure0
/-- are the variables that are handed to a callee none of 'ban'? -/
def locsOk (st : St) (ban : List Nat) : List Operand → Bool
  | [] => true
  | x :: r => match ban, st.opd x with
    | [], _ => true
    | ban, .loc b _ => match notIn b ban with
      | true => locsOk st ban r
      | false => false
    | ban, _ => locsOk st ban r
def fillN (st : St) (cells : List PV) : List (Nat × Nat × Operand) → (List PV → Prop) → Prop
  | [], k => k cells
  | (off, sz, x) :: r, k => match lenIs (st.opd x).cells sz, ones (st.opd x).cells, lenGe cells (off + sz) with
    | true, true, true => fillN st (setN cells off ((st.opd x).cells.map PV.view)) r k
    | _, _, _ => False
def elems (st : St) (sz : Nat) : List Operand → (List (List PV) → Prop) → Prop
  | [], k => k []
  | x :: r, k => match lenIs (st.opd x).cells sz, ones (st.opd x).cells with
    | true, true => elems st sz r fun l => k ((st.opd x).cells.map PV.view :: l)
    | _, _ => False
def allVal (st : St) : List Operand → Bool
  | [] => true
  | x :: r => match st.opd x with
    | .val _ => allVal st r
    | _ => false
def St.valOf (st : St) (x : Operand) : Value := match st.opd x with
  | .val v => v
  | _ => undef
def scalK (P : Program) (st : St) (o : Oper) (d : Option Nat) (k : Delta → Prop) : Prop :=
  match allVal st o.op.operands.toList with
  | true => pureRun P (execOp st.valOf o) fun n => match n with
    | .value v => match oneV v with
      | true => k (dput d (.val v))
      | false => False
    | _ => False
  | false => False
/-- are two rows of cells alike? ('ts': what stands at which place: 0 a bool, 1 an integer, 2 a string) -/
def eqAt : List (Nat × Nat) → List PV → List PV → Option Bool
  | [], _, _ => some true
  | (tag, o) :: r, xs, ys => match eqAt r xs ys with
    | none => none
    | some t => match tag, getN xs o, getN ys o with
      | 0, .val (.bool a), .val (.bool b) => some ((a == b) && t)
      | 1, .val (.int k a), .val (.int k' b) => match decide (k = k') with
        | true => some ((a == b) && t)
        | false => none
      | 2, .val (.string a), .val (.string b) => some ((a == b) && t)
      | _, _, _ => none
def optByte : Option UInt8 → Int
  | some b => (b.toNat : Int)
  | none => 0
/-- sums and differences of two words, with what is carried -/
def addW (a b c : Int) : Int := Int.ofNat ((a.toNat + b.toNat + c.toNat) % 18446744073709551616)
def addC (a b c : Int) : Int := Int.ofNat ((a.toNat + b.toNat + c.toNat) / 18446744073709551616)
def subW (a b c : Int) : Int := Int.ofNat ((a.toNat + 18446744073709551616 - b.toNat - c.toNat) % 18446744073709551616)
def subC (a b c : Int) : Int := match Nat.blt a.toNat (b.toNat + c.toNat) with
  | true => 1
  | false => 0
def extV (sub : Bool) (a b c : Int) : PV := match sub with
  | false => .tup [.val (.int .u64 (addW a b c)), .val (.int .u64 (addC a b c))]
  | true => .tup [.val (.int .u64 (subW a b c)), .val (.int .u64 (subC a b c))]
/-- operations that may end the call: when they do not, and what they give -/
def bin2 (tag : Nat) (x y : Value) : Option (Bool × Value) := match tag, x, y with
  | 0, .int k a, .int k' b => match decide (k = k') with
    | true => some (!decide (b = 0), .int k (k.wrap (a.tdiv b)))
    | false => none
  | 1, .int k a, .int k' b => match decide (k = k') with
    | true => some (!decide (b = 0), .int k (a.tmod b))
    | false => none
  | 2, .int k a, .int _ b => some (!decide (b < 0), .int k (k.wrap (a * 2 ^ (min b.toNat k.bits))))
  | 3, .int k a, .int _ b => some (!decide (b < 0), .int k (a.fdiv (2 ^ (min b.toNat k.bits))))
  | 4, .string a, .string b => some (!decide (((a.size + b.size : Nat) : Int) > IntKind.i64.max), .string (a ++ b))
  | 5, .string s, .int _ n => some ((if 0 ≤ n then s[n.toNat]? else none).isSome, .int .u8 (optByte (if 0 ≤ n then s[n.toNat]? else none)))
  | _, _, _ => none
/-- a key of this kind? (0 a bool, 1 an integer, 2 a string) -/
def tagV : Nat → PV → Bool
  | 0, .val (.bool _) => true
  | 1, .val (.int _ _) => true
  | 2, .val (.string _) => true
  | _, _ => false
def tagsOK : List (Nat × Nat) → List PV → Bool
  | [], [] => true
  | (tag, _) :: r, p :: l => match tagV tag p with
    | true => tagsOK r l
    | false => false
  | _, _ => false
/-- the cells of a key -/
def kcells (gq : Bool) (ts : List (Nat × Nat)) (p : PV) : Option (List PV) := match gq, p with
  | true, .agg l => match tagsOK ts l with
    | true => some l
    | false => none
  | true, _ => none
  | false, p => match tagsOK ts [p] with
    | true => some [p]
    | false => none
def sameB : Bool → Bool → Bool
  | true, true => true
  | false, false => true
  | _, _ => false
def vcells (g : Bool) (p : PV) : Option (List PV) := match g, p with
  | true, .agg l => some (l.map PV.view)
  | true, _ => none
  | false, p => match p.one with
    | true => some [p.view]
    | false => none
def isCst : Operand → Bool
  | .const _ => true
  | _ => false
/-- a bound of a slice expression -/
def St.bnd (st : St) (d : Int) : Option Operand → Option Int
  | none => some d
  | some x => match st.opd x with
    | .val (.int _ n) => some n
    | _ => none
/-- a row with cells, held against the nil slice -/
def nilCmp (st : St) (x : Operand) (v : Value) (tag : Nat) (d : Option Nat) (k : Delta → Prop) : Prop := match v, (st.opd x).sv with
  | .slice none 0 0, some s => match tag with
    | 6 => gd (0 < s.n) (k (dput d (.val (.bool false))))
    | 7 => gd (0 < s.n) (k (dput d (.val (.bool true))))
    | _ => False
  | _, _ => False
/-- nothing to append to -/
def PV.bare (e sz : Nat) : PV → Bool
  | .val (.slice none 0 0) => true
  | .lst true y => match Nat.beq y.len 0, Nat.beq e y.e, Nat.beq sz y.sz with
    | true, true, true => true
    | _, _, _ => false
  | _ => false
/-- nil over an empty row of ours: the row stays ours -/
def keepN : PV → PV → PV
  | .lst true y, .val (.slice none 0 0) => match Nat.beq y.len 0 with
    | true => .lst true y
    | false => .val (.slice none 0 0)
  | _, p => p
def keepL : List PV → List PV → List PV
  | _, [] => []
  | [], p :: ps => p :: ps
  | o :: os, p :: ps => keepN o p :: keepL os ps
/-- the cells of a row, one behind the other -/
def LX.flat (z : LX) : List PV := (((List.range z.len).map z.row).flatten).map PV.view
/-- a row without the element at a place -/
def LX.cut (x : LX) (i : Nat) : Option LX := LX.cat (x.sub 0 i) (x.sub (i + 1) x.len)
/-- an argument; the row in slot s is handed over -/
def St.argT (st : St) (s : Nat) : Operand → PV
  | .tmp t => match Nat.beq t s with
    | true => st.get t
    | false => (st.get t).view
  | x => (st.opd x).view
def noO (s : Nat) : List Operand → Bool
  | [] => true
  | .tmp t :: r => match Nat.beq t s with
    | true => false
    | false => noO s r
  | _ :: r => noO s r
def onceO (s : Nat) : List Operand → Bool
  | [] => false
  | .tmp t :: r => match Nat.beq t s with
    | true => noO s r
    | false => onceO s r
  | _ :: r => onceO s r
def flatAll (st : St) : List Operand → Bool
  | [] => true
  | x :: r => match (st.opd x).view.flat with
    | true => flatAll st r
    | false => false
/-- a result that leaves no variable behind -/
def ownR (r : PV) (o' : List (Nat × List PV)) (p : Prop) : Prop := match o', r.flat with
  | [], true => p
  | _, _ => False
/-- what a map holds -/
def mapOf : List PV → Option (Bool × Bool × LX × LX)
  | [.mapO gk gv ks vs] => some (gk, gv, ks, vs)
  | [.mapE _ _ gk gv ks vs] => some (gk, gv, ks, vs)
  | _ => none
/-- one operation: what it changes -/
def stepD (P : Program) (C : Oracle) (X : Inl) (ban : List Nat) (o : K) (d : Option Nat) (st : St) (k : Delta → Prop) : Prop :=
  match o with
  | .move x => k (dput d (st.opd x).view)
  | .nilsl e => match d, LX.nil e with
    | some d, some x => k ⟨[(d, .lst true x)], []⟩
    | _, _ => False
  | .take s => match d with
    | some d => k ⟨[(d, st.get s), (s, (st.get s).view)], []⟩
    | none => False
  | .pick c a b => match st.opd c with
    | .val (.bool t) => br t (k (dput d (st.opd a).view)) (k (dput d (st.opd b).view))
    | _ => False
  | .alloc z => match d with
    | some s => match notIn (st.base + s) (st.ob.map Prod.fst) with
      | true => k ⟨[(s, .loc (st.base + s) 0)], [(st.base + s, z)]⟩
      | _ => False
    | none => False
  | .box x => match d with
    | some s => match notIn (st.base + s) (st.ob.map Prod.fst), ones (st.opd x).cells with
      | true, true => k ⟨[(s, .loc (st.base + s) 0)], [(st.base + s, (st.opd x).cells.map PV.view)]⟩
      | _, _ => False
    | none => False
  | .build z parts => fillN st (z.map PV.view) parts fun l => k (dput d (.agg l))
  | .bslice e sz parts => elems st sz parts fun l => match LX.lit e l with
    | some x => match Nat.beq x.sz sz with
      | true => k (dput d (.lst true x))
      | false => False
    | none => k (dput d (.sl true e sz l))
  | .load agg sz x => match st.opd x with
    | .loc b off => match notIn b ban, lenGe ((st.vobj b).drop off) sz, plain (((st.vobj b).drop off).take sz) with
      | true, true, true => k (dput d (mkP agg (((st.vobj b).drop off).take sz)))
      | _, _, _ => False
    | .ref l => match lenGe l sz with
      | true => k (dput d (mkP agg (l.take sz)))
      | false => False
    | .el b sz' i off => match notIn b ban, st.vobj b with
      | true, [.arrO x] => match Nat.beq sz' x.sz, lenGe ((x.row i).drop off) sz with
        | true, true => k (dput d (mkP agg (((x.row i).drop off).take sz)))
        | _, _ => False
      | _, _ => False
    | _ => False
  | .loadT x => match st.opd x, d with
    | .loc b off, some d => match notIn b ban, (getN (st.obj b) off).one && plain (st.obj b) with
      | true, true => k ⟨[(d, getN (st.obj b) off)], [(b, setN (st.obj b) off [(getN (st.obj b) off).view])]⟩
      | _, _ => False
    | _, _ => False
  | .store sz a x => match st.opd a with
    | .loc b off => match lenIs (st.opd x).cells sz, ones (st.opd x).cells, lenGe (st.obj b) (off + sz) && plain (st.obj b) with
      | true, true, true => k ⟨[], [(b, setN (st.obj b) off (keepL ((st.obj b).drop off) ((st.opd x).cells.map PV.view)))]⟩
      | _, _, _ => False
    | .el b sz' i off => match lenIs (st.opd x).cells sz, ones (st.opd x).cells, st.obj b with
      | true, true, [.arrO y] => match Nat.beq sz' y.sz, LX.set y i off ((st.opd x).cells.map PV.view) with
        | true, some y' => k ⟨[], [(b, [.arrO y'])]⟩
        | _, _ => False
      | _, _, _ => False
    | _ => False
  | .storeT a s => match st.opd a with
    | .loc b off => match (st.get s).one, lenGe (st.obj b) (off + 1) && plain (st.obj b) with
      | true, true => k ⟨[(s, (st.get s).view)], [(b, setN (st.obj b) off [st.get s])]⟩
      | _, _ => False
    | .el b sz' i off => match (st.get s).one, st.obj b with
      | true, [.arrO y] => match Nat.beq sz' y.sz, LX.set y i off [(st.get s).view] with
        | true, some y' => k ⟨[(s, (st.get s).view)], [(b, [.arrO y'])]⟩
        | _, _ => False
      | _, _ => False
    | _ => False
  | .scal o => scalK P st o d k
  | .bin2 tag x y => match st.opd x, st.opd y with
    | .val u, .val v => match bin2 tag u v with
      | some (c, r) => br c (k (dput d (.val r))) False
      | none => False
    | _, .val v => nilCmp st x v tag d k
    | _, _ => False
  | .eqA neg ts x y => match st.opd x, st.opd y with
    | .agg xs, .agg ys => match eqAt ts xs ys with
      | some t => match neg with
        | true => k (dput d (.val (.bool (!t))))
        | false => k (dput d (.val (.bool t)))
      | none => False
    | _, _ => False
  | .field off x => match st.opd x with
    | .loc b o => k (dput d (.loc b (o + off)))
    | .ref l => k (dput d (.ref (l.drop off)))
    | .el b sz i o => k (dput d (.el b sz i (o + off)))
    | _ => False
  | .index sz x i => match st.opd x, st.opd i with
    | .vw c b e sz' m, .val (.int _ n) => match Nat.beq sz sz', c with
      | true, false => gd (0 ≤ n) (gd (n < (m : Int)) (k (dput d (.el b sz n.toNat 0))))
      | true, true => gd (0 ≤ n) (gd (n < (m : Int)) (k (dput d (.loc b (n.toNat * sz)))))
      | _, _ => False
    | p, .val (.int _ n) => match p.sv with
      | some s => match Nat.beq sz s.sz with
        | true => gd (0 ≤ n) (gd (n < (s.n : Int)) (k (dput d (.ref (s.f n.toNat)))))
        | false => False
      | none => False
    | _, _ => False
  | .len x => match st.opd x with
    | .vw _ _ _ _ m => k (dput d (.val (.int .i64 m)))
    | .val (.slice _ n _) => k (dput d (.val (.int .i64 n)))
    | p => match p.sv with
      | some s => k (dput d (.val (.int .i64 s.n)))
      | none => False
  | .cap x => match st.opd x with
    | .val (.slice _ _ c) => k (dput d (.val (.int .i64 c)))
    | _ => False
  | .app e sz by_ s x => match d with
    | some d => match st.get s, st.opd x with
      | .lst true y, .lst _ z => match Nat.beq e y.e, Nat.beq sz y.sz, LX.cat y z with
        | true, true, some r => gd ((y.len + z.len) * by_ ≤ 140737488355328) (gd (y.len + z.len ≤ maxLen) (k ⟨[(d, .lst true r), (s, .lst false y)], []⟩))
        | _, _, _ => False
      | .lst true y, .val (.slice none 0 0) => match Nat.beq e y.e with
        | true => k ⟨[(d, .lst true y), (s, .lst false y)], []⟩
        | false => False
      | .val (.slice none 0 0), .lst _ z => match Nat.beq e z.e, Nat.beq sz z.sz with
        | true, true => gd ((0 + z.len) * by_ ≤ 140737488355328) (gd (0 + z.len ≤ maxLen) (k ⟨[(d, .lst true z)], []⟩))
        | _, _ => False
      | _, _ => False
    | none => False
  | .clone cm e sz by_ s x => match d, LX.nil e with
    | some d, some n => match notIn (st.base + d) (st.ob.map Prod.fst), (st.get s).bare e sz && Nat.beq e n.e && Nat.beq sz n.sz with
      | true, true => match st.opd x with
        | .lst _ z => match Nat.beq e z.e, Nat.beq sz z.sz with
          | true, true => br (Nat.beq z.len 0) (k ⟨[(d, .lst true n), (s, (st.get s).view)], []⟩)
            (gd (z.len * by_ ≤ 140737488355328) (gd (z.len ≤ maxLen) (k ⟨[(d, .vw cm (st.base + d) e sz z.len), (s, (st.get s).view)], [(st.base + d, match cm with | true => z.flat | false => [.arrO z])]⟩)))
          | _, _ => False
        | _ => False
      | _, _ => False
    | _, _ => False
  | .call f args => match locsOk st ban args with
    | true => C f (args.map fun x => snap st.obj (st.opd x)) fun r => k (dput d r.view)
    | false => False
  | .icall f args => X f (args.map fun x => (st.opd x).view) st.ob fun r o' => k ⟨(dput d r).s, o'⟩
  | .callv x args => match st.opd x with
    | .clo f n caps => X f ((caps.take n ++ ((args.map fun x => (st.opd x).view) ++ caps.drop n)).map PV.view) st.ob fun r o' => k ⟨(dput d r).s, o'⟩
    | _ => False
  | .mkfn f n caps => k (dput d (.clo f n (caps.map fun x => (st.opd x).view)))
  | .extract x i => match st.opd x with
    | .tup l => match lenGe l (i + 1) with
      | true => k (dput d (getN l i).view)
      | false => False
    | _ => False
  | .nil x => match st.opd x with
    | .loc b off => k (dput d (.loc b off))
    | .ref l => k (dput d (.ref l))
    | .el b sz i off => k (dput d (.el b sz i off))
    | _ => False
  | .mksl e sz by_ z n => match d, st.opd n with
    | some s, .val (.int .i64 m) => match isCst n with
      | true => match decide (0 ≤ m), notIn (st.base + s) (st.ob.map Prod.fst), Nat.ble (m.toNat * by_) 140737488355328 && Nat.ble m.toNat 16777216 with
        | true, true, true => k ⟨[(s, .vw true (st.base + s) e sz m.toNat)], [(st.base + s, (List.replicate m.toNat z).flatten)]⟩
        | _, _, _ => False
      | false => match notIn (st.base + s) (st.ob.map Prod.fst), LX.lit e [z.map PV.view] with
        | true, some y => match Nat.beq y.sz sz with
          | true => gd (0 ≤ m) (gd (m * (by_ : Int) ≤ 140737488355328) (gd (m ≤ 9223372036854775807) (k ⟨[(s, .vw false (st.base + s) e sz m.toNat)], [(st.base + s, [.arrO (y.rep m.toNat)])]⟩)))
          | false => False
        | _, _ => False
    | _, _ => False
  | .mkcap e sz by_ n => match d, st.opd n, LX.nil e with
    | some s, .val (.int .i64 m), some x => match Nat.beq x.sz sz with
      | true => gd (0 ≤ m) (gd (m * (by_ : Int) ≤ 140737488355328) (gd (m ≤ (maxLen : Int)) (k ⟨[(s, .lst true x)], []⟩)))
      | false => False
    | _, _, _ => False
  | .slc sz x lo hi mx => match st.opd x with
    | .lst _ y => match Nat.beq sz y.sz, st.bnd y.len mx with
      | true, some m => match st.bnd y.len hi with
        | some h => match st.bnd 0 lo with
          | some l => gd (0 ≤ l) (gd (l ≤ h) (gd (h ≤ m) (gd (m ≤ (y.len : Int)) (gdIf mx.isSome (m ≤ h) (k (dput d (.lst mx.isSome (y.sub l.toNat h.toNat))))))))
          | none => False
        | none => False
      | _, _ => False
    | _ => False
  | .sstr x lo hi => match st.opd x with
    | .val (.string s) => match st.bnd s.size hi with
      | some h => match st.bnd 0 lo with
        | some l => gd (0 ≤ l) (gd (l ≤ h) (gd (h ≤ (s.size : Int)) (k (dput d (.val (.string (s.extract l.toNat h.toNat)))))))
        | none => False
      | none => False
    | _ => False
  | .mkmap gk gv ks vs => match d with
    | some s => match notIn (st.base + s) (st.ob.map Prod.fst) with
      | true => k ⟨[(s, .mp (st.base + s))], [(st.base + s, [.mapO gk gv ks vs])]⟩
      | false => False
    | none => False
  | .lookup gq ts ok g z m q => match st.opd m with
    | .mp b => match notIn b ban, mapOf (st.obj b), kcells gq ts (st.opd q) with
      | true, some (gk, gv, ks, vs), some c => match sameB gq gk, LX.find ks c, sameB g gv with
        | true, some r, true => fk r (fun i => k (dput d (match ok with | true => .tup [mkP gv (vs.row i), .val (.bool true)] | false => mkP gv (vs.row i))))
            (k (dput d (match ok with | true => .tup [mkP g (z.map PV.view), .val (.bool false)] | false => mkP g (z.map PV.view))))
        | _, _, _ => False
      | _, _, _ => False
    | _ => False
  | .mapup gq ts m q v => match st.opd m with
    | .mp b => match st.obj b, kcells gq ts (st.opd q) with
      | [.mapO gk gv ks vs], some ck => match sameB gq gk, LX.find ks ck, vcells gv (st.opd v) with
        | true, some r, some c => fk r (fun i => match Nat.beq c.length vs.sz, LX.set vs i 0 c with
            | true, some vs' => k ⟨[], [(b, [.mapO gk gv ks vs'])]⟩
            | _, _ => False)
          (match LX.push ks ck, LX.push vs c with
            | some ks', some vs' => k ⟨[], [(b, [.mapO gk gv ks' vs'])]⟩
            | _, _ => False)
        | _, _, _ => False
      | _, _ => False
    | _ => False
  | .del gq ts m q => match st.opd m with
    | .mp b => match st.obj b, kcells gq ts (st.opd q) with
      | [.mapO gk gv ks vs], some ck => match sameB gq gk, LX.find ks ck with
        | true, some r => fk r (fun i => match LX.cut ks i, LX.cut vs i with
            | some ks', some vs' => k ⟨[], [(b, [.mapO gk gv ks' vs'])]⟩
            | _, _ => False)
          (k ⟨[], []⟩)
        | _, _ => False
      | _, _ => False
    | _ => False
  | .ocall f args => match flatAll st args with
    | true => X f (args.map fun x => (st.opd x).view) [] fun r o' => ownR r o' (k (dput d r))
    | false => False
  | .bstr x => match st.opd x with
    | .lst _ y => match y.str with
      | some s => k (dput d (.val (.string s)))
      | none => False
    | .val (.slice none 0 0) => k (dput d (.val (.string ByteArray.empty)))
    | _ => False
  | .icallT f args s => match onceO s args with
    | true => X f (args.map fun x => st.argT s x) st.ob fun r o' => k ⟨(dput d r).s ++ [(s, (st.get s).view)], o'⟩
    | false => False
  | .ext sub x y c => match st.opd x, st.opd y, st.opd c with
    | .val (.int _ a), .val (.int _ b), .val (.int _ n) => gd (n ≤ 1) (k (dput d (extV sub a b n)))
    | _, _, _ => False
  | .aidx off sz g x => match st.opd x with
    | .agg l => match lenGe l (off + sz) with
      | true => k (dput d (mkP g ((l.drop off).take sz)))
      | false => False
    | _ => False
  | .stop => False
def evOps (P : Program) (C : Oracle) (X : Inl) (ban : List Nat) : List EOp → St → (St → Prop) → Prop
  | [], st, k => k st
  | o :: r, st, k => match o.g with
    | none => stepD P C X ban o.k o.dst st fun δ => evOps P C X ban r (st.app δ) k
    | some (s, want) => match st.get s with
      | .val (.bool t) =>
        br t
        (match want with
          | true => stepD P C X ban o.k o.dst (st.put s (.val (.bool true))) fun δ => evOps P C X ban r ((st.put s (.val (.bool true))).app δ) k
          | false => evOps P C X ban r ((st.put s (.val (.bool true))).app (dput o.dst (.tup []))) k)
        (match want with
          | false => stepD P C X ban o.k o.dst (st.put s (.val (.bool false))) fun δ => evOps P C X ban r ((st.put s (.val (.bool false))).app δ) k
          | true => evOps P C X ban r ((st.put s (.val (.bool false))).app (dput o.dst (.tup []))) k)
      | .tup [] => evOps P C X ban r (st.app (dput o.dst (.tup []))) k
      | _ => False
/-- what changes no variable, and writes only its own slot -/
def K.quiet : K → Bool
  | .move _ | .scal _ | .field .. | .load .. | .len _ | .cap _ | .bin2 .. | .eqA .. | .index .. | .extract .. | .nil _ | .call .. | .pick .. | .sstr .. | .lookup .. | .ext .. | .ocall .. | .bstr .. => true
  | _ => false
/-- operations under a guard, and the choice behind them -/
def splitB (s : Nat) : List EOp → Option (List EOp × Nat × List EOp)
  | [] => none
  | eo :: r => match eo.k.quiet, eo.g with
    | true, some _ => match splitB s r with
      | some (B, pd, r') => some (eo :: B, pd, r')
      | none => none
    | true, none => match eo.k, eo.dst with
      | .pick (.tmp c) _ _, some pd => match Nat.beq c s with
        | true => some ([eo], pd, r)
        | false => none
      | _, _ => none
    | false, _ => none
def anyD : List EOp → List (Nat × PV)
  | [] => []
  | eo :: r => match eo.dst with
    | some d => (d, .any) :: anyD r
    | none => anyD r
/-- behind the choice: only what was chosen is known -/
def stJ (st : St) (B : List EOp) (pd : Nat) (b : Bool) : St := st.app ⟨(pd, .val (.bool b)) :: anyD B, []⟩
/-- two ways that meet -/
def jn {σ : Type} (X : (σ → Prop) → Prop) (j : σ → Prop) : Prop := X j
def jPick (pd : Nat) (j : Bool → Prop) (st : St) : Prop := match st.get pd with
  | .val (.bool b) => j b
  | _ => False
/-- operations in the order of the text -/
def evSeq (P : Program) (C : Oracle) (X : Inl) : Nat → List EOp → St → (St → Prop) → Prop
  | _, [], st, k => k st
  | 0, _ :: _, _, _ => False
  | n + 1, o :: r, st, k => match o.g with
    | none => stepD P C X [] o.k o.dst st fun δ => evSeq P C X n r (st.app δ) k
    | some (s, want) => match st.get s with
      | .val (.bool t) => match splitB s (o :: r) with
        | some (B, pd, r') => jn (fun j => br t (evOps P C X [] B (st.put s (.val (.bool true))) (jPick pd j)) (evOps P C X [] B (st.put s (.val (.bool false))) (jPick pd j)))
            (fun b => evSeq P C X n r' (stJ st B pd b) k)
        | none => br t
          (match want with
            | true => stepD P C X [] o.k o.dst (st.put s (.val (.bool true))) fun δ => evSeq P C X n r ((st.put s (.val (.bool true))).app δ) k
            | false => evSeq P C X n r ((st.put s (.val (.bool true))).app (dput o.dst (.tup []))) k)
          (match want with
            | false => stepD P C X [] o.k o.dst (st.put s (.val (.bool false))) fun δ => evSeq P C X n r ((st.put s (.val (.bool false))).app δ) k
            | true => evSeq P C X n r ((st.put s (.val (.bool false))).app (dput o.dst (.tup []))) k)
      | .tup [] => evSeq P C X n r (st.app (dput o.dst (.tup []))) k
      | _ => False
/-- does it mention no variable that 'D' calls dead? -/
def PV.safe0 (D : Nat → Bool) : PV → Bool
  | .any => true
  | .val _ => true
  | .lst _ _ => true
  | .loc d _ => !(D d)
  | .el d _ _ _ => !(D d)
  | .vw _ d _ _ _ => !(D d)
  | .mp d => !(D d)
  | .arrO _ => true
  | .mapO _ _ _ _ => true
  | .mapE _ _ _ _ _ _ => true
  | _ => false
def safes (s : PV → Bool) : List PV → Bool
  | [] => true
  | p :: r => match s p with
    | true => safes s r
    | false => false
def safess (s : PV → Bool) : List (List PV) → Bool
  | [] => true
  | p :: r => match safes s p with
    | true => safess s r
    | false => false
def PV.safeUp (s : PV → Bool) : PV → Bool
  | .agg l => safes s l
  | .tup l => safes s l
  | .ref l => safes s l
  | .clo _ _ l => safes s l
  | .sl _ _ _ es => safess s es
  | p => s p
def PV.safe (D : Nat → Bool) (p : PV) : Bool := PV.safeUp (PV.safeUp (PV.safeUp (PV.safe0 D))) p
def PV.clean (D : Nat → Bool) (p : PV) : PV := match p.safe D with
  | true => p
  | false => .any
def insK (d : Nat) : List Nat → List Nat
  | [] => [d]
  | b :: r => match Nat.blt d b, Nat.beq d b with
    | true, _ => d :: b :: r
    | false, true => b :: r
    | false, false => b :: insK d r
def sortK : List Nat → List Nat
  | [] => []
  | d :: r => insK d (sortK r)
def normO (l : List (Nat × List PV)) : List (Nat × List PV) := (sortK (l.map Prod.fst)).map fun d => (d, look [] l d)
def liveK (st : St) : List Nat := sortK (st.ob.map Prod.fst)
/-- at a loop's head: only the slots 'keys' and the variables 'live' are known -/
def keep (keys live : List Nat) (st : St) : St :=
  { fr := keys.map fun s => (s, (st.get s).clean fun d => notIn d live), ob := live.map fun d => (d, (st.obj d).map fun p => p.clean fun d => notIn d live), base := st.base }
/-- ... what is not known is not named -/
def frF (st : St) (live : List Nat) : List Nat → List (Nat × PV)
  | [] => []
  | s :: r => match (st.get s).clean fun d => notIn d live with
    | .any => frF st live r
    | p => (s, p) :: frF st live r
def keepF (keys live : List Nat) (st : St) : St :=
  { fr := frF st live keys, ob := live.map fun d => (d, (st.obj d).map fun p => p.clean fun d => notIn d live), base := st.base }
/-- which variables a value names -/
def PV.id0 : PV → List Nat
  | .loc d _ => [d]
  | .el d _ _ _ => [d]
  | .vw _ d _ _ _ => [d]
  | .mp d => [d]
  | _ => []
def idsL (f : PV → List Nat) : List PV → List Nat
  | [] => []
  | p :: r => f p ++ idsL f r
def PV.idUp (f : PV → List Nat) : PV → List Nat
  | .agg l => idsL f l
  | .tup l => idsL f l
  | .ref l => idsL f l
  | .clo _ _ l => idsL f l
  | .sl _ _ _ es => idsL f es.flatten
  | p => f p
def PV.ids (p : PV) : List Nat := PV.idUp (PV.idUp (PV.idUp PV.id0)) p
/-- .. and through what is named -/
def gcGo (st : St) : Nat → List Nat → List Nat → List Nat
  | 0, _, seen => seen
  | _ + 1, [], seen => seen
  | n + 1, d :: todo, seen => match notIn d seen with
    | true => gcGo st n (idsL PV.ids (st.obj d) ++ todo) (d :: seen)
    | false => gcGo st n todo seen
/-- are there more than n of them? -/
def longer : Nat → List Nat → Bool
  | _, [] => false
  | 0, _ :: _ => true
  | n + 1, _ :: r => longer n r
def gcF (b : Nat) (seen : List Nat) : List Nat → List Nat
  | [] => []
  | d :: r => match Nat.blt d b, notIn d seen with
    | false, true => gcF b seen r
    | _, _ => d :: gcF b seen r
def lowIds (st : St) : List Nat → List Nat
  | [] => []
  | d :: r => match Nat.blt d st.base with
    | true => idsL PV.ids (st.obj d) ++ lowIds st r
    | false => lowIds st r
/-- the variables that are kept: the caller's, and ours that something names -/
def gcK (keys : List Nat) (st : St) : List Nat := match longer 7 (liveK st) with
  | false => liveK st
  | true => gcF st.base (gcGo st 200 (idsL PV.ids (keys.map st.get) ++ lowIds st (liveK st)) []) (liveK st)
theorem gcF_mem {b : Nat} {seen : List Nat} : ∀ {l : List Nat} {d : Nat}, d ∈ l → d < b → d ∈ gcF b seen l
  | x :: l, d, h, hb => by
    unfold gcF
    rcases List.mem_cons.1 h with rfl | h
    · have : Nat.blt d b = true := Nat.ble_eq_true_of_le hb
      rw [this]
      exact List.mem_cons_self
    · have ih := gcF_mem (seen := seen) h hb
      split
      · exact ih
      · exact List.mem_cons_of_mem _ ih
theorem gcK_mem {keys : List Nat} {st : St} {d : Nat} (h : d ∈ liveK st) (hb : d < st.base) : d ∈ gcK keys st := by
  unfold gcK
  split
  · exact h
  · exact gcF_mem h hb
def remK (b : Nat) : List Nat → List Nat
  | [] => []
  | a :: r => match Nat.beq a b with
    | true => remK b r
    | false => a :: remK b r
/-- a row of ours that is written no more -/
def St.frz1 (st : St) (t : Nat) : St := match st.get t with
  | .vw false b _ _ _ => match st.obj b, Nat.ble st.base b with
    | [.arrO y], true => (keepF (st.fr.map Prod.fst) (remK b (liveK st)) st).app ⟨[(t, .lst false y)], []⟩
    | _, _ => st
  | _ => st
def St.frzL (st : St) : List Nat → St
  | [] => st
  | t :: r => St.frzL (st.frz1 t) r
def St.vwL (st : St) : List Nat → St
  | [] => st
  | t :: r => St.vwL (st.app ⟨[(t, (st.get t).view)], []⟩) r
def kRound (f : St → (Ex → St → Prop) → Prop) (keys live : List Nat) (k : Ex → St → Prop) : Ex → St → Prop := fun e st' => match e with
  | .normal => f (keep keys live st') k
  | .exit i => k (.exit i) (keep keys live st')
  | .ret => k .ret (keep keys live st')
def loopN (body : St → (Ex → St → Prop) → Prop) (keys live : List Nat) : Nat → St → (Ex → St → Prop) → Prop
  | 0, _, _ => False
  | n + 1, st, k => body st (kRound (loopN body keys live n) keys live k)
def kRoundU (f : St → (Ex → St → Prop) → Prop) (keys : List Nat) (k : Ex → St → Prop) : Ex → St → Prop := fun e st' => match e with
  | .normal => f (keepF keys (liveK st') st') k
  | .exit i => k (.exit i) st'
  | .ret => k .ret st'
/-- ... whose rounds may leave variables behind -/
def loopNU (body : St → (Ex → St → Prop) → Prop) (keys : List Nat) : Nat → St → (Ex → St → Prop) → Prop
  | 0, _, _ => False
  | n + 1, st, k => body st (kRoundU (loopNU body keys n) keys k)
/-- do these pairs of slots hold pointers to different variables? -/
def apartOK (st : St) : List (Nat × Nat) → Bool
  | [] => true
  | (a, b) :: r => match st.get a, st.get b with
    | .loc d _, .loc d' _ => match Nat.beq d d' with
      | true => false
      | false => apartOK st r
    | _, _ => false
def kSeq (f : St → (Ex → St → Prop) → Prop) (k : Ex → St → Prop) : Ex → St → Prop := fun e st' => match e with
  | .normal => f st' k
  | .exit i => k (.exit i) st'
  | .ret => k .ret st'
def kBlock (id : Nat) (k : Ex → St → Prop) : Ex → St → Prop := fun e st' => match e with
  | .exit i => match Nat.beq i id with
    | true => k .normal st'
    | false => k (.exit i) st'
  | .normal => k .normal st'
  | .ret => k .ret st'
def maxId : List (Nat × List PV) → Nat
  | [] => 0
  | (d, _) :: r => match Nat.ble (maxId r) d with
    | true => d + 1
    | false => maxId r
/-- a number for the next frame's variables, far above the caller's own -/
def nextId (l : List (Nat × List PV)) : Nat := maxId l + 1000
/-- the rounds of a loop over a map, in any order ('S': the entries that were met; 'O': the map, which stays; 'V': the iterator) -/
def rngN (f : St → (Ex → St → Prop) → Prop) (n d : Nat) (O : List PV) (V : PV) (gk gv : Bool) (ks vs : LX) (it nx more pair : Nat) (keys live : List Nat) : Nat → List Nat → St → (St → Prop) → Prop
  | 0, _, _, _ => False
  | L + 1, S, st, k => ((∀ i, i < ks.len → i ∈ S) → k (st.app ⟨[(more, .val (.bool false)), (nx, .any)], []⟩)) ∧
    ∀ i, i < ks.len → i ∉ S → f (st.app ⟨[(pair, .tup [mkP gk (ks.row i), mkP gv (vs.row i)]), (more, .val (.bool true)), (nx, .any)], []⟩)
      fun e st' => (e = .normal ∨ e = .exit n) ∧ st'.obj d = O ∧ st'.get it = V ∧ rngN f n d O V gk gv ks vs it nx more pair keys live L (i :: S) (keep keys live st') k
/-- the state at the loop's head: the map's entries are held fast -/
def rng0 (st : St) (d it : Nat) (O : List PV) (V : PV) (keys : List Nat) : St := { keep keys (liveK st) (st.app ⟨[(it, V)], [(d, O)]⟩) with base := nextId st.ob }
/-- .. and behind it -/
def rng1 (st : St) (d it base : Nat) (keys live : List Nat) (O : List PV) : St := { keep keys live (st.app ⟨[(it, .any)], [(d, O)]⟩) with base := base }
def rngE (f : St → (Ex → St → Prop) → Prop) (n d : Nat) (gk gv : Bool) (ks vs : LX) (it nx more pair : Nat) (keys : List Nat) (L : Nat) (st : St) (k : St → Prop) : Prop :=
  ∃ stF, (∀ es clock r, rngN f n d [.mapE es clock gk gv ks vs] (.val (.pointer (some ⟨r, 0, none⟩))) gk gv ks vs it nx more pair keys (liveK st) L []
    (rng0 st d it [.mapE es clock gk gv ks vs] (.val (.pointer (some ⟨r, 0, none⟩))) keys) (fun st' => rng1 st' d it st.base keys (liveK st) [.mapO gk gv ks vs] = stF)) ∧ k stF
def rngK (f : St → (Ex → St → Prop) → Prop) (n : Nat) (m : Operand) (it nx more pair : Nat) (keys : List Nat) (L : Nat) (st : St) (k : St → Prop) : Prop := match st.opd m with
  | .mp d => match st.obj d with
    | [.mapO gk gv ks vs] => rngE f n d gk gv ks vs it nx more pair keys L st k
    | _ => False
  | _ => False
def evC (P : Program) (C : Oracle) (X : Inl) (L : Nat) : EC → St → (Ex → St → Prop) → Prop
  | .skip, st, k => k .normal st
  | .region ban ap l, st, k => match apartOK st ap with
    | true => evOps P C X (ban.map (st.base + ·)) l st fun st' => k .normal st'
    | false => False
  | .regS l, st, k => evSeq P C X l.length l st fun st' => k .normal st'
  | .seq a b, st, k => evC P C X L a st (kSeq (evC P C X L b) k)
  | .cond c a b, st, k => match st.opd c with
    | .val (.bool t) => br t (evC P C X L a st k) (evC P C X L b st k)
    | _ => False
  | .block id b, st, k => evC P C X L b st (kBlock id k)
  | .loop keys b, st, k => loopN (evC P C X L b) keys (gcK keys st) L (keep keys (gcK keys st) st) k
  | .loopU keys b, st, k => loopNU (evC P C X L b) keys L st k
  | .exit id, st, k => k (.exit id) st
  | .ret, st, k => k .ret st
  | .kp keys, st, k => k .normal (keepF keys (liveK st) st)
  | .frz ts, st, k => k .normal (st.frzL ts)
  | .vws ts, st, k => k .normal (st.vwL ts)
  | .rng pre m it nx more pair keys asg b n, st, k => evSeq P C X pre.length pre st fun st1 => rngK (fun st k => evSeq P C X asg.length asg st fun st' => evC P C X L b st' k) n m it nx more pair keys L st1 fun st' => k .normal st'
  | .stop, _, _ => False
/-! ### the translation of code into operations that are resolved -/
def isAggT (P : Program) (t : Nat) : Bool := match P.underlying t with
  | some (.struct _) | some (.array _ _) => true
  | _ => false
def isSlT (P : Program) (t : Nat) : Bool := match P.underlying t with
  | some (.slice _) => true
  | _ => false
def szT (P : Program) (t : Nat) : Option Nat := (P.info? t).map (·.size)
def zeroT (P : Program) (t : Nat) : Option (List Value) := ((P.info? t).bind (·.zero)).map fun v => v.cells.toList
def fieldsT (P : Program) (t : Nat) : Option (List (Nat × Nat)) := match P.underlying t with
  | some (.struct fs) => fs.toList.mapM fun f => (P.info? f.type).map fun i => (f.offset, i.size)
  | some (.array n e) => (P.info? e).map fun i => (List.range n).map fun k => (k * i.size, i.size)
  | _ => none
/-- which cells of a type hold slices, and of what -/
def slOf (P : Program) : Nat → Nat → List (Option Nat)
  | 0, _ => [none]
  | n + 1, t => match P.underlying t with
    | some (.slice e) => [some e]
    | some (.struct fs) => fs.toList.flatMap fun f => slOf P n f.type
    | some (.array k e) => (List.replicate k (slOf P n e)).flatten
    | _ => [none]
def zcell : Option Nat → Value → PV
  | some e, .slice none 0 0 => match LX.nil e with
    | some x => .lst true x
    | none => .val (.slice none 0 0)
  | _, v => .val v
def zipZ : List (Option Nat) → List Value → List PV
  | _, [] => []
  | [], v :: vs => .val v :: zipZ [] vs
  | o :: os, v :: vs => zcell o v :: zipZ os vs
def allOne : List Value → Bool
  | [] => true
  | v :: r => match oneV v with
    | true => allOne r
    | false => false
def zeroP (P : Program) (t : Nat) : Option (List PV) := match zeroT P t with
  | some z => match allOne z with
    | true => some (zipZ (slOf P 8 t) z)
    | false => none
  | none => none
/-- ... with nil for a row -/
def zeroB (b : Bool) (P : Program) (t : Nat) : Option (List PV) := match b with
  | false => zeroP P t
  | true => match zeroT P t with
    | some z => match allOne z with
      | true => some (zipZ [] z)
      | false => none
    | none => none
/-- is the zero value of a type of this form? -/
def zKind (P : Program) (t : Nat) (g : Bool) : Bool := match (P.info? t).bind (·.zero) with
  | some (.agg _) => g
  | some (.tuple _) => false
  | some _ => !g
  | none => false
def partsT (fs : List (Nat × Nat)) : List (Nat × Operand) → Option (List (Nat × Nat × Operand))
  | [] => some []
  | (i, x) :: r => match fs[i]?, partsT fs r with
    | some (off, sz), some l => some ((off, sz, x) :: l)
    | _, _ => none
def denseT (i : Nat) : List (Nat × Operand) → Option (List Operand)
  | [] => some []
  | (j, x) :: r => match Nat.beq i j, denseT (i + 1) r with
    | true, some l => some (x :: l)
    | _, _ => none
def tagT (P : Program) (t : Nat) : Option Nat := match P.underlying t with
  | some .bool => some 0
  | some (.int _) => some 1
  | some .string => some 2
  | _ => none
def eqTags (P : Program) : List Field → Option (List (Nat × Nat))
  | [] => some []
  | f :: r => match f.name == "_", tagT P f.type, eqTags P r with
    | false, some tag, some l => some ((tag, f.offset) :: l)
    | _, _, _ => none
def seqTs : Nat → List (Nat × Nat) → Bool
  | _, [] => true
  | k, (_, o) :: r => match Nat.beq o k with
    | true => seqTs (k + 1) r
    | false => false
def arrTs (tag : Nat) : List Nat → List (Nat × Nat)
  | [] => []
  | k :: r => (tag, k) :: arrTs tag r
def eqPlan (P : Program) (t : Nat) : Option (List (Nat × Nat)) := match P.underlying t with
  | some (.struct fs) => match P.stoodInHeld t, P.eqGuardType P.depth t with
    | false, false => eqTags P fs.toList
    | _, _ => none
  | some (.array n e) => match tagT P e, Nat.beq (P.cellsOf e) 1 && (P.info? e).isSome, P.eqGuardType P.depth t with
    | some tag, true, false => some (arrTs tag (List.range n))
    | _, _, _ => none
  | _ => none
/-- how the keys of a type are compared -/
def keyPlan (P : Program) (t : Nat) : Option (Bool × List (Nat × Nat)) := match tagT P t with
  | some tag => some (false, [(tag, 0)])
  | none => match eqPlan P t with
    | some (x :: r) => match seqTs 0 (x :: r) with
      | true => some (true, x :: r)
      | false => none
    | _ => none
/-- may this function be called by its number? -/
def callable (P : Program) (f : Nat) : Bool := match P.funcs[f]? with
  | some fn => !(fn.name == "runtime.NumGoroutine") && fn.body.isSome
  | none => false
/-- is it one of the library's functions without a body that are known here? -/
def extOf (P : Program) (f : Nat) : Option Bool := match P.funcs[f]? with
  | some fn => match fn.body.isNone && decide (fn.origin = ""), decide (fn.name = "math/bits.Add64"), decide (fn.name = "math/bits.Sub64") with
    | true, true, _ => some false
    | true, false, true => some true
    | _, _, _ => none
  | none => none
def isNilS : Operand → Bool
  | .const (.slice none 0 0) => true
  | _ => false
def nilOf (P : Program) (t : Nat) : Option Nat := match P.underlying t with
  | some (.slice e) => match LX.nil e with
    | some _ => some e
    | none => none
  | _ => none
/-- the slots that are named; those that are named twice -/
def oneO : List Operand → Nat
  | [] => 0
  | .tmp t :: r => (1 <<< t) ||| oneO r
  | _ :: r => oneO r
def twiO : List Operand → Nat
  | [] => 0
  | .tmp t :: r => ((1 <<< t) &&& oneO r) ||| twiO r
  | _ :: r => twiO r
def oneP : List Oper → Nat
  | [] => 0
  | o :: r => oneO o.op.operands.toList ||| oneP r
def twiP : List Oper → Nat
  | [] => 0
  | o :: r => (oneO o.op.operands.toList &&& oneP r) ||| (twiO o.op.operands.toList ||| twiP r)
def oneC : Code → Nat
  | .region _ os _ => oneP os.toList
  | .seq a b => oneC a ||| oneC b
  | .cond c a b => oneO [c] ||| (oneC a ||| oneC b)
  | .block _ b => oneC b
  | .loop b => oneC b
  | _ => 0
def twiC : Code → Nat
  | .region _ os _ => twiP os.toList
  | .seq a b => (oneC a &&& oneC b) ||| (twiC a ||| twiC b)
  | .cond c a b => (oneO [c] &&& (oneC a ||| oneC b)) ||| ((oneC a &&& oneC b) ||| (twiC a ||| twiC b))
  | .block _ b => twiC b
  | .loop b => twiC b
  | _ => 0
/-- what is appended to -/
def appP : List Oper → Nat
  | [] => 0
  | o :: r => match o.op with
    | .call { callee := .builtin .append, args, argTypes := _ } => match args.toList with
      | .tmp t :: _ => (1 <<< t) ||| appP r
      | _ => appP r
    | _ => appP r
def appC : Code → Nat
  | .region _ os _ => appP os.toList
  | .seq a b => appC a ||| appC b
  | .cond _ a b => appC a ||| appC b
  | .block _ b => appC b
  | .loop b => appC b
  | _ => 0
def sprd (o a : Nat) : Nat → Nat
  | 0 => 0
  | n + 1 => (match Nat.testBit o n, Nat.testBit a n with
    | true, true => 3 <<< (2 * n)
    | true, false => 1 <<< (2 * n)
    | _, _ => 0) ||| sprd o a n
/-- the slots that are named just once (even bits); to be appended to (odd bits) -/
def onceM (c : Code) (n : Nat) : Nat := sprd (oneC c ^^^ (oneC c &&& twiC c)) (appC c) n
def sameOpd : Operand → Operand → Bool
  | .tmp a, .tmp b => Nat.beq a b
  | .const (.int .i64 a), .const (.int .i64 b) => decide (a = b)
  | _, _ => false
def zeroOpd : Operand → Bool
  | .const (.int .i64 a) => decide (a = 0)
  | _ => false
def nilK (P : Program) (x : Operand) (ty : Nat) (k : K) : K := match isNilS x, nilOf P ty with
  | true, some e => .nilsl e
  | _, _ => k
def takeK (P : Program) (ty : Nat) (x : Operand) : K := match isSlT P ty, x with
  | true, .tmp s => .take s
  | _, x => .move x
/-- does a move hand a row on? -/
def mvB (once d : Nat) : Bool := match Nat.testBit once (2 * d + 1) with
  | true => true
  | false => Nat.testBit once 40006 && Nat.testBit once (2 * d)
def moveK (P : Program) (once ty : Nat) (dst : Option Nat) (x : Operand) : K := match isSlT P ty, x, dst with
  | true, .tmp s, some d => match mvB once d with
    | true => .take s
    | false => .move (.tmp s)
  | _, x, _ => .move x
def loadK (P : Program) (once t : Nat) (dst : Option Nat) (g : Bool) (sz : Nat) (x : Operand) : K := match isSlT P t, dst with
  | true, some s => match Nat.testBit once (2 * s + 1) || Nat.testBit once 40008 with
    | true => .loadT x
    | false => .load g sz x
  | _, _ => .load g sz x
def storeK (P : Program) (once t sz : Nat) (a x : Operand) : K := match isSlT P t, x with
  | true, .tmp s => match Nat.testBit once (2 * s), Nat.beq sz 1 with
    | true, true => .storeT a s
    | _, _ => .store sz a x
  | _, _ => .store sz a x
/-- an append onto nothing that makes a variable (not where it is appended to at once) -/
def cloneB (once : Nat) (d : Option Nat) : Bool := Nat.testBit once 40001 && !(match d with | some d => Nat.testBit once (2 * d + 1) | none => false)
def cOp (P : Program) (inl : Nat → Bool) (once : Nat) (o : Oper) : K :=
  match o.op with
  | .move x => nilK P x o.type (moveK P once o.type o.dst x)
  | .assign x => nilK P x o.type (takeK P o.type x)
  | .pick c a b => .pick c a b
  | .alloc t => match zeroP P t with
    | some z => .alloc z
    | none => .stop
  | .box _ x => .box x
  | .build t parts => match zeroB (Nat.testBit once 40005) P t, fieldsT P t with
    | some z, some fs => match partsT fs parts.toList with
      | some l => .build z l
      | none => .stop
    | _, _ => .stop
  | .buildSlice t n parts => match P.underlying t with
    | some (.slice e) => match szT P e, zeroT P e, denseT 0 parts.toList with
      | some sz, some z, some l => match Nat.beq l.length n, Nat.ble (n * sz) 16777216, Nat.beq z.length sz, Nat.ble 1 sz with
        | true, true, true, true => .bslice e sz l
        | _, _, _, _ => .stop
      | _, _, _ => .stop
    | _ => .stop
  | .load t x => match P.underlying t, szT P t with
    | some _, some sz => match isAggT P t, Nat.beq sz 1 with
      | false, false => .stop
      | false, true => loadK P once t o.dst false sz x
      | true, _ => loadK P once t o.dst true sz x
    | _, _ => .stop
  | .store t a x => match o.dst, szT P t with
    | none, some sz => storeK P once t sz a x
    | _, _ => .stop
  | .fieldAddr t x f => match P.underlying t with
    | some (.struct fs) => match fs[f]? with
      | some fd => match szT P fd.type with
        | some (_ + 1) => .field fd.offset x
        | _ => .stop
      | none => .stop
    | _ => .stop
  | .indexAddr t x i => match P.underlying t with
    | some (.slice e) => match szT P e with
      | some sz => .index sz x i
      | none => .stop
    | some (.array n e) => match szT P e, i with
      | some sz, .const (.int .i64 k) => match decide (0 ≤ k) && decide (k < (n : Int)) with
        | true => .field (k.toNat * sz) x
        | false => .stop
      | _, _ => .stop
    | _ => .stop
  | .extract x i => .extract x i
  | .nilCheck x => .nil x
  | .makeFunc (.func f) first caps => match callable P f with
    | true => .mkfn f first.size (first.toList ++ caps.toList)
    | false => .stop
  | .makeSlice t l c => match P.underlying t with
    | some (.slice e) => match P.info? e, szT P e, zeroP P e with
      | some i, some sz, some z => match Nat.beq z.length sz, Nat.ble 1 sz, sameOpd l c, zeroOpd l with
        | true, true, true, _ => .mksl e sz i.bytes z l
        | true, true, false, true => .mkcap e sz i.bytes c
        | _, _, _, _ => .stop
      | _, _, _ => .stop
    | _ => .stop
  | .slice t x lo hi mx => match P.underlying t with
    | some .string => match mx with
      | none => .sstr x lo hi
      | some _ => .stop
    | some (.slice e) => match szT P e, (match mx, hi with | some _, none => false | _, _ => true) with
      | some sz, true => .slc sz x lo hi mx
      | _, _ => .stop
    | _ => .stop
  | .makeMap t none => match P.underlying t with
    | some (.map ek ev) => match LX.nil ek, LX.nil ev with
      | some x, some y => .mkmap (isAggT P ek) (isAggT P ev) x y
      | _, _ => .stop
    | _ => .stop
  | .lookup t m q ok => match P.underlying t with
    | some (.map ek ev) => match keyPlan P ek, zeroP P ev with
      | some (gq, ts), some z => match zKind P ev (isAggT P ev) with
        | true => .lookup gq ts ok (isAggT P ev) z m q
        | false => .stop
      | _, _ => .stop
    | _ => .stop
  | .mapUpdate t m q v => match P.underlying t, o.dst with
    | some (.map ek ev), none => match keyPlan P ek with
      | some (gq, ts) => .mapup gq ts m q v
      | none => .stop
    | _, _ => .stop
  | .call { callee := .value (.func f), args, argTypes := _ } => match callable P f with
    | true => match inl f with
      | true => match inl (4398046511104 + f) with
        | true => .ocall f args.toList
        | false => match inl (8796093022208 + f), args.toList with
          | true, .tmp s :: r => .icallT f (.tmp s :: r) s
          | _, l => .icall f l
      | false => .call f args.toList
    | false => match extOf P f, args.toList with
      | some b, [x, y, c] => .ext b x y c
      | _, _ => .stop
  | .call { callee := .builtin .delete, args, argTypes } => match o.dst, args.toList, argTypes.toList with
    | none, [m, q], t :: _ => match P.underlying t with
      | some (.map ek _) => match keyPlan P ek with
        | some (gq, ts) => .del gq ts m q
        | none => .stop
      | _ => .stop
    | _, _, _ => .stop
  | .call { callee := .value (.tmp x), args, argTypes := _ } => .callv (.tmp x) args.toList
  | .call { callee := .builtin .len, args, argTypes } => match args.toList, argTypes.toList with
    | [x], [t] => match isSlT P t with
      | true => .len x
      | false => .scal o
    | _, _ => .stop
  | .call { callee := .builtin .cap, args, argTypes } => match args.toList, argTypes.toList with
    | [x], [t] => match isSlT P t with
      | true => .cap x
      | false => .stop
    | _, _ => .stop
  | .call { callee := .builtin .append, args, argTypes } => match args.toList, argTypes.toList with
    | [.tmp s, x], [t, t'] => match Nat.beq t t', P.underlying t with
      | true, some (.slice e) => match P.info? e with
        | some i => match i.zero with
          | some z => match Nat.beq z.cells.size i.size, Nat.ble 1 i.size with
            | true, true => match cloneB once o.dst && !(inl (2199023255552 + e)) with
              | true => .clone (Nat.testBit once 40002) e i.size i.bytes s x
              | false => .app e i.size i.bytes s x
            | _, _ => .stop
          | none => .stop
        | none => .stop
      | _, _ => .stop
    | _, _ => .stop
  | .call { callee := .builtin .min, args := _, argTypes := _ } | .call { callee := .builtin .max, args := _, argTypes := _ } => .scal o
  | .binOp b t x y _ => match isAggT P t with
    | false => match b, P.underlying t with
      | .quo, some (.int _) => .bin2 0 x y
      | .rem, some (.int _) => .bin2 1 x y
      | .shl, some (.int _) => .bin2 2 x y
      | .shr, some (.int _) => .bin2 3 x y
      | .add, some .string => .bin2 4 x y
      | .eql, some (.slice _) => .bin2 6 x y
      | .neq, some (.slice _) => .bin2 7 x y
      | _, _ => .scal o
    | true => match b, eqPlan P t with
      | .eql, some ts => .eqA false ts x y
      | .neq, some ts => .eqA true ts x y
      | _, _ => .stop
  | .convert b t x => match P.underlying b, P.underlying t with
    | some (.slice e), some .string => match P.underlying e with
      | some (.int .u8) => .bstr x
      | _ => .stop
    | _, _ => .scal o
  | .unOp .. => .scal o
  | .index t x i => match P.underlying t with
    | some .string => .bin2 5 x i
    | _ => .stop
  | _ => .stop
def cGuard (os : Array Oper) : Option (Nat × Bool) → Option (Option (Nat × Bool))
  | none => some none
  | some (j, w) => match (os[j]?).bind (·.dst) with
    | some s => some (some (s, w))
    | none => none
def cOps (P : Program) (inl : Nat → Bool) (once : Nat) (os : Array Oper) : List Oper → Option (List EOp)
  | [] => some []
  | o :: r => match cGuard os o.guard, cOps P inl once os r with
    | some g, some l => some (⟨o.dst, g, cOp P inl once o⟩ :: l)
    | _, _ => none
/-- which slots an operation reads and writes; does it touch variables? -/
def K.heapy : K → Bool
  | .alloc _ | .box _ | .load .. | .loadT .. | .store .. | .storeT .. | .call .. | .icall .. | .icallT .. | .callv .. | .mksl .. | .clone .. | .mkmap .. | .lookup .. | .mapup .. | .del .. => true
  | _ => false
def K.isStore : K → Bool
  | .store .. | .storeT .. | .loadT .. | .icall .. | .icallT .. | .callv .. | .mapup .. | .del .. => true
  | _ => false
/-- may it touch all variables? -/
def K.wild : K → Bool
  | .icall .. | .icallT .. | .callv .. => true
  | _ => false
def K.makes : K → Bool
  | .alloc _ | .box _ | .mksl .. | .clone .. | .mkmap .. => true
  | _ => false
def tmpsOf : List Operand → List Nat
  | [] => []
  | .tmp t :: r => t :: tmpsOf r
  | _ :: r => tmpsOf r
def optL : Option Operand → List Operand
  | some x => [x]
  | none => []
def K.opds : K → List Operand
  | .move x | .bstr x | .box x | .load _ _ x | .loadT x | .field _ x | .len x | .cap x | .extract x _ | .nil x | .aidx _ _ _ x => [x]
  | .take s => [.tmp s]
  | .pick c a b => [c, a, b]
  | .alloc _ | .nilsl _ | .mkmap .. | .stop => []
  | .build _ ps => ps.map fun p => p.2.2
  | .bslice _ _ ps => ps
  | .store _ a x | .index _ a x | .eqA _ _ a x | .bin2 _ a x | .del _ _ a x | .lookup _ _ _ _ _ a x => [a, x]
  | .storeT a s => [a, .tmp s]
  | .mapup _ _ m q v => [m, q, v]
  | .ext _ x y c => [x, y, c]
  | .scal o => o.op.operands.toList
  | .app _ _ _ s x | .clone _ _ _ _ s x => [.tmp s, x]
  | .call _ args | .icall _ args | .ocall _ args | .mkfn _ _ args => args
  | .icallT _ args s => .tmp s :: args
  | .callv x args => x :: args
  | .mksl _ _ _ _ n | .mkcap _ _ _ n => [n]
  | .slc _ x lo hi mx => x :: (optL lo ++ optL hi ++ optL mx)
  | .sstr x lo hi => x :: (optL lo ++ optL hi)
def EOp.reads (o : EOp) : List Nat := tmpsOf o.k.opds ++ (match o.g with | some (s, _) => [s] | none => [])
def EOp.writes (o : EOp) : List Nat := (match o.dst with | some d => [d] | none => []) ++ (match o.k with | .take s => [s] | .app _ _ _ s _ => [s] | .clone _ _ _ _ s _ => [s] | .storeT _ s => [s] | .icallT _ _ s => [s] | _ => [])
def meets (a b : List Nat) : Bool := a.any fun x => b.any fun y => Nat.beq x y
/-- the slot of the pointer that is read or written through -/
def K.addr : K → Option Nat
  | .load _ _ (.tmp a) => some a
  | .loadT (.tmp a) => some a
  | .store _ (.tmp a) _ => some a
  | .storeT (.tmp a) _ => some a
  | _ => none
def inPairs (a b : Nat) : List (Nat × Nat) → Bool
  | [] => false
  | (c, d) :: r => (Nat.beq a c && Nat.beq b d) || (Nat.beq a d && Nat.beq b c) || inPairs a b r
def freed (ap : List (Nat × Nat)) (x y : EOp) : Bool := match x.k.addr, y.k.addr with
  | some a, some b => inPairs a b ap
  | _, _ => false
def K.isLoad : K → Bool
  | .load .. => true
  | .call .. => true
  | _ => false
def K.isTake : K → Bool
  | .loadT _ => true
  | _ => false
/-- reading, and what reading does not see -/
def calm (fx : Bool) (x : K) (fy : Bool) (y : K) : Bool := ((x.isTake || fx) && y.isLoad) || (x.isLoad && (y.isTake || fy))
def clash (ap : List (Nat × Nat)) (fx : Bool) (x : EOp) (fy : Bool) (y : EOp) : Bool :=
  meets x.writes y.reads || meets x.writes y.writes || meets x.reads y.writes || (((x.k.isStore && y.k.heapy) || (x.k.heapy && y.k.isStore)) && !freed ap x y && !calm fx x.k fy y.k)
def unwritten (a : Nat) : List EOp → Bool
  | [] => true
  | e :: r => match notIn a e.writes with
    | true => unwritten a r
    | false => false
def addrsOf : List EOp → List Nat
  | [] => []
  | e :: r => match e.k.addr with
    | some a => a :: addrsOf r
    | none => addrsOf r
def pairsWith (l : List EOp) (a : Nat) : List Nat → List (Nat × Nat)
  | [] => []
  | b :: r => match Nat.beq a b, unwritten b l with
    | false, true => (a, b) :: pairsWith l a r
    | _, _ => pairsWith l a r
/-- what to ask for: the variables written differ from the others -/
def wantAp (l : List EOp) : List EOp → List (Nat × Nat)
  | [] => []
  | e :: r => match e.k.isStore, e.k.addr with
    | true, some a => match unwritten a l with
      | true => pairsWith l a (addrsOf l) ++ wantAp l r
      | false => wantAp l r
    | _, _ => wantAp l r
def apUnwritten (l : List EOp) : List (Nat × Nat) → Bool
  | [] => true
  | (a, b) :: r => unwritten a l && unwritten b l && apUnwritten l r
/-- edges that bind whatever the order -/
def edgesOf (o : Oper) : List Nat := (o.after.toList.filter fun e => Region.binds .any e).map (·.on)
def maskOf (acc : List Nat) : List Nat → Nat
  | [] => 0
  | e :: r => (1 <<< e) ||| (acc.getD e 0) ||| maskOf acc r
def ancs : List Oper → List Nat → List Nat
  | [], acc => acc
  | o :: r, acc => ancs r (acc ++ [maskOf acc (edgesOf o)])
def below (n : Nat) (p : Nat → Bool) : Bool := match n with
  | 0 => true
  | n + 1 => match p n with
    | true => below n p
    | false => false
/-- is this slot the address of a variable that is made by this operation? -/
def EOp.mkAt (a : Nat) (e : EOp) : Bool := match e.k, e.g, e.dst with
  | .alloc _, none, some d => Nat.beq d a
  | .box _, none, some d => Nat.beq d a
  | _, _, _ => false
def soleW (l : List EOp) (a k : Nat) : Bool := below l.length fun j => Nat.beq j k || (match l[j]? with | some e => notIn a e.writes | none => true)
/-- a store into a variable that was made just before -/
def freshOp (l : List EOp) (j : Nat) : Bool := match l[j]? with
  | some e => e.k.isStore && !e.k.isTake && (match e.k.addr with
    | some a => !(below j fun k => !(match l[k]? with | some e' => e'.mkAt a && soleW l a k | none => false))
    | none => false)
  | none => false
def pairOK (ap : List (Nat × Nat)) (l : List EOp) (A : List Nat) (i j : Nat) : Bool := match l[i]?, l[j]? with
  | some x, some y => match clash ap (freshOp l i) x (freshOp l j) y with
    | true => Nat.testBit (A.getD j 0) i
    | false => true
  | _, _ => true
def edgesBelow (j : Nat) : List Nat → Bool
  | [] => true
  | e :: r => match Nat.blt e j with
    | true => edgesBelow j r
    | false => false
def drawOK (ap : List (Nat × Nat)) (os : List Oper) (l : List EOp) : Bool :=
  apUnwritten l ap && below os.length fun j => below j (fun i => pairOK ap l (ancs os []) i j) && (match os[j]? with | some o => edgesBelow j (edgesOf o) | none => true)
def dstsOK (nt : Nat) : List EOp → Bool
  | [] => true
  | o :: r => match o.dst with
    | some d => match Nat.blt d nt with
      | true => dstsOK nt r
      | false => false
    | none => dstsOK nt r
/-- the variables of a body -/
def insN (d : Nat) (l : List Nat) : List Nat := match notIn d l with
  | true => l ++ [d]
  | false => l
def varsOps : List Oper → List Nat → List Nat
  | [], l => l
  | o :: r, l => varsOps r (match o.op, o.dst with
    | .assign _, some d => insN d l
    | .alloc _, some d => insN d l
    | .box _ _, some d => insN d l
    | _, _ => l)
def varsCode : Code → List Nat → List Nat
  | .region _ os _, l => varsOps os.toList l
  | .seq a b, l => varsCode b (varsCode a l)
  | .cond _ a b, l => varsCode b (varsCode a l)
  | .block _ b, l => varsCode b l
  | .loop b, l => varsCode b l
  | _, l => l
/-- slots that are moved to in two places: hidden variables -/
def movesOps : List Oper → List Nat
  | [] => []
  | o :: r => match o.op, o.dst with
    | .move _, some d => d :: movesOps r
    | _, _ => movesOps r
def movesCode : Code → List Nat
  | .region _ os _ => movesOps os.toList
  | .seq a b => movesCode a ++ movesCode b
  | .cond _ a b => movesCode a ++ movesCode b
  | .block _ b => movesCode b
  | .loop b => movesCode b
  | _ => []
def dupsOf : List Nat → List Nat
  | [] => []
  | d :: r => match notIn d r with
    | true => dupsOf r
    | false => d :: dupsOf r
/-- the variables that a region makes -/
def madeBy : List EOp → List Nat
  | [] => []
  | o :: r => match o.k.makes, o.dst with
    | true, some d => d :: madeBy r
    | _, _ => madeBy r
/-- the slots that code names, as bits -/
def maskT : List Nat → Nat
  | [] => 0
  | s :: r => (1 <<< s) ||| maskT r
def maskO : List Oper → Nat
  | [] => 0
  | o :: r => maskT (tmpsOf o.op.operands.toList) ||| (match o.dst with | some d => 1 <<< d | none => 0) ||| maskO r
def maskC : Code → Nat
  | .region _ os _ => maskO os.toList
  | .seq a b => maskC a ||| maskC b
  | .cond c a b => maskT (tmpsOf [c]) ||| maskC a ||| maskC b
  | .block _ b => maskC b
  | .loop b => maskC b
  | _ => 0
def maskR : List ResultVar → Nat
  | [] => 0
  | .tmp t :: r => (1 <<< t) ||| maskR r
  | .cell t _ :: r => (1 <<< t) ||| maskR r
def slotsR : List ResultVar → List Nat
  | [] => []
  | .tmp t :: r => t :: slotsR r
  | .cell t _ :: r => t :: slotsR r
/-- what must be known at a loop's head: variables, and what the body names, of what is named outside the body -/
def headKeys (nt : Nat) (V : List Nat) (out body : Nat) : List Nat :=
  (List.range nt).filter fun s => Nat.testBit out s && (Nat.testBit body s || !(notIn s V))
def simpleC : Code → Bool
  | .exit _ => true
  | .ret => true
  | .skip => true
  | _ => false
def liveS (nt m : Nat) : List Nat := (List.range nt).filter fun s => Nat.testBit m s
/-- the slots whose rows are handed on -/
def frzGo : List EOp → List Nat → List Nat
  | [], acc => acc
  | o :: r, acc => frzGo r (match o.k, o.dst with
    | .bslice _ _ ps, _ => tmpsOf ps ++ acc
    | .call _ args, _ => tmpsOf args ++ acc
    | .move (.tmp s), some d => match notIn d acc with
      | true => acc
      | false => s :: remK d acc
    | .take s, some d => match notIn d acc with
      | true => acc
      | false => s :: remK d acc
    | _, _ => acc)
/-- a loop over a map -/
structure RngP where
  t : Nat
  os1 : Array Oper
  pre : List Oper
  m : Operand
  it : Nat
  nx : Nat
  more : Nat
  pair : Nat
  n : Nat
  os3 : Array Oper
  rest : List Oper
def rngHd (os1 os2 os3 : Array Oper) (mo n : Nat) : Option RngP := match os1.toList.reverse, os2.toList, os3.toList with
  | ⟨some it, .range t m, _, _, _, none⟩ :: pre, [⟨some nx, .next (.tmp it') false, _, _, _, none⟩, ⟨some mo', .extract (.tmp nx') 0, _, _, _, none⟩], ⟨some pair, .entry (.tmp it''), _, _, _, none⟩ :: rest =>
    match Nat.beq it it' && Nat.beq it it'' && Nat.beq nx nx' && Nat.beq mo mo' && !Nat.beq it nx && !Nat.beq it mo with
    | true => some ⟨t, os1, pre.reverse, m, it, nx, mo, pair, n, os3, rest⟩
    | false => none
  | _, _, _ => none
def rngP : Code → Code → Option RngP
  | .region _ os1 false, .block o (.loop (.seq (.region _ os2 false) (.seq (.cond (.tmp mo) .skip (.exit o')) (.block n (.seq (.region _ os3 false) _))))) => match Nat.beq o o' with
    | true => rngHd os1 os2 os3 mo n
    | false => none
  | _, _ => none
def projB : EC → Option (List Nat × EC)
  | .block _ (.loop keys (.seq _ (.seq (.kp _) (.seq _ (.seq (.kp _) (.block _ (.seq _ v))))))) => some (keys, v)
  | _ => none
def isMapT (P : Program) (t : Nat) : Bool := match P.underlying t with
  | some (.map _ _) => true
  | _ => false
def rngC (P : Program) (inl : Nat → Bool) (once nt : Nat) (p : RngP) : Option (List Nat × EC) → EC
  | some (keys, v) => match cOps P inl once p.os1 p.pre, cOps P inl once p.os3 p.rest with
    | some l1, some l3 => match dstsOK nt l1 && dstsOK nt l3 && Nat.blt p.it nt && Nat.blt p.nx nt && Nat.blt p.more nt && Nat.blt p.pair nt && isMapT P p.t && !notIn p.it keys with
      | true => .rng l1 p.m p.it p.nx p.more p.pair keys l3 v p.n
      | false => .stop
    | _, _ => .stop
  | none => .stop
def frzV (once : Nat) (V : List Nat) : List Nat := match Nat.testBit once 40007 with
  | true => V
  | false => []
def loopR (once : Nat) (V : List Nat) (e : EC) : EC := match Nat.testBit once 40007 with
  | true => .seq (.vws V) e
  | false => e
def regR (once : Nat) (V : List Nat) (l : List EOp) : EC := match Nat.testBit once 40007 with
  | true => .seq (.regS l) (.vws V)
  | false => .regS l
def vwR (once : Nat) (V : List Nat) (st : St) : St := match Nat.testBit once 40007 with
  | true => st.vwL V
  | false => st
def cCode (P : Program) (inl : Nat → Bool) (once nt : Nat) (V : List Nat) (out lt : Nat) : Code → EC
  | .skip => .skip
  | .region _ os d => match cOps P inl once os os.toList with
    | some l => match dstsOK nt l with
      | true => match d with
        | true => match drawOK [] os.toList l with
          | true => .region (madeBy l) [] l
          | false => match drawOK (wantAp l l) os.toList l with
            | true => .region (madeBy l) (wantAp l l) l
            | false => .stop
        | false => match Nat.testBit once 40003 with
          | true => .seq (.frz (frzGo l.reverse (frzV once V))) (regR once V l)
          | false => regR once V l
      | false => .stop
    | none => .stop
  | .seq a b => match rngP a b with
    | some p => rngC P inl once nt p (projB (cCode P inl once nt V (out ||| maskC a) lt b))
    | none => .seq (cCode P inl once nt V (out ||| maskC b) (lt ||| maskC b) a) (match simpleC b with
    | true => cCode P inl once nt V (out ||| maskC a) lt b
    | false => .seq (.kp (liveS nt (lt ||| maskC b))) (cCode P inl once nt V (out ||| maskC a) lt b))
  | .cond c a b => .cond c (cCode P inl once nt V (out ||| maskC b ||| maskT (tmpsOf [c])) lt a) (cCode P inl once nt V (out ||| maskC a ||| maskT (tmpsOf [c])) lt b)
  | .block id b => .block id (cCode P inl once nt V out lt b)
  | .loop b => loopR once V (match Nat.testBit once 40004 with
    | true => .loopU (headKeys nt V out (maskC b)) (cCode P inl once nt (V ++ headKeys nt V out (maskC b)) out (lt ||| maskC b) b)
    | false => .loop (headKeys nt V out (maskC b)) (cCode P inl once nt (V ++ headKeys nt V out (maskC b)) out (lt ||| maskC b) b))
  | .exit id => .exit id
  | .ret => .ret
  | _ => .stop
/-- what is said of a function beside: its rows are cloned into variables, .. -/
def flagK (inl : Nat → Bool) (fn : Func) (j b : Nat) : Nat := match inl (1099511627776 + ((match fn.params.toList with | t :: _ => t | [] => 0) * 16777216 + fn.endLine * 4096 + fn.ntmps) * 8 + j) with
  | true => 1 <<< b
  | false => 0
/-- this function, compiled -/
def cFn (P : Program) (inl : Nat → Bool) (fn : Func) : Option EC := match fn.body with
  | some c => some (cCode P inl (onceM c fn.ntmps ||| flagK inl fn 0 40001 ||| flagK inl fn 1 40003 ||| flagK inl fn 2 40002 ||| flagK inl fn 3 40004 ||| flagK inl fn 4 40005 ||| flagK inl fn 5 40006 ||| flagK inl fn 6 40007 ||| flagK inl fn 7 40008) fn.ntmps (varsCode c (List.range fn.params.size ++ slotsR fn.results.toList ++ dupsOf (movesCode c))) (maskT (List.range fn.params.size) ||| maskR fn.results.toList) (maskR fn.results.toList) c)
  | none => none
/-- a result: no pointer into this frame -/
def rowsOf (sz : Nat) : Nat → List PV → List (List PV)
  | 0, _ => []
  | n + 1, l => l.take sz :: rowsOf sz n (l.drop sz)
def PV.finN (O : Nat → List PV) : Nat → PV → PV
  | 0, p => p.pure0
  | m + 1, p => match p with
  | .vw c d e sz n => match c, O d with
    | false, [.arrO x] => match Nat.beq sz x.sz with
      | true => .lst false x
      | false => .any
    | true, cs => match LX.lit e (rowsOf sz n (cs.map (PV.finN O m))), lenIs cs (n * sz) && plain cs with
      | some x, true => match Nat.beq sz x.sz with
        | true => .lst false x
        | false => .any
      | _, _ => .any
    | _, _ => .any
  | p => p.pure0
def PV.fin1 (O : Nat → List PV) (p : PV) : PV := PV.finN O 3 p
def PV.fin (O : Nat → List PV) : PV → PV
  | .agg l => .agg (l.map (PV.fin1 O))
  | .tup l => .tup (l.map (PV.fin1 O))
  | .sl _ e sz es => .sl false e sz (es.map fun r => r.map PV.pure0)
  | p => p.fin1 O
def evRes (P : Program) (st : St) : List ResultVar → (List PV → Prop) → Prop
  | [], k => k []
  | .tmp t :: r, k => evRes P st r fun l => k (st.get t :: l)
  | .cell a t :: r, k => match st.get a, szT P t, P.underlying t with
    | .loc b off, some sz, some _ => match isAggT P t, Nat.beq sz 1, lenGe ((st.obj b).drop off) sz && plain (((st.obj b).drop off).take sz) with
      | true, _, true => evRes P st r fun l => k (.agg (((st.obj b).drop off).take sz) :: l)
      | false, true, true => evRes P st r fun l => k (mkP false (((st.obj b).drop off).take sz) :: l)
      | _, _, _ => False
    | _, _, _ => False
def frArgsT (i : Nat) : List PV → List (Nat × PV)
  | [] => []
  | p :: r => (i, p) :: frArgsT (i + 1) r
def frArgs (i : Nat) : List PV → List (Nat × PV)
  | [] => []
  | p :: r => (i, p.view) :: frArgs (i + 1) r
def finish (O : Nat → List PV) (k : PV → Prop) : List PV → Prop
  | [r] => k (r.fin O)
  | l => k (.tup (l.map (PV.fin O)))
def kEnd (P : Program) (rs : List ResultVar) (k : PV → Prop) : Ex → St → Prop := fun e st => match e with
  | .exit _ => False
  | .normal => evRes P st rs (finish st.obj k)
  | .ret => evRes P st rs (finish st.obj k)
def finishI (ob : List (Nat × List PV)) (k : PV → List (Nat × List PV) → Prop) : List PV → Prop
  | [r] => k r ob
  | l => k (.tup (l.map PV.view)) ob
/-- behind a call in place: the results, and the variables that they name (and the caller's) -/
def St.endI (st : St) (rs : List ResultVar) : St := match rs with
  | [] => match longer 7 (liveK st) with
    | false => st
    | true => keepF (slotsR rs) (gcK (slotsR rs) st) st
  | _ :: _ => st
def kEndI (P : Program) (rs : List ResultVar) (k : PV → List (Nat × List PV) → Prop) : Ex → St → Prop := fun e st => match e with
  | .exit _ => False
  | .normal => evRes P (st.endI rs) rs (finishI (normO (st.endI rs).ob) k)
  | .ret => evRes P (st.endI rs) rs (finishI (normO (st.endI rs).ob) k)
/-- what mentions no variable -/
def allP (f : PV → Bool) : List PV → Bool
  | [] => true
  | p :: r => match f p with
    | true => allP f r
    | false => false
def PV.fx1 : PV → Bool
  | .agg l => allP PV.flat l
  | p => p.flat
def PV.fx : PV → Bool
  | .tup l => allP PV.fx1 l
  | p => p.fx1
/-- an argument, as it is handed over -/
def PV.cross : PV → PV
  | .agg l => .agg (l.map PV.pure0)
  | p => p.pure0
/-- cells that mention no variable and own nothing -/
def PV.cellOK : PV → Bool
  | .any => true
  | .val _ => true
  | .lst false _ => true
  | _ => false
def okC (l : List PV) : Bool := allP PV.cellOK l
/-- .. or own rows of plain data -/
def PV.cellOD : PV → Bool
  | .any => true
  | .val _ => true
  | .lst _ _ => true
  | _ => false
def okD (l : List PV) : Bool := allP PV.cellOD l
/-- a call that changes one variable of ours, through a pointer to it: by its contract -/
def stK (P : Program) (C : Oracle) (f : Nat) (args : List PV) (ob : List (Nat × List PV)) (k : PV → List (Nat × List PV) → Prop) : Prop := match args with
  | .loc d 0 :: ps => match notIn d (ob.map Prod.fst), okD (look [] ob d), callable P f with
    | false, true, true => C f (.tup (look [] ob d) :: ps.map PV.cross) fun r => match r with
      | .tup [r0, .agg l] => k r0 [(d, l)]
      | _ => False
    | _, _, _ => False
  | _ => False
/-- a call whose result is a row of our own: by its contract -/
def ownK (P : Program) (C : Oracle) (f : Nat) (args : List PV) (k : PV → List (Nat × List PV) → Prop) : Prop := match callable P f, allP PV.fx1 args with
  | true, true => C f (.tup [] :: args) fun r => match r with
    | .lst false x => k (.lst true x) []
    | _ => False
  | _, _ => False
/-- slices.Grow of the nil slice: an empty row of our own -/
def growK (e b : Nat) (args : List PV) (k : PV → List (Nat × List PV) → Prop) : Prop := match args, LX.nil e with
  | [.val (.slice none 0 0), .val (.int .i64 m)], some x => gd (0 ≤ m) (gd (m * (b : Int) ≤ 140737488355328) (gd (m ≤ (4611686018427387904 : Int)) (k (.lst true x) [])))
  | _, _ => False
/-- a call that is carried out in place: one step -/
def evJ (P : Program) (inl : Nat → Bool) (C : Oracle) (L : Nat) (X : Inl) : Inl := fun f args ob k => match inl f with
    | true => match P.funcs[f]? with
      | some fn => match cFn P inl fn, Nat.ble args.length fn.ntmps, callable P f with
        | some ec, true, true => evC P C X L ec { fr := frArgsT 0 args, ob := ob, base := nextId ob } (kEndI P fn.results.toList k)
        | _, _, _ => False
      | none => False
    | false => match callable P f with
      | true => C f (args.map (snap (look [] ob))) fun r => k r.view []
      | false => False
/-- slices.Clone of an empty row: an empty row of our own -/
def cloneK (e : Nat) (args : List PV) (k : PV → List (Nat × List PV) → Prop) (E : Prop) : Prop := match args, LX.nil e with
  | [.lst _ z], some n => br (Nat.beq z.len 0) (k (.lst true n) []) E
  | _, _ => E
def evB (P : Program) (inl : Nat → Bool) (G : Nat → Option (Nat × Nat)) (C : Oracle) (L : Nat) (X : Inl) : Inl := fun f args ob k => match G f with
   | some (e, b) => match Nat.beq b 0 with
     | true => cloneK e args k (evJ P inl C L X f args ob k)
     | false => match Nat.beq b 2000000 with
       | true => stK P C f args ob k
       | false => match Nat.beq b 3000000 with
         | true => ownK P C f args k
         | false => growK e b args k
   | none => evJ P inl C L X f args ob k
def evI0 (P : Program) (inl : Nat → Bool) (G : Nat → Option (Nat × Nat)) (C : Oracle) (L : Nat) : Nat → Inl
  | 0, _, _, _, _ => False
  | n + 1, f, args, ob, k => evB P inl G C L (evI0 P inl G C L n) f args ob k
/-- ... that is not looked into -/
noncomputable def YoS (P : Program) (inl : Nat → Bool) (G : Nat → Option (Nat × Nat)) (C : Oracle) (L : Nat) : { Y : Nat → Inl // Y = evI0 P inl G C L } := Classical.choice ⟨⟨evI0 P inl G C L, rfl⟩⟩
noncomputable def Yo (P : Program) (inl : Nat → Bool) (G : Nat → Option (Nat × Nat)) (C : Oracle) (L : Nat) : Nat → Inl := (YoS P inl G C L).1
/-- ... the functions 'J' are not looked into -/
noncomputable def evI (P : Program) (inl : Nat → Bool) (G : Nat → Option (Nat × Nat)) (J : Nat → Bool) (C : Oracle) (L : Nat) : Nat → Inl
  | 0, _, _, _, _ => False
  | n + 1, f, args, ob, k => match J f with
    | true => Yo P inl G C L (n + 1) f args ob k
    | false => evB P inl G C L (evI P inl G J C L n) f args ob k
theorem Yo_eq (P : Program) (inl : Nat → Bool) (G : Nat → Option (Nat × Nat)) (C : Oracle) (L : Nat) : Yo P inl G C L = evI0 P inl G C L := (YoS P inl G C L).2
theorem evI_eq (P : Program) (inl : Nat → Bool) (G : Nat → Option (Nat × Nat)) (J : Nat → Bool) (C : Oracle) (L : Nat) : ∀ n, evI P inl G J C L n = evI0 P inl G C L n
  | 0 => rfl
  | n + 1 => by
    funext f args ob k
    simp only [evI, evI0, Yo_eq, evI_eq P inl G J C L n]
    cases J f <;> rfl
/-- does it change a variable of its caller's? -/
def headT : List PV → Bool
  | .tup _ :: _ => true
  | _ => false
/-- what a function that changes one variable of its caller's hands back: its result, and the variable's cells -/
def kSt (cells : List PV) (k : PV → Prop) : PV → List (Nat × List PV) → Prop := fun r o => match okD (look [] (o ++ [(0, cells)]) 0), r.fx with
  | true, true => k (.tup [r, .agg (look [] (o ++ [(0, cells)]) 0)])
  | _, _ => False
def evFnS (P : Program) (C : Oracle) (X : Inl) (L : Nat) (rs : List ResultVar) (ec : EC) (cells : List PV) (args : List PV) (k : PV → Prop) : Prop :=
  evC P C X L ec { fr := frArgs 0 (.loc 0 0 :: args), ob := [(0, cells)], base := nextId [(0, cells)] } (kEndI P rs (kSt cells k))
/-- what is left when a function returns a row of the caller's own: the row -/
def kEndO (P : Program) (rs : List ResultVar) (k : PV → Prop) : Ex → St → Prop := fun e st => match e with
  | .exit _ => False
  | .normal => evRes P (keepF (slotsR rs) [] st) rs (fun l => match l with
    | [.lst true x] => k (.lst false x)
    | _ => False)
  | .ret => evRes P (keepF (slotsR rs) [] st) rs (fun l => match l with
    | [.lst true x] => k (.lst false x)
    | _ => False)
def evFnO (P : Program) (C : Oracle) (X : Inl) (L : Nat) (rs : List ResultVar) (ec : EC) (args : List PV) (k : PV → Prop) : Prop :=
  evC P C X L ec { fr := frArgs 0 args, ob := [], base := 0 } (kEndO P rs k)
/-- a function's body, its arguments given -/
def evFn (P : Program) (C : Oracle) (X : Inl) (L : Nat) (rs : List ResultVar) (ec : EC) (args : List PV) (k : PV → Prop) : Prop := match headT args with
  | true => False
  | false => evC P C X L ec { fr := frArgs 0 args, ob := [], base := 0 } (kEnd P rs k)
theorem evFn_head {P : Program} {C : Oracle} {X : Inl} {L : Nat} {rs : List ResultVar} {ec : EC} {args : List PV} {k : PV → Prop} (h : evFn P C X L rs ec args k) : headT args = false ∧ evC P C X L ec { fr := frArgs 0 args, ob := [], base := 0 } (kEnd P rs k) := by
  unfold evFn at h
  cases hh : headT args with
  | true => rw [hh] at h; exact h.elim
  | false => rw [hh] at h; exact ⟨rfl, h⟩
end Go.Proofs.YtpdlcbmnmeihoaaGreatDoor.Ev
namespace Go.Proofs.YtpdlcbmnmeihoaaGreatDoor.Ev
open Go Go.RowKit
/-- from which cell on may a block still be written? -/
abbrev Mut := Nat → Option Nat
/-- where our variables lie, and how many rows they have -/
abbrev Loc := Nat → Option (Nat × Nat)
def imm (M : Mut) (a : Addr) : Prop := ∀ n, M a.block = some n → a.off < n
/-- the world at the beginning, and which of its blocks are not ours -/
structure Base where
  w : World
  old : Nat → Prop
  lt : ∀ b, old b → b < w.heap.size
structure Bel (B : Base) (w : World) : Prop where
  os : w.os = B.w.os
  tape : w.tape = B.w.tape
  output : w.output = B.w.output
  size : B.w.heap.size ≤ w.heap.size
  block : ∀ k, B.old k → w.heap[k]? = B.w.heap[k]?
inductive Rel (w : World) (M : Mut) (β : Loc) (B : Nat → Prop) : PV → Value → Prop
  | any (v : Value) : Rel w M β B .any v
  | val (v : Value) (h : v.oneCell' = true) : Rel w M β B (.val v) v
  | agg (l : List PV) (cs : List Value) (hl : l.length = cs.length) (h1 : ∀ v ∈ cs, v.oneCell' = true)
      (hr : ∀ (i : Nat) (p : PV) (v : Value), l[i]? = some p → cs[i]? = some v → Rel w M β B p v) : Rel w M β B (.agg l) (.agg cs.toArray)
  | tup (l : List PV) (cs : List Value) (hl : l.length = cs.length)
      (hr : ∀ (i : Nat) (p : PV) (v : Value), l[i]? = some p → cs[i]? = some v → Rel w M β B p v) : Rel w M β B (.tup l) (.tuple cs.toArray)
  | row (p : PV) (s : SV) (hs : p.sv = some s) (a : Option Addr) (c : Nat) (vs : Nat → Nat → Value)
      (hc : s.n ≤ c) (hsz : ∀ (i : Nat), i < s.n → (s.f i).length = s.sz) (ha : ∀ (i : Nat), i < s.n → ∃ ad, a = some ad)
      (hm : ∀ (ad : Addr) (i : Nat) (j : Nat) (p : PV), a = some ad → i < s.n → (s.f i)[j]? = some p → imm M (ad.add (i * s.sz + j)) ∧ w.cell? (ad.add (i * s.sz + j)) = some (vs i j) ∧ (vs i j).oneCell' = true)
      (hr : ∀ (i : Nat) (j : Nat) (p : PV), i < s.n → (s.f i)[j]? = some p → Rel w M β B p (vs i j)) : Rel w M β B p (.slice a s.n c)
  | loc (d off b n : Nat) (h : β d = some (b, n)) : Rel w M β B (.loc d off) (.pointer (some ⟨b, off, none⟩))
  | el (d sz i off b n : Nat) (h : β d = some (b, n)) (hi : i < n) : Rel w M β B (.el d sz i off) (.pointer (some ⟨b, i * sz + off, none⟩))
  | vw (cf : Bool) (d e sz n b c : Nat) (h : β d = some (b, n)) (hc : n ≤ c) : Rel w M β B (.vw cf d e sz n) (.slice (some ⟨b, 0, none⟩) n c)
  | mp (d b n : Nat) (h : β d = some (b, n)) : Rel w M β B (.mp d) (.map (some b))
  | clo (f n : Nat) (l : List PV) (cs : List Value) (hl : l.length = cs.length)
      (hr : ∀ (i : Nat) (p : PV) (v : Value), l[i]? = some p → cs[i]? = some v → Rel w M β B p v) : Rel w M β B (.clo f n l) (.func (.func f) (cs.take n).toArray (cs.drop n).toArray)
  | ref (l : List PV) (ad : Addr) (vs : Nat → Value) (hm : ∀ (i : Nat) (p : PV), l[i]? = some p → (B ad.block ∨ Ev.imm M (ad.add i)) ∧ w.cell? (ad.add i) = some (vs i) ∧ (vs i).oneCell' = true)
      (hr : ∀ (i : Nat) (p : PV), l[i]? = some p → Rel w M β B p (vs i)) : Rel w M β B (.ref l) (.pointer (some ad))
/-- 'w'' keeps what 'M' calls immutable, and 'M'' calls it so, too. -/
def Ext (w : World) (M : Mut) (w' : World) (M' : Mut) : Prop := ∀ a v, imm M a → w.cell? a = some v → imm M' a ∧ w'.cell? a = some v
theorem Ext.refl (w : World) (M : Mut) : Ext w M w M := fun _ _ h h' => ⟨h, h'⟩
theorem Ext.trans {w w' w'' : World} {M M' M'' : Mut} (h : Ext w M w' M') (h' : Ext w' M' w'' M'') : Ext w M w'' M'' :=
  fun a v hi hc => let ⟨h1, h2⟩ := h a v hi hc; h' a v h1 h2
theorem block_add (a : Addr) (n : Nat) : (a.add n).block = a.block := by unfold Addr.add; split <;> rfl
theorem add_add (a : Addr) (i j : Nat) : (a.add i).add j = a.add (i + j) := by
  unfold Addr.add
  by_cases hi : i = 0 <;> by_cases hj : j = 0 <;> simp [hi, hj, Nat.add_assoc]
theorem add_lit (g k : Nat) : (⟨g, 0, none⟩ : Addr).add k = ⟨g, k, none⟩ := by unfold Addr.add; split <;> simp_all
theorem add_lit2 (g o k : Nat) : (⟨g, o, none⟩ : Addr).add k = ⟨g, o + k, none⟩ := by unfold Addr.add; split <;> simp_all
section
variable {w w' : World} {M M' : Mut} {β β' : Loc} {B : Nat → Prop}
theorem Rel.ext1 (h : ∀ a v, v.oneCell' = true → imm M a → w.cell? a = some v → imm M' a ∧ w'.cell? a = some v) (hB : ∀ a : Addr, B a.block → w'.cell? a = w.cell? a) (hβ : ∀ d x, β d = some x → β' d = some x) {p : PV} {v : Value} (hr : Rel w M β B p v) : Rel w' M' β' B p v := by
  induction hr with
  | any v => exact .any v
  | val v h => exact .val v h
  | agg l cs hl h1 _ ih => exact .agg l cs hl h1 ih
  | tup l cs hl _ ih => exact .tup l cs hl ih
  | row p s hs a c vs hc hsz ha hm _ ih =>
    exact .row p s hs a c vs hc hsz ha (fun ad i j p h1 h2 h3 => let ⟨g1, g2, g3⟩ := hm ad i j p h1 h2 h3; let ⟨k1, k2⟩ := h _ _ g3 g1 g2; ⟨k1, k2, g3⟩) ih
  | loc d off b n h => exact .loc d off b n (hβ _ _ h)
  | el d sz i off b n h hi => exact .el d sz i off b n (hβ _ _ h) hi
  | vw cf d e sz n b c h hc => exact .vw cf d e sz n b c (hβ _ _ h) hc
  | mp d b n h => exact .mp d b n (hβ _ _ h)
  | clo f n l cs hl _ ih => exact .clo f n l cs hl ih
  | ref l ad vs hm _ ih =>
    refine .ref l ad vs (fun i p hp => ?_) ih
    obtain ⟨g1, g2, g3⟩ := hm i p hp
    rcases g1 with g1 | g1
    · exact ⟨.inl g1, by rw [hB _ (by rw [block_add]; exact g1)]; exact g2, g3⟩
    · obtain ⟨k1, k2⟩ := h _ _ g3 g1 g2
      exact ⟨.inr k1, k2, g3⟩
theorem Rel.ext (h : Ext w M w' M') (hB : ∀ a : Addr, B a.block → w'.cell? a = w.cell? a) (hβ : ∀ d x, β d = some x → β' d = some x) {p : PV} {v : Value} (hr : Rel w M β B p v) : Rel w' M' β' B p v :=
  hr.ext1 (fun a v _ hi hc => h a v hi hc) hB hβ
theorem view_sv {p : PV} {s : SV} (h : p.sv = some s) : p.view.sv = some { s with own := false } := by
  cases p <;> simp only [PV.sv] at h <;> first | (injection h with h; subst h; rfl) | cases h
theorem view_sv' {p : PV} {s : SV} (h : p.view.sv = some s) : s.own = false := by
  cases p <;> simp only [PV.view, PV.sv] at h <;> first | (injection h with h; subst h; rfl) | cases h
theorem view_of_none {p : PV} (h : p.sv = none) : p.view = p := by
  cases p <;> first | rfl | (simp only [PV.sv] at h; cases h)
theorem Rel.view {p : PV} {v : Value} (h : Rel w M β B p v) : Rel w M β B p.view v := by
  cases hq : p.sv with
  | none => rw [view_of_none hq]; exact h
  | some s =>
    have key : ∀ (p q : PV) (s : SV), p.sv = some s → q.sv = some { s with own := false } → Rel w M β B p v → Rel w M β B q v := by
      intro p q s hp hq hr
      cases hr with
      | row p s' hs a c vs hc hsz ha hm hr =>
        rw [hp] at hs; injection hs with hs; subst hs
        exact .row q { s with own := false } hq a c vs hc hsz ha hm hr
      | _ => simp only [PV.sv] at hp; cases hp
    exact key p p.view s hq (view_sv hq) h
theorem oneV_eq (v : Value) : oneV v = v.oneCell' := by cases v <;> rfl
theorem Rel.one {p : PV} {v : Value} (h : Rel w M β B p v) (h1 : p.one = true) : v.oneCell' = true := by
  cases h with
  | any => simp [PV.one] at h1
  | val v h => exact h
  | agg => simp [PV.one] at h1
  | tup => simp [PV.one] at h1
  | _ => rfl
theorem flat_row {p : PV} {s : SV} (hf : p.flat = true) (hs : p.sv = some s) : ∀ (i j : Nat) (q : PV), (s.f i)[j]? = some q → q.flat = true := by
  intro i j q hq
  cases p with
  | lst own x => injection hs with hs; subst hs; exact LX.row_flat _ _ _ (List.mem_of_getElem? hq)
  | sl => cases hf
  | _ => cases hs
/-- what mentions no variable of ours does not hang on where they lie -/
theorem Rel.flat {B' : Nat → Prop} {p : PV} {v : Value} (h : Rel w M β B p v) (hf : p.flat = true) : Rel w M β' B' p v := by
  induction h with
  | any v => exact .any v
  | val v h => exact .val v h
  | row p s hs a c vs hc hsz ha hm hr ih =>
    exact .row p s hs a c vs hc hsz ha hm (fun i j q hi hq => ih i j q hi hq (flat_row hf hs i j q hq))
  | _ => simp [PV.flat] at hf
theorem Rel.pure0 {B' : Nat → Prop} {p : PV} {v : Value} (h : Rel w M β B p v) : Rel w M β' B' p.pure0 v := by
  unfold PV.pure0
  cases hf : p.flat with
  | true => exact (h.flat hf).view
  | false => exact .any v
theorem Rel.val_eq {v u : Value} (h : Rel w M β B (.val v) u) : u = v := by
  cases h with
  | val v h => rfl
  | row p s hs => cases hs
theorem Rel.le {p q : PV} {v : Value} (hl : PV.Le p q) (h : Rel w M β B p v) : Rel w M β B q v := by
  cases hl with
  | view => exact h.view
  | nil own y hy =>
    have := h.val_eq
    subst this
    have : Rel w M β B (.lst own y) (.slice none (SV.mk own y.e y.sz y.len y.row).n 0) :=
      .row _ ⟨own, y.e, y.sz, y.len, y.row⟩ rfl none 0 (fun _ _ => undef) (by simp [hy]) (fun i hi => by simp [hy] at hi) (fun i hi => by simp [hy] at hi) (fun ad i j p ha => by cases ha) (fun i j p hi => by simp [hy] at hi)
    simpa [hy] using this
theorem safes_get {s : PV → Bool} : ∀ {l : List PV}, safes s l = true → ∀ (i : Nat) (p : PV), l[i]? = some p → s p = true
  | [], _, i, p, h => by simp at h
  | q :: r, h, i, p, hp => by
    simp only [safes] at h
    cases hq : s q with
    | false => rw [hq] at h; cases h
    | true =>
      rw [hq] at h
      cases i with
      | zero => simp at hp; subst hp; exact hq
      | succ i => exact safes_get h i p (by simpa using hp)
theorem safess_get {s : PV → Bool} : ∀ {l : List (List PV)}, safess s l = true → ∀ (i : Nat), safes s (l.getD i []) = true
  | [], _, i => rfl
  | q :: r, h, i => by
    simp only [safess] at h
    cases hq : safes s q with
    | false => rw [hq] at h; cases h
    | true =>
      rw [hq] at h
      cases i with
      | zero => exact hq
      | succ i => exact safess_get h i
/-- what has no variable that is gone -/
def Loc.cut (β : Loc) (D : Nat → Bool) : Loc := fun d => if D d then none else β d
theorem Loc.cut_some {β : Loc} {D : Nat → Bool} {d : Nat} {x : Nat × Nat} (h : β.cut D d = some x) : β d = some x ∧ D d = false := by
  unfold Loc.cut at h
  cases hd : D d with
  | true => rw [hd] at h; simp at h
  | false => rw [hd] at h; exact ⟨by simpa using h, rfl⟩
theorem Loc.cut_eq {β : Loc} {D : Nat → Bool} {d : Nat} (h : D d = false) : β.cut D d = β d := by unfold Loc.cut; rw [h]; rfl
theorem Rel.safe0 {D : Nat → Bool} {p : PV} {v : Value} (hs : p.safe0 D = true) (h : Rel w M β B p v) : Rel w M (β.cut D) B p v := by
  cases h with
  | any v => exact .any v
  | val v h => exact .val v h
  | row p s hsv a c vs hc hsz ha hm hr =>
    cases p with
    | sl => simp [PV.safe0] at hs
    | lst own x => exact (Rel.row (β := β) (B := B) _ s hsv a c vs hc hsz ha hm hr).flat rfl
    | _ => cases hsv
  | loc d off b n h => exact .loc d off b n (by rw [Loc.cut_eq (by simpa [PV.safe0] using hs)]; exact h)
  | el d sz i off b n h hi => exact .el d sz i off b n (by rw [Loc.cut_eq (by simpa [PV.safe0] using hs)]; exact h) hi
  | vw cf d e sz n b c h hc => exact .vw cf d e sz n b c (by rw [Loc.cut_eq (by simpa [PV.safe0] using hs)]; exact h) hc
  | mp d b n h => exact .mp d b n (by rw [Loc.cut_eq (by simpa [PV.safe0] using hs)]; exact h)
  | _ => simp [PV.safe0] at hs
theorem Rel.safeUp {s : PV → Bool} (hs : ∀ p v, s p = true → Rel w M β B p v → Rel w M β' B p v) {p : PV} {v : Value} (h1 : p.safeUp s = true) (h : Rel w M β B p v) : Rel w M β' B p v := by
  cases h with
  | agg l cs hl h1' hr => exact .agg l cs hl h1' (fun i p v hp hv => hs _ _ (safes_get h1 i p hp) (hr i p v hp hv))
  | tup l cs hl hr => exact .tup l cs hl (fun i p v hp hv => hs _ _ (safes_get h1 i p hp) (hr i p v hp hv))
  | clo f n l cs hl hr => exact .clo f n l cs hl (fun i p v hp hv => hs _ _ (safes_get h1 i p hp) (hr i p v hp hv))
  | ref l ad vs hm hr => exact .ref l ad vs hm (fun i p hp => hs _ _ (safes_get h1 i p hp) (hr i p hp))
  | row p sv hsv a c vs hc hsz ha hm hr =>
    cases p with
    | sl own e sz es =>
      injection hsv with hsv; subst hsv
      exact .row _ _ rfl a c vs hc hsz ha hm (fun i j q hi hq => hs _ _ (safes_get (safess_get h1 i) j q hq) (hr i j q hi hq))
    | lst own x => exact (Rel.row (β := β) (B := B) _ sv hsv a c vs hc hsz ha hm hr).flat rfl
    | _ => cases hsv
  | any v => exact .any v
  | val v h => exact .val v h
  | loc d off b n h => exact hs _ _ h1 (.loc d off b n h)
  | el d sz i off b n h hi => exact hs _ _ h1 (.el d sz i off b n h hi)
  | vw cf d e sz n b c h hc => exact hs _ _ h1 (.vw cf d e sz n b c h hc)
  | mp d b n h => exact hs _ _ h1 (.mp d b n h)
theorem Rel.clean {D : Nat → Bool} {p : PV} {v : Value} (h : Rel w M β B p v) : Rel w M (β.cut D) B (p.clean D) v := by
  unfold PV.clean
  cases hs : p.safe D with
  | false => exact .any v
  | true =>
    refine Rel.safeUp (s := PV.safeUp (PV.safeUp (PV.safe0 D))) (fun p v h1 h => ?_) hs h
    refine Rel.safeUp (s := PV.safeUp (PV.safe0 D)) (fun p v h1 h => ?_) h1 h
    exact Rel.safeUp (s := PV.safe0 D) (fun p v h1 h => h.safe0 h1) h1 h
theorem clean_sv {D : Nat → Bool} {p : PV} {s : SV} (h : (p.clean D).sv = some s) : p.sv = some s := by
  unfold PV.clean at h
  split at h
  · exact h
  · cases h
end
/-! ### what an owned row is -/
/-- the block that an owned row may be appended to in -/
def tb : Value → Option Nat
  | .slice (some a) n c => match Nat.blt n c with
    | true => some a.block
    | false => none
  | _ => none
theorem tb_blk {a : Addr} {n c g : Nat} (h : tb (.slice (some a) n c) = some g) : a.block = g := by
  simp only [tb] at h
  split at h
  · injection h
  · cases h
theorem tb_lt {a : Addr} {n c : Nat} (h : n < c) : tb (.slice (some a) n c) = some a.block := by
  simp only [tb, show Nat.blt n c = true from Nat.ble_eq_true_of_le h]
theorem tb_full {a : Option Addr} {n g : Nat} : tb (.slice a n n) ≠ some g := by
  cases a with
  | none => intro h; cases h
  | some a =>
    have : Nat.blt n n = false := by
      cases hb : Nat.blt n n with
      | false => rfl
      | true => exact absurd (Nat.le_of_ble_eq_true hb) (Nat.lt_irrefl n)
    simp only [tb, this]
    intro h; cases h
def TokOK (w : World) (M : Mut) (B : Nat → Prop) (s : SV) (v : Value) : Prop :=
  (∃ a, v = .slice a s.n s.n) ∨
  ∃ g c cur, v = .slice (some ⟨g, 0, none⟩) s.n (c + 1) ∧ ¬ B g ∧ M g = some (s.n * s.sz) ∧ w.heap[g]? = some (.cells cur s.e (0, 0)) ∧ s.n ≤ c + 1 ∧ c + 1 ≤ maxLen ∧ cur.size = (c + 1) * s.sz
theorem TokOK.z {w : World} {M : Mut} {B : Nat → Prop} {s : SV} {v : Value} {a : Option Addr} (h : v = .slice a 0 0) (hn : s.n = 0) : TokOK w M B s v := .inl ⟨a, by rw [h, hn]⟩
theorem TokOK.cut {w : World} {M : Mut} {B : Nat → Prop} {s : SV} {v : Value} (h : TokOK w M B s v) : (∃ a, v = .slice a s.n s.n) ∨
    ∃ g c cur, v = .slice (some ⟨g, 0, none⟩) s.n (c + 1) ∧ ¬ B g ∧ M g = some (s.n * s.sz) ∧ w.heap[g]? = some (.cells cur s.e (0, 0)) ∧ s.n ≤ c + 1 ∧ c + 1 ≤ maxLen ∧ cur.size = (c + 1) * s.sz ∧ tb v = some g := by
  rcases h with h | ⟨g, c, cur, h1, h2, h3, h4, h5, h6, h7⟩
  · exact .inl h
  · rcases Nat.lt_or_ge s.n (c + 1) with h | h
    · exact .inr ⟨g, c, cur, h1, h2, h3, h4, h5, h6, h7, by rw [h1]; exact tb_lt h⟩
    · exact .inl ⟨_, by rw [h1]; congr 1; omega⟩
/-- the entries of a map are born apart, before now -/
def BornOK (es : Array MapEntry) (clock : Nat) : Prop := (∀ (i j : Nat) (ei ej : MapEntry), es[i]? = some ei → es[j]? = some ej → ei.born = ej.born → i = j) ∧ ∀ (i : Nat) (e : MapEntry), es[i]? = some e → e.born < clock
theorem BornOK.nil (clock : Nat) : BornOK #[] clock := ⟨fun i j ei ej h => by simp at h, fun i e h => by simp at h⟩
theorem BornOK.push {es : Array MapEntry} {clock : Nat} (h : BornOK es clock) (k v : Value) : BornOK (es.push { key := k, val := v, born := clock }) (clock + 1) := by
  have old : ∀ (i : Nat) (e : MapEntry), (es.push { key := k, val := v, born := clock })[i]? = some e → (i = es.size ∧ e.born = clock) ∨ (es[i]? = some e ∧ e.born < clock) := fun i e he => by
    rw [Array.getElem?_push] at he
    by_cases hi : i = es.size
    · rw [if_pos hi] at he; injection he with he; subst he; exact .inl ⟨hi, rfl⟩
    · rw [if_neg hi] at he; exact .inr ⟨he, h.2 i e he⟩
  refine ⟨fun i j ei ej hi hj hb => ?_, fun i e he => ?_⟩
  · rcases old i ei hi with ⟨a1, a2⟩ | ⟨a1, a2⟩ <;> rcases old j ej hj with ⟨b1, b2⟩ | ⟨b1, b2⟩
    · omega
    · omega
    · omega
    · exact h.1 i j ei ej a1 b1 hb
  · rcases old i e he with ⟨_, a2⟩ | ⟨_, a2⟩ <;> omega
theorem BornOK.modify {es : Array MapEntry} {clock : Nat} (h : BornOK es clock) (n : Nat) (k v : Value) : BornOK (es.modify n fun e => { e with key := k, val := v }) clock := by
  have old : ∀ (i : Nat) (e : MapEntry), (es.modify n fun e => { e with key := k, val := v })[i]? = some e → ∃ e0, es[i]? = some e0 ∧ e0.born = e.born := fun i e he => by
    rw [Array.getElem?_modify] at he
    split at he
    · cases h0 : es[i]? with
      | none => rw [h0] at he; cases he
      | some e0 => rw [h0] at he; injection he with he; subst he; exact ⟨e0, rfl, rfl⟩
    · exact ⟨e, he, rfl⟩
  refine ⟨fun i j ei ej hi hj hb => ?_, fun i e he => ?_⟩
  · obtain ⟨e1, a1, a2⟩ := old i ei hi
    obtain ⟨e2, b1, b2⟩ := old j ej hj
    exact h.1 i j e1 e2 a1 b1 (by omega)
  · obtain ⟨e1, a1, a2⟩ := old i e he
    have := h.2 i e1 a1
    omega
theorem erase_get (es : Array MapEntry) (n : Nat) (hn : n < es.size) (i : Nat) : (es.eraseIdxIfInBounds n)[i]? = es[if i < n then i else i + 1]? := by
  unfold Array.eraseIdxIfInBounds
  rw [dif_pos hn, Array.getElem?_eraseIdx]
  split <;> rfl
theorem BornOK.erase {es : Array MapEntry} {clock : Nat} (h : BornOK es clock) (n : Nat) (hn : n < es.size) : BornOK (es.eraseIdxIfInBounds n) clock := by
  refine ⟨fun i j ei ej hi hj hb => ?_, fun i e he => ?_⟩
  · rw [erase_get es n hn] at hi hj
    have := h.1 _ _ ei ej hi hj hb
    split at this <;> split at this <;> omega
  · rw [erase_get es n hn] at he
    exact h.2 _ e he
/-- what a variable of ours holds -/
inductive ObjOK (w : World) (M : Mut) (β : Loc) (B : Nat → Prop) (b n : Nat) : List PV → Prop
  | cells (l : List PV) (cs : Array Value) (t : Nat) (hh : w.heap[b]? = some (.cells cs t (0, 0))) (hs : l.length ≤ cs.size)
      (hr : ∀ (i : Nat) (p : PV) (v : Value), l[i]? = some p → cs[i]? = some v → Rel w M β B p v ∧ v.oneCell' = true) : ObjOK w M β B b n l
  | arr (x : LX) (cs : Array Value) (t : Nat) (hh : w.heap[b]? = some (.cells cs t (0, 0))) (hn : x.len = n) (hs : n * x.sz ≤ cs.size)
      (hr : ∀ (i j : Nat) (p : PV) (v : Value), i < n → (x.row i)[j]? = some p → cs[i * x.sz + j]? = some v → Rel w M β B p v ∧ v.oneCell' = true) : ObjOK w M β B b n [.arrO x]
  | map (gk gv : Bool) (ks vs : LX) (es : Array MapEntry) (clock : Nat) (hh : w.heap[b]? = some (.map es clock)) (hk : es.size = ks.len) (hv : vs.len = ks.len)
      (hr : ∀ (i : Nat) (e : MapEntry), es[i]? = some e → Rel w M β B (mkP gk (ks.row i)) e.key ∧ Rel w M β B (mkP gv (vs.row i)) e.val) (hbn : BornOK es clock) : ObjOK w M β B b n [.mapO gk gv ks vs]
  | mapE (gk gv : Bool) (ks vs : LX) (es : Array MapEntry) (clock : Nat) (hh : w.heap[b]? = some (.map es clock)) (hk : es.size = ks.len) (hv : vs.len = ks.len)
      (hr : ∀ (i : Nat) (e : MapEntry), es[i]? = some e → Rel w M β B (mkP gk (ks.row i)) e.key ∧ Rel w M β B (mkP gv (vs.row i)) e.val) (hbn : BornOK es clock) : ObjOK w M β B b n [.mapE es clock gk gv ks vs]
inductive HKey (κ : Type) where
  | slot (k : κ)
  | cell (d i : Nat)
def Own {κ : Type} (H : κ → PV × Value) (O : Nat → List PV) (w : World) (β : Loc) : HKey κ → SV → Value → Prop
  | .slot k, s, v => (H k).1.sv = some s ∧ s.own = true ∧ (H k).2 = v
  | .cell d i, s, v => ∃ b n p, β d = some (b, n) ∧ (O d)[i]? = some p ∧ p.sv = some s ∧ s.own = true ∧ w.cell? ⟨b, i, none⟩ = some v
/-- Holders of data, variables of ours, and memory. -/
theorem Bel.lt {B : Base} {w : World} (h : Bel B w) {b : Nat} (hb : B.old b) : b < w.heap.size := Nat.lt_of_lt_of_le (B.lt b hb) h.size
theorem Bel.new {B : Base} {w : World} (h : Bel B w) : ¬ B.old w.heap.size := fun hb => Nat.lt_irrefl _ (h.lt hb)
/-- what is not ours is as it was -/
structure Kp (B : Base) (w w' : World) : Prop where
  os : w'.os = w.os
  tape : w'.tape = w.tape
  output : w'.output = w.output
  size : w.heap.size ≤ w'.heap.size
  block : ∀ k, B.old k → w'.heap[k]? = w.heap[k]?
theorem Bel.trans {B : Base} {w w' : World} (h : Bel B w) (k : Kp B w w') : Bel B w' :=
  ⟨k.os.trans h.os, k.tape.trans h.tape, k.output.trans h.output, Nat.le_trans h.size k.size, fun i hi => (k.block i hi).trans (h.block i hi)⟩
theorem Kp.of {B : Base} {w w' : World} (h : Bel B w) (hb : Below w.heap.size w w') : Kp B w w' := ⟨hb.os, hb.tape, hb.output, hb.size, fun k hk => hb.block k (h.lt hk)⟩
/-- all that there is is not ours -/
def Base.all (w : World) : Base := ⟨w, fun b => b < w.heap.size, fun _ h => h⟩
theorem Bel.below {w w' : World} (h : Bel (Base.all w) w') : Below w.heap.size w w' := ⟨h.os, h.tape, h.output, h.size, h.block⟩
theorem Bel.of (w : World) (B : Base) (hB : B.w = w) : Bel B w := by subst hB; exact ⟨rfl, rfl, rfl, Nat.le_refl _, fun _ _ => rfl⟩
theorem Bel.later {B : Base} {w w' : World} (h : Bel B w) (hb : Below w.heap.size w w') : Bel B w' :=
  ⟨hb.os.trans h.os, hb.tape.trans h.tape, hb.output.trans h.output, Nat.le_trans h.size hb.size, fun k hk => (hb.block k (Nat.lt_of_lt_of_le (B.lt k hk) h.size)).trans (h.block k hk)⟩
theorem Bel.alloc {B : Base} {w : World} (h : Bel B w) (o : Obj) : Bel B (w.alloc o) := h.later ((Below.refl _ w).alloc (Nat.le_refl _) o)
/-- the package variables that are laid read as they were laid -/
def GLof (N : Mut) (B : Base) : Prop := ∃ M0 : Mut, (∀ a : Addr, imm M0 a → B.old a.block ∧ imm N a) ∧
  (∀ g x, lookG GL g = some x → B.old g ∧ ∃ v, B.w.cell? ⟨g, 0, none⟩ = some v ∧ Rel B.w M0 (fun _ => none) (fun _ => False) (.lst false x) v) ∧
  ∀ g vs, (g, vs) ∈ GA → B.old g ∧ ∃ t f, B.w.heap[g]? = some (.cells vs.toArray t f)
structure MN (B : Base) (N M : Mut) : Prop where
  eq : ∀ b, B.old b → M b = N b
  gl : GLof N B
instance {B : Base} {N M : Mut} : CoeFun (MN B N M) (fun _ => ∀ b, B.old b → M b = N b) := ⟨fun h => h.eq⟩
theorem Bel.cell {B : Base} {w : World} (h : Bel B w) {a : Addr} (ha : B.old a.block) : w.cell? a = B.w.cell? a := by
  unfold World.cell?
  rw [h.block _ ha]
theorem GLof.here {B : Base} {N M : Mut} {w : World} (h : GLof N B) (hb : Bel B w) (hM : ∀ b, B.old b → M b = N b) (β : Loc) (old : Nat → Prop) {g : Nat} {x : LX} (hg : lookG GL g = some x) :
    B.old g ∧ ∃ v, w.cell? ⟨g, 0, none⟩ = some v ∧ Rel w M β old (.lst false x) v := by
  obtain ⟨M0, h1, h2, _⟩ := h
  obtain ⟨q1, v, q2, q3⟩ := h2 g x hg
  refine ⟨q1, v, by rw [hb.cell q1]; exact q2, ?_⟩
  exact Rel.flat (Rel.ext (β' := fun _ => none) (fun a u hi hc => ⟨fun n hn => (h1 a hi).2 n (by rw [← hM _ (h1 a hi).1]; exact hn), by rw [hb.cell (h1 a hi).1]; exact hc⟩) (fun a ha => ha.elim) (fun _ _ e => e) q3) rfl
theorem GLof.to {B : Base} {N M : Mut} {w : World} (h : GLof N B) (hb : Bel B w) (hM : ∀ b, B.old b → M b = N b) (B' : Base) (hw : B'.w = w) (ho : ∀ b, B.old b → B'.old b) : GLof M B' := by
  subst hw
  obtain ⟨M0, h1, h2, h3⟩ := h
  refine ⟨M0, fun a hi => ⟨ho _ (h1 a hi).1, fun n hn => (h1 a hi).2 n (by rw [← hM _ (h1 a hi).1]; exact hn)⟩, fun g x hg => ?_, fun g vs hg => ⟨ho _ (h3 g vs hg).1, let ⟨t, f, hv⟩ := (h3 g vs hg).2; ⟨t, f, (hb.block _ (h3 g vs hg).1).trans hv⟩⟩⟩
  obtain ⟨q1, v, q2, q3⟩ := h2 g x hg
  exact ⟨ho _ q1, v, (hb.cell q1).trans q2, Rel.ext (fun a u hi hc => ⟨hi, by rw [← hc]; exact hb.cell (h1 a hi).1⟩) (fun a ha => ha.elim) (fun _ _ e => e) q3⟩
/-- an array that is laid -/
theorem GLof.arr {B : Base} {N M : Mut} {w : World} (h : GLof N B) (hb : Bel B w) {g : Nat} {vs : List Value} (hg : (g, vs) ∈ GA) : B.old g ∧ ∃ t f, w.heap[g]? = some (.cells vs.toArray t f) := by
  obtain ⟨M0, h1, h2, h3⟩ := h
  exact ⟨(h3 g vs hg).1, let ⟨t, f, hv⟩ := (h3 g vs hg).2; ⟨t, f, (hb.block _ (h3 g vs hg).1).trans hv⟩⟩
theorem GLof.all {B : Base} {N M : Mut} {w : World} (h : GLof N B) (hb : Bel B w) (hM : ∀ b, B.old b → M b = N b) : GLof M (Base.all w) := h.to hb hM _ rfl fun _ ho => hb.lt ho
structure SH {κ : Type} (H : κ → PV × Value) (w0 : Base) (N : Mut) (O : Nat → List PV) (D : Nat → Bool) (w : World) (M : Mut) (β : Loc) : Prop where
  bel : Bel w0 w
  mN : MN w0 N M
  mlt : ∀ b n, M b = some n → b < w.heap.size
  box : ∀ d b n, β d = some (b, n) → ¬ w0.old b ∧ M b = some 0 ∧ ObjOK w M β w0.old b n (O d)
  inj : ∀ d d' b n n', β d = some (b, n) → β d' = some (b, n') → d = d'
  dom : ∀ d, D d = true → β d = none
  reg : ∀ k, Rel w M β w0.old (H k).1 (H k).2
  tok : ∀ key s v, Own H O w β key s v → TokOK w M w0.old s v
  tokne : ∀ key key' s s' v v' g, Own H O w β key s v → Own H O w β key' s' v' → key ≠ key' → tb v = some g → tb v' ≠ some g
  tokbox : ∀ key s v g d n, Own H O w β key s v → tb v = some g → β d ≠ some (g, n)
section
variable {κ κ' : Type} {H : κ → PV × Value} {H' : κ' → PV × Value} {w0 : Base} {w w' : World} {N M M' : Mut} {O O' : Nat → List PV} {D D' : Nat → Bool} {β β' : Loc}
/-- other holders of the same -/
theorem SH.perm (h : SH H w0 N O D w M β) (hr : ∀ k, Rel w M β w0.old (H' k).1 (H' k).2) (hbox : ∀ d b n, β d = some (b, n) → ObjOK w M β w0.old b n (O' d)) (hD : ∀ d, D' d = true → β d = none)
    (φ : HKey κ' → Option (HKey κ)) (hφ : ∀ key s v, Own H' O' w β key s v → ∃ key', φ key = some key' ∧ Own H O w β key' s v)
    (hinj : ∀ k k' j, φ k = some j → φ k' = some j → k = k') : SH H' w0 N O' D' w M β := by
  refine ⟨h.bel, h.mN, h.mlt, fun d b n hd => ⟨(h.box d b n hd).1, (h.box d b n hd).2.1, hbox d b n hd⟩, h.inj, hD, hr, ?_, ?_, ?_⟩
  · intro key s v ho
    obtain ⟨k', _, h2⟩ := hφ key s v ho
    exact h.tok k' s v h2
  · intro key key' s s' v v' g ho ho' hne hg
    obtain ⟨j, h1, h2⟩ := hφ key s v ho
    obtain ⟨j', h1', h2'⟩ := hφ key' s' v' ho'
    refine h.tokne j j' s s' v v' g h2 h2' (fun e => hne (hinj _ _ j h1 (by rw [e]; exact h1'))) hg
  · intro key s v g d n ho hg
    obtain ⟨j, h1, h2⟩ := hφ key s v ho
    exact h.tokbox j s v g d n h2 hg
/-- other slots -/
theorem SH.hold (h : SH H w0 N O D w M β) (hr : ∀ k, Rel w M β w0.old (H' k).1 (H' k).2) (g : κ' → Option κ)
    (hg : ∀ k s, (H' k).1.sv = some s → s.own = true → ∃ j, g k = some j ∧ (H j).1.sv = some s ∧ (H j).2 = (H' k).2) (hinj : ∀ k k' j, g k = some j → g k' = some j → k = k') : SH H' w0 N O D w M β := by
  refine h.perm hr (fun d b n hd => (h.box d b n hd).2.2) h.dom (fun key => match key with | .slot k => (g k).map .slot | .cell d i => some (.cell d i)) ?_ ?_
  · intro key s v ho
    cases key with
    | slot k =>
      obtain ⟨h1, h2, h3⟩ := ho
      obtain ⟨j, q1, q2, q3⟩ := hg k s h1 h2
      exact ⟨.slot j, by simp [q1], q2, h2, by rw [q3]; exact h3⟩
    | cell d i => exact ⟨.cell d i, rfl, ho⟩
  · intro k k' j hk hk'
    cases k with
    | slot k =>
      cases k' with
      | slot k' =>
        simp only [Option.map_eq_some_iff] at hk hk'
        obtain ⟨a, ha, rfl⟩ := hk
        obtain ⟨a', ha', e⟩ := hk'
        injection e with e; subst e
        rw [hinj k k' _ ha ha']
      | cell d i =>
        simp only [Option.map_eq_some_iff] at hk hk'
        obtain ⟨a, ha, rfl⟩ := hk
        cases hk'
    | cell d i =>
      cases k' with
      | slot k' =>
        simp only [Option.map_eq_some_iff] at hk hk'
        obtain ⟨a, ha, rfl⟩ := hk'
        cases hk
      | cell d' i' => injection hk with hk; injection hk' with hk'; have e := hk.trans hk'.symm; injection e with e1 e2; rw [e1, e2]
def ocons (x : PV × Value) (H : κ → PV × Value) : Option κ → PV × Value
  | none => x
  | some k => H k
/-- one more -/
theorem SH.cons (h : SH H w0 N O D w M β) (p : PV) (v : Value) (hr : Rel w M β w0.old p v)
    (ht : ∀ s, p.sv = some s → s.own = true → TokOK w M w0.old s v ∧ (∀ key s' v' g, Own H O w β key s' v' → tb v = some g → tb v' ≠ some g) ∧ (∀ g d n, tb v = some g → β d ≠ some (g, n))) :
    SH (ocons (p, v) H) w0 N O D w M β := by
  have old : ∀ (key : HKey (Option κ)) s u, Own (ocons (p, v) H) O w β key s u → (key = .slot none ∧ p.sv = some s ∧ s.own = true ∧ v = u) ∨ ∃ key' : HKey κ, Own H O w β key' s u ∧ (∀ key2 : HKey (Option κ), Own (ocons (p, v) H) O w β key2 s u → True) ∧
      (match key' with | .slot k => key = .slot (some k) | .cell d i => key = .cell d i) := by
    intro key s u ho
    cases key with
    | slot k =>
      cases k with
      | none => exact .inl ⟨rfl, ho.1, ho.2.1, ho.2.2⟩
      | some k => exact .inr ⟨.slot k, ho, fun _ _ => trivial, rfl⟩
    | cell d i => exact .inr ⟨.cell d i, ho, fun _ _ => trivial, rfl⟩
  refine ⟨h.bel, h.mN, h.mlt, h.box, h.inj, h.dom, ?_, ?_, ?_, ?_⟩
  · intro k
    cases k with
    | none => exact hr
    | some k => exact h.reg k
  · intro key s u ho
    rcases old key s u ho with ⟨_, h1, h2, rfl⟩ | ⟨k', h1, _⟩
    · exact (ht s h1 h2).1
    · exact h.tok k' s u h1
  · intro key key' s s' u u' g ho ho' hne hg
    rcases old key s u ho with ⟨e1, h1, h2, rfl⟩ | ⟨k1, h1, _, e1⟩
    · rcases old key' s' u' ho' with ⟨e2, _⟩ | ⟨k2, h2', _, e2⟩
      · exact absurd (e1.trans e2.symm) hne
      · exact (ht s h1 h2).2.1 k2 s' u' g h2' hg
    · rcases old key' s' u' ho' with ⟨e2, h3, h4, rfl⟩ | ⟨k2, h2', _, e2⟩
      · exact fun hv => (ht s' h3 h4).2.1 k1 s u g h1 hv hg
      · refine h.tokne k1 k2 s s' u u' g h1 h2' (fun e => hne ?_) hg
        subst e
        cases k1 <;> exact e1.trans e2.symm
  · intro key s u g d n ho hg
    rcases old key s u ho with ⟨_, h1, h2, rfl⟩ | ⟨k', h1, _⟩
    · exact (ht s h1 h2).2.2 g d n hg
    · exact h.tokbox k' s u g d n h1 hg
theorem cell_lt {w : World} {x : Addr} {v : Value} (hx : w.cell? x = some v) : x.block < w.heap.size := by
  unfold World.cell? at hx
  rcases Nat.lt_or_ge x.block w.heap.size with h1 | h1
  · exact h1
  · rw [Array.getElem?_eq_none h1] at hx; simp at hx
/-- what a variable holds, in a later world -/
theorem ObjOK.ext {B B' : Nat → Prop} {b n : Nat} {l : List PV} (h : ObjOK w M β B b n l) (hh : w'.heap[b]? = w.heap[b]?) (hR : ∀ p v, Rel w M β B p v → Rel w' M' β' B' p v) : ObjOK w' M' β' B' b n l := by
  cases h with
  | cells l cs t q1 q2 q3 => exact .cells l cs t (by rw [hh]; exact q1) q2 (fun i p v hp hv => ⟨hR _ _ (q3 i p v hp hv).1, (q3 i p v hp hv).2⟩)
  | arr x cs t q1 q2 q3 q4 => exact .arr x cs t (by rw [hh]; exact q1) q2 q3 (fun i j p v hi hp hv => ⟨hR _ _ (q4 i j p v hi hp hv).1, (q4 i j p v hi hp hv).2⟩)
  | map gk gv ks vs es clock q1 q2 q3 q4 q5 => exact .map gk gv ks vs es clock (by rw [hh]; exact q1) q2 q3 (fun i e he => ⟨hR _ _ (q4 i e he).1, hR _ _ (q4 i e he).2⟩) q5
  | mapE gk gv ks vs es clock q1 q2 q3 q4 q5 => exact .mapE gk gv ks vs es clock (by rw [hh]; exact q1) q2 q3 (fun i e he => ⟨hR _ _ (q4 i e he).1, hR _ _ (q4 i e he).2⟩) q5
theorem TokOK.ext {B : Nat → Prop} {s : SV} {v : Value} (h : TokOK w M B s v) (hh : ∀ g, tb v = some g → w'.heap[g]? = w.heap[g]? ∧ M' g = M g) : TokOK w' M' B s v := by
  rcases h.cut with h | ⟨g, c, cur, h1, h2, h3, h4, h5, h6, h7, h8⟩
  · exact .inl h
  · have := hh g h8
    exact .inr ⟨g, c, cur, h1, h2, by rw [this.2]; exact h3, by rw [this.1]; exact h4, h5, h6, h7⟩
theorem TokOK.lt {B : Nat → Prop} {s : SV} {v : Value} (h : TokOK w M B s v) {g : Nat} (hg : tb v = some g) : ¬ B g ∧ ∃ k, M g = some k := by
  rcases h with ⟨a, h⟩ | ⟨g', c, cur, h1, h2, h3, _⟩
  · rw [h] at hg
    exact absurd hg tb_full
  · rw [h1] at hg
    have : g' = g := tb_blk hg
    subst this
    exact ⟨h2, _, h3⟩
/-- The world changes where nothing is ours. -/
theorem SH.world (h : SH H w0 N O D w M β) (hb : Below w.heap.size w w') : SH H w0 N O D w' M β := by
  have hc : ∀ (x : Addr) v, w.cell? x = some v → w'.cell? x = some v := fun x v hv => by rw [hb.cell (cell_lt hv)]; exact hv
  have hE : Ext w M w' M := fun x v hi hv => ⟨hi, hc x v hv⟩
  have hle : w0.w.heap.size ≤ w.heap.size := h.bel.size
  have hR : ∀ p v, Rel w M β w0.old p v → Rel w' M β w0.old p v := fun p v hr => hr.ext hE (fun x hx => hb.cell (Nat.lt_of_lt_of_le (w0.lt _ hx) hle)) (fun _ _ h => h)
  have hO : ∀ key s v, Own H O w' β key s v → Own H O w β key s v := by
    intro key s v ho
    cases key with
    | slot k => exact ho
    | cell d i =>
      obtain ⟨b, n, p, h1, h2, h3, h4, h5⟩ := ho
      have hbl := h.mlt b 0 (h.box d b n h1).2.1
      exact ⟨b, n, p, h1, h2, h3, h4, by rw [← hb.cell (p := ⟨b, i, none⟩) hbl]; exact h5⟩
  refine ⟨h.bel.later hb, h.mN, fun b n hn => Nat.lt_of_lt_of_le (h.mlt b n hn) hb.size, ?_, h.inj, h.dom, fun k => hR _ _ (h.reg k), ?_, ?_, ?_⟩
  · intro d b n hd
    obtain ⟨h1, h2, h3⟩ := h.box d b n hd
    exact ⟨h1, h2, h3.ext (hb.block b (h.mlt b 0 h2)) hR⟩
  · intro key s v ho
    have ht := h.tok key s v (hO _ _ _ ho)
    exact ht.ext (fun g hg => ⟨hb.block g (let ⟨_, k, hk⟩ := ht.lt hg; h.mlt g k hk), rfl⟩)
  · intro key key' s s' v v' g ho ho'; exact h.tokne key key' s s' v v' g (hO _ _ _ ho) (hO _ _ _ ho')
  · intro key s v g d n ho; exact h.tokbox key s v g d n (hO _ _ _ ho)
theorem SH.drawn (h : SH H w0 N O D w M β) : SH H w0 N O D { w with drawn := w.drawn + 1 } M β :=
  h.world ⟨rfl, rfl, rfl, Nat.le_refl _, fun _ _ => rfl⟩
end
end Go.Proofs.YtpdlcbmnmeihoaaGreatDoor.Ev
namespace Go.Proofs.YtpdlcbmnmeihoaaGreatDoor.Ev
open Go Go.RowKit
section
variable {κ κ' : Type} {H : κ → PV × Value} {H' : κ' → PV × Value} {w0 : Base} {w w' : World} {N M M' : Mut} {O O' : Nat → List PV} {D D' : Nat → Bool} {β β' : Loc}
theorem cell_alloc_old (w : World) (o : Obj) {x : Addr} {v : Value} (h : w.cell? x = some v) : (w.alloc o).cell? x = some v := by
  rw [World.cell?_of_block (w := w) (Below.heap_alloc w o x.block (cell_lt h))]; exact h
/-- A variable is made. -/
theorem SH.alloc (h : SH H w0 N O D w M β) (d n : Nat) (l : List PV) (o : Obj) (hnew : D d = true)
    (hO1 : O' d = l) (hO2 : ∀ x, x ≠ d → O' x = O x) (hD : ∀ x, D' x = true → D x = true ∧ x ≠ d)
    (hown : ∀ (i : Nat) (p : PV) (s : SV), l[i]? = some p → p.sv = some s → s.own = true → ∀ v, (w.alloc o).cell? ⟨w.heap.size, i, none⟩ = some v → s.n = 0 ∧ ∃ a, v = .slice a 0 0)
    (hobj : ∀ (M' : Mut) (β' : Loc), (∀ p v, Rel w M β w0.old p v → Rel (w.alloc o) M' β' w0.old p v) → β' d = some (w.heap.size, n) → ObjOK (w.alloc o) M' β' w0.old w.heap.size n l) :
    ∃ M' β', SH H w0 N O' D' (w.alloc o) M' β' ∧ β' d = some (w.heap.size, n) ∧ (∀ p v, Rel w M β w0.old p v → Rel (w.alloc o) M' β' w0.old p v) := by
  have hβ : β d = none := h.dom d hnew
  let M' : Mut := fun b => if b = w.heap.size then some 0 else M b
  let β' : Loc := fun x => if x = d then some (w.heap.size, n) else β x
  have hMw : M w.heap.size = none := by
    cases hm : M w.heap.size with
    | none => rfl
    | some n => exact absurd (h.mlt _ _ hm) (by omega)
  have hE : Ext w M (w.alloc o) M' := fun x v hi hc => by
    have hx := cell_lt hc
    refine ⟨fun n hn => hi n ?_, cell_alloc_old w _ hc⟩
    simp only [M'] at hn
    rw [if_neg (by omega)] at hn
    exact hn
  have hle : w0.w.heap.size ≤ w.heap.size := h.bel.size
  have hβb : ∀ x b n, β x = some (b, n) → b < w.heap.size := fun x b n hb => h.mlt b 0 (h.box x b n hb).2.1
  have hmono : ∀ x y, β x = some y → β' x = some y := fun x y hb => by
    simp only [β']
    by_cases e : x = d
    · subst e; rw [hβ] at hb; cases hb
    · rw [if_neg e]; exact hb
  have hB : ∀ x : Addr, w0.old x.block → (w.alloc o).cell? x = w.cell? x := fun x hx =>
    World.cell?_of_block (w := w) (Below.heap_alloc w _ x.block (h.bel.lt hx))
  have hR : ∀ p v, Rel w M β w0.old p v → Rel (w.alloc o) M' β' w0.old p v := fun p v hr => hr.ext hE hB hmono
  have hd : β' d = some (w.heap.size, n) := by simp [β']
  have hOwn : ∀ key s v, Own H O' (w.alloc o) β' key s v → Own H O w β key s v ∨ ((∃ a, v = .slice a 0 0) ∧ s.n = 0) := by
    intro key s v ho
    cases key with
    | slot k => exact .inl ho
    | cell x i =>
      obtain ⟨b, m, p, h1, h2, h3, h4, h5⟩ := ho
      simp only [β'] at h1
      by_cases e : x = d
      · subst e
        rw [if_pos rfl] at h1
        injection h1 with h1
        injection h1 with h1 _
        subst h1
        rw [hO1] at h2
        have := hown i p s h2 h3 h4 v h5
        exact .inr ⟨this.2, this.1⟩
      · rw [if_neg e] at h1
        have hbl := hβb x b m h1
        refine .inl ⟨b, m, p, h1, by rw [← hO2 x e]; exact h2, h3, h4, ?_⟩
        rw [← World.cell?_of_block (w := w) (a := ⟨b, i, none⟩) (Below.heap_alloc w o b hbl)]; exact h5
  have tb0 : ∀ v g, (∃ a, v = .slice a 0 0) → tb v = some g → False := by
    rintro v g ⟨a, rfl⟩ hg
    exact absurd hg tb_full
  refine ⟨M', β', ⟨h.bel.alloc _, ?_, ?_, ?_, ?_, ?_, fun k => hR _ _ (h.reg k), ?_, ?_, ?_⟩, hd, hR⟩
  · refine ⟨fun b hb => ?_, h.mN.gl⟩
    simp only [M']
    rw [if_neg (by have := h.bel.lt hb; omega)]
    exact h.mN b hb
  · intro b n hn
    simp only [M'] at hn
    by_cases e : b = w.heap.size
    · subst e; simp
    · rw [if_neg e] at hn; have := h.mlt b n hn; simp; omega
  · intro x b m hb
    by_cases e : x = d
    · subst e
      rw [hd] at hb
      injection hb with hb
      injection hb with hb hb2
      subst hb; subst hb2
      exact ⟨h.bel.new, by simp [M'], by rw [hO1]; exact hobj M' β' hR hd⟩
    · simp only [β'] at hb
      rw [if_neg e] at hb
      obtain ⟨h1, h2, h3⟩ := h.box x b m hb
      have hbl := h.mlt b 0 h2
      exact ⟨h1, by simp only [M']; rw [if_neg (by omega)]; exact h2, by rw [hO2 x e]; exact h3.ext (Below.heap_alloc w _ b hbl) hR⟩
  · intro x y b m m' hx hy
    simp only [β'] at hx hy
    by_cases e1 : x = d <;> by_cases e2 : y = d
    · rw [e1, e2]
    · rw [if_pos e1] at hx; rw [if_neg e2] at hy
      injection hx with hx; injection hx with hx _
      have := hβb y b m' hy
      omega
    · rw [if_neg e1] at hx; rw [if_pos e2] at hy
      injection hy with hy; injection hy with hy _
      have := hβb x b m hx
      omega
    · rw [if_neg e1] at hx; rw [if_neg e2] at hy
      exact h.inj x y b m m' hx hy
  · intro x hx
    obtain ⟨h1, h2⟩ := hD x hx
    simp only [β']
    rw [if_neg h2]
    exact h.dom x h1
  · intro key s v ho
    rcases hOwn key s v ho with ho | ⟨⟨a, ha⟩, hn⟩
    · have ht := h.tok key s v ho
      refine ht.ext (fun g hg => ?_)
      obtain ⟨_, k, hk⟩ := ht.lt hg
      have hgl := h.mlt g k hk
      exact ⟨Below.heap_alloc w _ g hgl, by simp only [M']; rw [if_neg (by omega)]⟩
    · exact .z ha hn
  · intro key key' s s' v v' g ho ho' hne hg
    rcases hOwn key s v ho with ho | ⟨ha, _⟩
    · rcases hOwn key' s' v' ho' with ho' | ⟨ha, _⟩
      · exact h.tokne key key' s s' v v' g ho ho' hne hg
      · exact fun hg' => tb0 _ _ ha hg'
    · exact (tb0 _ _ ha hg).elim
  · intro key s v g x m ho hg
    rcases hOwn key s v ho with ho | ⟨ha, _⟩
    · simp only [β']
      by_cases e : x = d
      · rw [if_pos e]
        intro e3
        injection e3 with e3
        injection e3 with e3 _
        obtain ⟨_, k, hk⟩ := (h.tok key s v ho).lt hg
        have := h.mlt g k hk
        omega
      · rw [if_neg e]
        exact h.tokbox key s v g x m ho hg
    · exact (tb0 _ _ ha hg).elim
/-- A block that is ours, and that nobody reads, becomes a variable. -/
theorem SH.adopt (h : SH H w0 N O D w M β) (d g n : Nat) (l : List PV) (hnew : D d = true) (hgB : ¬ w0.old g) (hM : M g = some 0) (hbx : ∀ x n, β x ≠ some (g, n))
    (hno : ∀ key s v, Own H O w β key s v → tb v ≠ some g) (hO1 : O' d = l) (hO2 : ∀ x, x ≠ d → O' x = O x) (hD : ∀ x, D' x = true → D x = true ∧ x ≠ d)
    (hown : ∀ (i : Nat) (p : PV) (s : SV), l[i]? = some p → p.sv = some s → s.own = true → False)
    (hobj : ∀ (β' : Loc), (∀ p v, Rel w M β w0.old p v → Rel w M β' w0.old p v) → β' d = some (g, n) → ObjOK w M β' w0.old g n l) :
    ∃ β', SH H w0 N O' D' w M β' ∧ β' d = some (g, n) := by
  have hβ : β d = none := h.dom d hnew
  let β' : Loc := fun x => if x = d then some (g, n) else β x
  have hmono : ∀ x y, β x = some y → β' x = some y := fun x y hb => by
    simp only [β']
    by_cases e : x = d
    · subst e; rw [hβ] at hb; cases hb
    · rw [if_neg e]; exact hb
  have hR : ∀ p v, Rel w M β w0.old p v → Rel w M β' w0.old p v := fun p v hr => hr.ext (Ext.refl w M) (fun _ _ => rfl) hmono
  have hd : β' d = some (g, n) := by simp [β']
  have hOwn : ∀ key s v, Own H O' w β' key s v → Own H O w β key s v := by
    intro key s v ho
    cases key with
    | slot k => exact ho
    | cell x i =>
      obtain ⟨b, m, p, h1, h2, h3, h4, h5⟩ := ho
      simp only [β'] at h1
      by_cases e : x = d
      · subst e
        rw [hO1] at h2
        exact (hown i p s h2 h3 h4).elim
      · rw [if_neg e] at h1
        exact ⟨b, m, p, h1, by rw [← hO2 x e]; exact h2, h3, h4, h5⟩
  refine ⟨β', ⟨h.bel, h.mN, h.mlt, ?_, ?_, ?_, fun k => hR _ _ (h.reg k), fun key s v ho => h.tok key s v (hOwn _ _ _ ho), fun key key' s s' v v' g ho ho' => h.tokne key key' s s' v v' g (hOwn _ _ _ ho) (hOwn _ _ _ ho'), ?_⟩, hd⟩
  · intro x b m hb
    by_cases e : x = d
    · subst e
      rw [hd] at hb
      injection hb with hb
      injection hb with hb hb2
      subst hb; subst hb2
      exact ⟨hgB, hM, by rw [hO1]; exact hobj β' hR hd⟩
    · simp only [β'] at hb
      rw [if_neg e] at hb
      obtain ⟨h1, h2, h3⟩ := h.box x b m hb
      exact ⟨h1, h2, by rw [hO2 x e]; exact h3.ext rfl hR⟩
  · intro x y b m m' hx hy
    simp only [β'] at hx hy
    by_cases e1 : x = d <;> by_cases e2 : y = d
    · rw [e1, e2]
    · rw [if_pos e1] at hx; rw [if_neg e2] at hy
      injection hx with hx; injection hx with hx _
      subst hx
      exact absurd hy (hbx y m')
    · rw [if_neg e1] at hx; rw [if_pos e2] at hy
      injection hy with hy; injection hy with hy _
      subst hy
      exact absurd hx (hbx x m)
    · rw [if_neg e1] at hx; rw [if_neg e2] at hy
      exact h.inj x y b m m' hx hy
  · intro x hx
    obtain ⟨h1, h2⟩ := hD x hx
    simp only [β']
    rw [if_neg h2]
    exact h.dom x h1
  · intro key s v b x m ho hg
    have ho' := hOwn key s v ho
    simp only [β']
    by_cases e : x = d
    · rw [if_pos e]
      intro e3
      injection e3 with e3
      injection e3 with e3 _
      subst e3
      exact hno key s v ho' hg
    · rw [if_neg e]
      exact h.tokbox key s v b x m ho' hg
/-- What a variable of ours holds is written. -/
theorem SH.setObj (h : SH H w0 N O D w M β) (d b n : Nat) (hβ : β d = some (b, n)) (l : List PV) (hO1 : O' d = l) (hO2 : ∀ x, x ≠ d → O' x = O x)
    (hoth : ∀ k, k ≠ b → w'.heap[k]? = w.heap[k]?) (hsz : w'.heap.size = w.heap.size) (hdl : Kp w0 w w')
    (hobj : (∀ p v, Rel w M β w0.old p v → Rel w' M β w0.old p v) → ObjOK w' M β w0.old b n l)
    (hown : ∀ (i : Nat) (p : PV) (s : SV) (v : Value), l[i]? = some p → p.sv = some s → s.own = true → w'.cell? ⟨b, i, none⟩ = some v → ((∃ q, (O d)[i]? = some q ∧ q.sv = some s) ∧ w.cell? ⟨b, i, none⟩ = some v) ∨ (s.n = 0 ∧ ∃ a, v = .slice a 0 0)) :
    SH H w0 N O' D w' M β ∧ (∀ p v, Rel w M β w0.old p v → Rel w' M β w0.old p v) := by
  obtain ⟨hb1, hb2, hb3⟩ := h.box d b n hβ
  have hbw : b < w.heap.size := h.mlt b 0 hb2
  have hE : Ext w M w' M := fun x v hi hc => by
    have hx : x.block ≠ b := fun e => by have := hi 0 (by rw [e]; exact hb2); omega
    exact ⟨hi, by rw [World.cell?_of_block (w := w) (hoth _ hx)]; exact hc⟩
  have hR : ∀ p v, Rel w M β w0.old p v → Rel w' M β w0.old p v := fun p v hr => hr.ext hE (fun x hx => World.cell?_of_block (w := w) (hoth _ (fun e => hb1 (by rw [← e]; exact hx)))) (fun _ _ h => h)
  have tb0 : ∀ v g, (∃ a, v = .slice a 0 0) → tb v = some g → False := by
    rintro v g ⟨a, rfl⟩ hg
    exact absurd hg tb_full
  have hOwn : ∀ key s v, Own H O' w' β key s v → Own H O w β key s v ∨ (s.n = 0 ∧ ∃ a, v = .slice a 0 0) := by
    intro key s v ho
    cases key with
    | slot k => exact .inl ho
    | cell x i =>
      obtain ⟨b', m, p, h1, h2, h3, h4, h5⟩ := ho
      by_cases e : x = d
      · subst e
        rw [hβ] at h1
        injection h1 with h1
        injection h1 with h1 h1'
        subst h1; subst h1'
        rw [hO1] at h2
        rcases hown i p s v h2 h3 h4 h5 with ⟨⟨q, q1, q2⟩, q3⟩ | hz
        · exact .inl ⟨b, n, q, hβ, q1, q2, h4, q3⟩
        · exact .inr hz
      · have hne : b' ≠ b := fun e' => e (h.inj x d b' m n h1 (by rw [e']; exact hβ))
        exact .inl ⟨b', m, p, h1, by rw [← hO2 x e]; exact h2, h3, h4, by rw [← World.cell?_of_block (w := w) (a := ⟨b', i, none⟩) (hoth b' hne)]; exact h5⟩
  refine ⟨⟨h.bel.trans hdl, h.mN, fun x n hn => by rw [hsz]; exact h.mlt x n hn, ?_, h.inj, h.dom, fun k => hR _ _ (h.reg k), ?_, ?_, ?_⟩, hR⟩
  · intro x b' m hx
    by_cases e : x = d
    · subst e
      rw [hβ] at hx
      injection hx with hx
      injection hx with hx hx'
      subst hx; subst hx'
      exact ⟨hb1, hb2, by rw [hO1]; exact hobj hR⟩
    · obtain ⟨h1, h2, h3⟩ := h.box x b' m hx
      have hne : b' ≠ b := fun e' => e (h.inj x d b' m n hx (by rw [e']; exact hβ))
      exact ⟨h1, h2, by rw [hO2 x e]; exact h3.ext (hoth b' hne) hR⟩
  · intro key s v ho
    rcases hOwn key s v ho with ho' | ⟨hn, a, ha⟩
    · refine (h.tok key s v ho').ext (fun g hg => ⟨hoth g (fun e => ?_), rfl⟩)
      exact h.tokbox key s v g d n ho' hg (by rw [e]; exact hβ)
    · exact .z ha hn
  · intro key key' s s' v v' g ho ho' hne hg
    rcases hOwn _ _ _ ho with q | ⟨_, q⟩
    · rcases hOwn _ _ _ ho' with q' | ⟨_, q'⟩
      · exact h.tokne key key' s s' v v' g q q' hne hg
      · exact fun hg' => tb0 _ _ q' hg'
    · exact (tb0 _ _ q hg).elim
  · intro key s v g x m ho hg
    rcases hOwn _ _ _ ho with q | ⟨_, q⟩
    · exact h.tokbox key s v g x m q hg
    · exact (tb0 _ _ q hg).elim
/-- A row of ours that nothing may append to just now is written behind what is immutable of it. -/
theorem SH.rowWrite (h : SH H w0 N O D w M β) (g k k' : Nat) (cur cs : Array Value) (t : Nat) (hgB : ¬ w0.old g) (hM : M g = some k) (hk : k ≤ k')
    (hh : w.heap[g]? = some (.cells cur t (0, 0))) (hsame : ∀ i, i < k → cs[i]? = cur[i]?)
    (hbox : ∀ x n, β x ≠ some (g, n)) (hno : ∀ key s v, Own H O w β key s v → tb v ≠ some g) :
    Ext w M (w.setRow g cs) (fun b => if b = g then some k' else M b) ∧ SH H w0 N O D (w.setRow g cs) (fun b => if b = g then some k' else M b) β ∧
    (∀ p v, Rel w M β w0.old p v → Rel (w.setRow g cs) (fun b => if b = g then some k' else M b) β w0.old p v) ∧
    (∀ key s v, Own H O (w.setRow g cs) β key s v → Own H O w β key s v) := by
  have hw1 : (w.setRow g cs).heap[g]? = some (.cells cs t (0, 0)) := setRow_heap w g cur _ t (0, 0) hh
  have hoth : ∀ x, x ≠ g → (w.setRow g cs).heap[x]? = w.heap[x]? := fun x hx => setRow_other w g x _ hx
  have hsz : (w.setRow g cs).heap.size = w.heap.size := by simp [World.setRow]
  have hgw : g < w.heap.size := h.mlt g k hM
  have hE : Ext w M (w.setRow g cs) (fun b => if b = g then some k' else M b) := by
    intro x v hi hc
    by_cases e : x.block = g
    · have hlt := hi k (by rw [e]; exact hM)
      refine ⟨fun n hn => ?_, ?_⟩
      · rw [e] at hn; simp only [if_true] at hn; injection hn with hn; omega
      · unfold World.cell? at hc ⊢
        rw [e, hh] at hc
        rw [e, hw1]
        simp only at hc ⊢
        rw [hsame _ hlt]; exact hc
    · refine ⟨fun n hn => ?_, by rw [World.cell?_of_block (w := w) (hoth _ e)]; exact hc⟩
      simp only [e, if_false] at hn
      exact hi n hn
  have hR : ∀ p v, Rel w M β w0.old p v → Rel (w.setRow g cs) (fun b => if b = g then some k' else M b) β w0.old p v := fun p v hr => hr.ext hE (fun x hx => World.cell?_of_block (w := w) (hoth _ (fun e => hgB (by rw [← e]; exact hx)))) (fun _ _ h => h)
  have hOwn : ∀ key s v, Own H O (w.setRow g cs) β key s v → Own H O w β key s v := by
    intro key s v ho
    cases key with
    | slot k => exact ho
    | cell x i =>
      obtain ⟨b', m, p, h1, h2, h3, h4, h5⟩ := ho
      have hne : b' ≠ g := fun e => hbox x m (by rw [h1, e])
      exact ⟨b', m, p, h1, h2, h3, h4, by rw [← World.cell?_of_block (w := w) (a := ⟨b', i, none⟩) (hoth b' hne)]; exact h5⟩
  refine ⟨hE, ⟨h.bel.trans ⟨rfl, rfl, rfl, by omega, fun x hx => hoth x (fun e => hgB (by rw [← e]; exact hx))⟩, ?_, ?_, ?_, h.inj, h.dom, fun k => hR _ _ (h.reg k), ?_, ?_, ?_⟩, hR, hOwn⟩
  · refine ⟨fun b hb => ?_, h.mN.gl⟩; simp only [show b ≠ g from fun e => hgB (by rw [← e]; exact hb), if_false]; exact h.mN b hb
  · intro b n hn
    by_cases e : b = g
    · rw [e, hsz]; exact hgw
    · simp only [e, if_false] at hn; rw [hsz]; exact h.mlt b n hn
  · intro d b m hd
    have hne : b ≠ g := fun e => hbox d m (by rw [hd, e])
    obtain ⟨h1, h2, h3⟩ := h.box d b m hd
    exact ⟨h1, by simp only [hne, if_false]; exact h2, h3.ext (hoth b hne) hR⟩
  · intro key s v ho
    have ho' := hOwn key s v ho
    refine (h.tok key s v ho').ext (fun g' hg => ?_)
    have hne : g' ≠ g := fun e => hno key s v ho' (by rw [hg, e])
    exact ⟨hoth g' hne, by simp only [hne, if_false]⟩
  · intro key key' s s' v v' g ho ho'; exact h.tokne key key' s s' v v' g (hOwn _ _ _ ho) (hOwn _ _ _ ho')
  · intro key s v g x m ho; exact h.tokbox key s v g x m (hOwn _ _ _ ho)
/-- A block of ours that nobody reads is written no more. -/
theorem SH.fixed (h : SH H w0 N O D w M β) (g k : Nat) (hM : M g = some 0) (hbox : ∀ x n, β x ≠ some (g, n)) (hno : ∀ key s v, Own H O w β key s v → tb v ≠ some g) (hgB : ¬ w0.old g) :
    SH H w0 N O D w (fun b => if b = g then some k else M b) β ∧ (∀ p v, Rel w M β w0.old p v → Rel w (fun b => if b = g then some k else M b) β w0.old p v) := by
  have hE : Ext w M w (fun b => if b = g then some k else M b) := by
    intro x v hi hc
    refine ⟨fun n hn => ?_, hc⟩
    by_cases e : x.block = g
    · have := hi 0 (by rw [e]; exact hM); omega
    · simp only [e, if_false] at hn
      exact hi n hn
  have hR : ∀ p v, Rel w M β w0.old p v → Rel w (fun b => if b = g then some k else M b) β w0.old p v := fun p v hr => hr.ext hE (fun _ _ => rfl) (fun _ _ h => h)
  refine ⟨⟨h.bel, ?_, ?_, ?_, h.inj, h.dom, fun k => hR _ _ (h.reg k), ?_, h.tokne, h.tokbox⟩, hR⟩
  · refine ⟨fun b hb => ?_, h.mN.gl⟩; simp only [show b ≠ g from fun e => hgB (by rw [← e]; exact hb), if_false]; exact h.mN b hb
  · intro b n hn
    by_cases e : b = g
    · rw [e]; exact h.mlt g 0 hM
    · simp only [e, if_false] at hn; exact h.mlt b n hn
  · intro d b m hd
    have hne : b ≠ g := fun e => hbox d m (by rw [hd, e])
    obtain ⟨h1, h2, h3⟩ := h.box d b m hd
    exact ⟨h1, by simp only [hne, if_false]; exact h2, h3.ext rfl hR⟩
  · intro key s v ho
    refine (h.tok key s v ho).ext (fun g' hg => ⟨rfl, ?_⟩)
    have hne : g' ≠ g := fun e => hno key s v ho (by rw [hg, e])
    simp only [hne, if_false]
/-- A new block. -/
theorem SH.rowNew (h : SH H w0 N O D w M β) (cs : Array Value) (t k : Nat) :
    Ext w M (w.alloc (.cells cs t)) (fun b => if b = w.heap.size then some k else M b) ∧ SH H w0 N O D (w.alloc (.cells cs t)) (fun b => if b = w.heap.size then some k else M b) β ∧
    (∀ p v, Rel w M β w0.old p v → Rel (w.alloc (.cells cs t)) (fun b => if b = w.heap.size then some k else M b) β w0.old p v) ∧
    (∀ x n, β x ≠ some (w.heap.size, n)) ∧ (∀ key s v, Own H O (w.alloc (.cells cs t)) β key s v → Own H O w β key s v ∧ tb v ≠ some w.heap.size) := by
  have hoth : ∀ x, x < w.heap.size → (w.alloc (.cells cs t)).heap[x]? = w.heap[x]? := fun x hx => Below.heap_alloc w _ x hx
  have hle : w0.w.heap.size ≤ w.heap.size := h.bel.size
  have hE : Ext w M (w.alloc (.cells cs t)) (fun b => if b = w.heap.size then some k else M b) := fun x v hi hc => by
    have hx := cell_lt hc
    refine ⟨fun n hn => hi n ?_, cell_alloc_old w _ hc⟩
    simp only [show x.block ≠ w.heap.size by omega, if_false] at hn
    exact hn
  have hβb : ∀ x b n, β x = some (b, n) → b < w.heap.size := fun x b n hb => h.mlt b 0 (h.box x b n hb).2.1
  have hR : ∀ p v, Rel w M β w0.old p v → Rel (w.alloc (.cells cs t)) (fun b => if b = w.heap.size then some k else M b) β w0.old p v := fun p v hr =>
    hr.ext hE (fun x hx => World.cell?_of_block (w := w) (hoth _ (h.bel.lt hx))) (fun _ _ h => h)
  have hOwn : ∀ key s v, Own H O (w.alloc (.cells cs t)) β key s v → Own H O w β key s v := by
    intro key s v ho
    cases key with
    | slot k => exact ho
    | cell x i =>
      obtain ⟨b', m, p, h1, h2, h3, h4, h5⟩ := ho
      exact ⟨b', m, p, h1, h2, h3, h4, by rw [← World.cell?_of_block (w := w) (a := ⟨b', i, none⟩) (hoth b' (hβb x b' m h1))]; exact h5⟩
  have hlt : ∀ key s v, Own H O w β key s v → ∀ g, tb v = some g → g < w.heap.size := fun key s v ho g hg => by
    obtain ⟨_, k, hk⟩ := (h.tok key s v ho).lt hg
    exact h.mlt g k hk
  refine ⟨hE, ⟨h.bel.alloc _, ?_, ?_, ?_, h.inj, h.dom, fun k => hR _ _ (h.reg k), ?_, ?_, ?_⟩, hR, ?_, ?_⟩
  · refine ⟨fun b hb => ?_, h.mN.gl⟩; simp only [show b ≠ w.heap.size by have := h.bel.lt hb; omega, if_false]; exact h.mN b hb
  · intro b n hn
    by_cases e : b = w.heap.size
    · subst e; simp
    · simp only [e, if_false] at hn; have := h.mlt b n hn; simp; omega
  · intro d b m hd
    obtain ⟨h1, h2, h3⟩ := h.box d b m hd
    have hbl := hβb d b m hd
    exact ⟨h1, by simp only [show b ≠ w.heap.size by omega, if_false]; exact h2, h3.ext (hoth b hbl) hR⟩
  · intro key s v ho
    have ho' := hOwn key s v ho
    refine (h.tok key s v ho').ext (fun g hg => ?_)
    have := hlt key s v ho' g hg
    exact ⟨hoth g this, by simp only [show g ≠ w.heap.size by omega, if_false]⟩
  · intro key key' s s' v v' g ho ho'; exact h.tokne key key' s s' v v' g (hOwn _ _ _ ho) (hOwn _ _ _ ho')
  · intro key s v g x m ho; exact h.tokbox key s v g x m (hOwn _ _ _ ho)
  · intro x n hx
    have := hβb x _ n hx
    omega
  · intro key s v ho
    have ho' := hOwn key s v ho
    refine ⟨ho', fun hg => ?_⟩
    have := hlt key s v ho' _ hg
    omega
end
end Go.Proofs.YtpdlcbmnmeihoaaGreatDoor.Ev
namespace Go.Proofs.YtpdlcbmnmeihoaaGreatDoor.Ev
open Go Go.RowKit
/-- the holders: slots of a frame, and those beside -/
def hold {ι : Type} (cx : ι → PV × Value) (st : St) (a : Act) : Nat ⊕ ι → PV × Value
  | .inl s => (st.get s, a.tmps.getD s undef)
  | .inr i => cx i
structure SR {ι : Type} (cx : ι → PV × Value) (w0 : Base) (N : Mut) (nt : Nat) (st : St) (a : Act) (w : World) (M : Mut) (β : Loc) : Prop where
  defs : a.defers = []
  nt : a.tmps.size = nt
  sh : SH (hold cx st a) w0 N st.obj (fun d => notIn d (st.ob.map Prod.fst)) w M β
theorem look_one {α : Type} (d x : α) (r : List (Nat × α)) (a s : Nat) : look d ((a, x) :: r) s = if a = s then x else look d r s := by
  by_cases h : a = s
  · subst h; simp [look]
  · have : Nat.beq a s = false := by
      cases hb : Nat.beq a s
      · rfl
      · exact absurd (Nat.eq_of_beq_eq_true hb) h
    simp [look, this, h]
theorem notIn_iff (d : Nat) (l : List Nat) : notIn d l = true ↔ d ∉ l := by
  induction l with
  | nil => simp [notIn]
  | cons a l ih =>
    by_cases h : a = d
    · subst h; simp [notIn]
    · have : Nat.beq a d = false := by
        cases hb : Nat.beq a d
        · rfl
        · exact absurd (Nat.eq_of_beq_eq_true hb) h
      have h' : d ≠ a := fun e => h e.symm
      simp [notIn, this, ih, h']
theorem look_app {α : Type} (d : α) (l r : List (Nat × α)) (s : Nat) : look d (l ++ r) s = if s ∈ l.map Prod.fst then look d l s else look d r s := by
  induction l with
  | nil => simp
  | cons x l ih =>
    obtain ⟨a, y⟩ := x
    rw [List.cons_append, look_one, look_one, ih]
    by_cases h : a = s
    · subst h; simp
    · have : ¬ s = a := fun e => h e.symm
      simp only [h, if_false, List.map_cons, List.mem_cons, this, false_or]
theorem notIn_app (l r : List Nat) (d : Nat) : notIn d (l ++ r) = (notIn d l && notIn d r) := by
  rw [Bool.eq_iff_iff]; simp [notIn_iff]
theorem rem_look (K : List Nat) : ∀ (l : List (Nat × List PV)) (d : Nat), look [] (rem K l) d = if d ∈ K then [] else look [] l d
  | [], d => by simp [rem, look]
  | (a, x) :: r, d => by
    simp only [rem]
    cases h : notIn a K with
    | true =>
      have ha := (notIn_iff _ _).1 h
      simp only
      rw [look_one, look_one, rem_look K r d]
      by_cases e : a = d
      · subst e; simp [ha]
      · simp [e]
    | false =>
      have ha : a ∈ K := by
        have : ¬ notIn a K = true := by rw [h]; simp
        rw [notIn_iff] at this; exact Classical.not_not.1 this
      simp only
      rw [look_one, rem_look K r d]
      by_cases e : a = d
      · subst e; simp [ha]
      · simp [e]
theorem rem_mem (K : List Nat) : ∀ (l : List (Nat × List PV)) (d : Nat), d ∈ (rem K l).map Prod.fst ↔ d ∈ l.map Prod.fst ∧ d ∉ K
  | [], d => by simp [rem]
  | (a, x) :: r, d => by
    simp only [rem]
    cases h : notIn a K with
    | true =>
      have ha := (notIn_iff _ _).1 h
      simp only [List.map_cons, List.mem_cons, rem_mem K r d]
      constructor
      · rintro (rfl | ⟨h1, h2⟩)
        · exact ⟨.inl rfl, ha⟩
        · exact ⟨.inr h1, h2⟩
      · rintro ⟨h1 | h1, h2⟩
        · exact .inl h1
        · exact .inr ⟨h1, h2⟩
    | false =>
      have ha : a ∈ K := by
        have : ¬ notIn a K = true := by rw [h]; simp
        rw [notIn_iff] at this; exact Classical.not_not.1 this
      simp only [List.map_cons, List.mem_cons, rem_mem K r d]
      constructor
      · rintro ⟨h1, h2⟩; exact ⟨.inr h1, h2⟩
      · rintro ⟨h1 | h1, h2⟩
        · subst h1; exact absurd ha h2
        · exact ⟨h1, h2⟩
theorem notIn_of_iff {a b : List Nat} {d : Nat} (h : d ∈ a ↔ d ∈ b) : notIn d a = notIn d b := by
  rw [Bool.eq_iff_iff, notIn_iff, notIn_iff, h]
theorem look_keys {α : Type} {d : α} (f : Nat → α) : ∀ (keys : List Nat) (s : Nat), look d (keys.map fun x => (x, f x)) s = if s ∈ keys then f s else d := by
  intro keys
  induction keys with
  | nil => intro s; simp [look]
  | cons x keys ih =>
    intro s
    rw [List.map_cons, look_one, ih]
    by_cases e : x = s
    · subst e; simp
    · have : ¬ s = x := fun e' => e e'.symm
      simp only [e, if_false, List.mem_cons, this, false_or]
theorem insK_mem (d : Nat) : ∀ (l : List Nat) (x : Nat), x ∈ insK d l ↔ x = d ∨ x ∈ l
  | [], x => by simp [insK]
  | b :: r, x => by
    simp only [insK]
    cases h1 : Nat.blt d b with
    | true => simp
    | false =>
      cases h2 : Nat.beq d b with
      | true =>
        have := Nat.eq_of_beq_eq_true h2
        subst this
        simp
      | false =>
        simp only [List.mem_cons, insK_mem d r x]
        constructor
        · rintro (h | h | h)
          · exact .inr (.inl h)
          · exact .inl h
          · exact .inr (.inr h)
        · rintro (h | h | h)
          · exact .inr (.inl h)
          · exact .inl h
          · exact .inr (.inr h)
theorem sortK_mem : ∀ (l : List Nat) (x : Nat), x ∈ sortK l ↔ x ∈ l
  | [], x => Iff.rfl
  | d :: r, x => by simp only [sortK, insK_mem, sortK_mem r x, List.mem_cons]
theorem look_none {α : Type} (d : α) : ∀ (l : List (Nat × α)) (s : Nat), s ∉ l.map Prod.fst → look d l s = d
  | [], s, _ => rfl
  | (a, x) :: r, s, h => by
    rw [look_one, if_neg (fun e => h (by simp [e]))]
    exact look_none d r s (fun hs => h (by simp at hs ⊢; exact .inr hs))
theorem normO_mem (l : List (Nat × List PV)) (d : Nat) : (d ∈ (normO l).map Prod.fst) = (d ∈ l.map Prod.fst) := by
  have e : (normO l).map Prod.fst = sortK (l.map Prod.fst) := by
    unfold normO
    rw [List.map_map]
    exact List.map_id' _
  rw [e]
  exact propext (sortK_mem _ _)
theorem normO_look (l : List (Nat × List PV)) (d : Nat) : look [] (normO l) d = look [] l d := by
  unfold normO
  rw [look_keys]
  by_cases h : d ∈ sortK (l.map Prod.fst)
  · rw [if_pos h]
  · rw [if_neg h, look_none [] l d (fun hm => h ((sortK_mem _ _).2 hm))]
theorem normO_key (l : List (Nat × List PV)) (d : Nat) : notIn d ((normO l).map Prod.fst) = notIn d (l.map Prod.fst) := notIn_of_iff (by rw [normO_mem])
theorem mrg_look (o l : List (Nat × List PV)) (d : Nat) : look [] (mrgO o l) d = look [] (o ++ l) d := by
  match o with
  | [] => rfl
  | [x] => rfl
  | x :: y :: r =>
    show look [] ((x :: y :: r) ++ rem ((x :: y :: r).map Prod.fst) l) d = _
    rw [look_app, look_app, rem_look]
    by_cases h : d ∈ (x :: y :: r).map Prod.fst
    · rw [if_pos h, if_pos h]
    · rw [if_neg h, if_neg h, if_neg h]
theorem mrg_key (o l : List (Nat × List PV)) (d : Nat) : notIn d ((mrgO o l).map Prod.fst) = notIn d ((o ++ l).map Prod.fst) := by
  match o with
  | [] => rfl
  | [x] => rfl
  | x :: y :: r =>
    refine notIn_of_iff ?_
    show d ∈ ((x :: y :: r) ++ rem ((x :: y :: r).map Prod.fst) l).map Prod.fst ↔ _
    rw [List.map_append, List.map_append, List.mem_append, List.mem_append, rem_mem]
    constructor
    · rintro (h | ⟨h, _⟩)
      · exact .inl h
      · exact .inr h
    · rintro (h | h)
      · exact .inl h
      · by_cases e : d ∈ (x :: y :: r).map Prod.fst
        · exact .inl e
        · exact .inr ⟨h, e⟩
theorem getD_put (a : Act) (d s : Nat) (v : Value) (hd : d < a.tmps.size) : (a.put (some d) v).tmps.getD s undef = if d = s then v else a.tmps.getD s undef := by
  simp only [Act.put, Array.getD_eq_getD_getElem?, Array.getElem?_setIfInBounds]
  by_cases h : d = s
  · subst h; simp [hd]
  · simp [h]
theorem app_get_one (st : St) (d s : Nat) (p : PV) : (st.app ⟨[(d, p)], []⟩).get s = if d = s then p else st.get s := look_one _ _ _ _ _
section
variable {ι : Type} {cx : ι → PV × Value} {w0 : Base} {w w' : World} {N M M' : Mut} {β β' : Loc} {nt : Nat} {st st' : St} {a : Act}
theorem SR.reg (h : SR cx w0 N nt st a w M β) (s : Nat) : Rel w M β w0.old (st.get s) (a.tmps.getD s undef) := h.sh.reg (.inl s)
def slotPhi (d : Nat) : HKey (Nat ⊕ ι) → Option (HKey (Option (Nat ⊕ ι)))
  | .slot (.inl s) => if d = s then some (.slot none) else some (.slot (some (.inl s)))
  | .slot (.inr i) => some (.slot (some (.inr i)))
  | .cell x i => some (.cell x i)
def slotPsi (d : Nat) : HKey (Option (Nat ⊕ ι)) → HKey (Nat ⊕ ι)
  | .slot none => .slot (.inl d)
  | .slot (some k) => .slot k
  | .cell x i => .cell x i
theorem slotPhi_inv {d : Nat} {k : HKey (Nat ⊕ ι)} {j : HKey (Option (Nat ⊕ ι))} (h : slotPhi d k = some j) : k = slotPsi d j := by
  cases k with
  | slot k =>
    cases k with
    | inl s =>
      simp only [slotPhi] at h
      by_cases e : d = s
      · rw [if_pos e] at h; injection h with h; subst h; rw [← e]; rfl
      · rw [if_neg e] at h; injection h with h; subst h; rfl
    | inr i => injection h with h; subst h; rfl
  | cell x i => injection h with h; subst h; rfl
/-- a datum that something holds comes into a slot -/
theorem SR.of_cons {O : Nat → List PV} {D : Nat → Bool} (hdef : a.defers = []) (hnt : a.tmps.size = nt) {d : Nat} (hd : d < nt) {p : PV} {v : Value} {st0 : St}
    (h : SH (ocons (p, v) (hold cx st0 a)) w0 N O D w M β) (hg : ∀ s, st'.get s = if d = s then p else st0.get s) (hO : ∀ x, st'.obj x = O x)
    (hD : ∀ x, notIn x (st'.ob.map Prod.fst) = true → D x = true) : SR cx w0 N nt st' (a.put (some d) v) w M β := by
  have hds : d < a.tmps.size := by rw [hnt]; exact hd
  have e : st'.obj = O := funext hO
  refine ⟨hdef, by simp [Act.put, hnt], ?_⟩
  rw [e]
  have hH : ∀ s, hold cx st' (a.put (some d) v) (.inl s) = (if d = s then p else st0.get s, if d = s then v else a.tmps.getD s undef) := fun s => by
    simp only [hold]; rw [hg, getD_put a d s v hds]
  refine h.perm (fun k => ?_) (fun d b n hb => (h.box d b n hb).2.2) (fun x hx => h.dom x (hD x hx)) (slotPhi d) ?_ (fun k k' j h1 h2 => (slotPhi_inv h1).trans (slotPhi_inv h2).symm)
  · cases k with
    | inl s =>
      rw [hH]
      by_cases e : d = s
      · simp only [e, if_true]; exact h.reg none
      · simp only [e, if_false]; exact h.reg (some (.inl s))
    | inr i => exact h.reg (some (.inr i))
  · intro key s u ho
    cases key with
    | slot k =>
      cases k with
      | inl t =>
        have ho' : (hold cx st' (a.put (some d) v) (.inl t)).1.sv = some s ∧ s.own = true ∧ (hold cx st' (a.put (some d) v) (.inl t)).2 = u := ho
        rw [hH] at ho'
        by_cases e : d = t
        · refine ⟨.slot none, by simp only [slotPhi]; rw [if_pos e], ?_⟩
          rw [if_pos e, if_pos e] at ho'; exact ho'
        · refine ⟨.slot (some (.inl t)), by simp only [slotPhi]; rw [if_neg e], ?_⟩
          rw [if_neg e, if_neg e] at ho'; exact ho'
      | inr i => exact ⟨_, rfl, ho⟩
    | cell x i => exact ⟨_, rfl, ho⟩
theorem SR.put (h : SR cx w0 N nt st a w M β) (d : Nat) (p : PV) (v : Value) (hd : d < nt) (hr : Rel w M β w0.old p v) (hn : ∀ s, p.sv = some s → s.own = false) :
    SR cx w0 N nt (st.app ⟨[(d, p)], []⟩) (a.put (some d) v) w M β :=
  SR.of_cons h.defs h.nt hd (h.sh.cons p v hr (fun s h1 h2 => by rw [hn s h1] at h2; cases h2)) (fun s => app_get_one st d s p) (fun _ => rfl) (fun _ h => h)
theorem SR.dput (h : SR cx w0 N nt st a w M β) (d : Option Nat) (p : PV) (v : Value) (hd : ∀ x, d = some x → x < nt) (hr : Rel w M β w0.old p v) (hn : ∀ s, p.sv = some s → s.own = false) :
    SR cx w0 N nt (st.app (dput d p)) (a.put d v) w M β := by
  cases d with
  | none => exact h
  | some x => exact h.put x p v (hd x rfl) hr hn
theorem SR.world (h : SR cx w0 N nt st a w M β) (hb : Below w.heap.size w w') : SR cx w0 N nt st a w' M β := ⟨h.defs, h.nt, h.sh.world hb⟩
theorem SR.drawn (h : SR cx w0 N nt st a w M β) : SR cx w0 N nt st a { w with drawn := w.drawn + 1 } M β := ⟨h.defs, h.nt, h.sh.drawn⟩
/-- A slot's row is no longer to be appended to. -/
theorem SR.drop (h : SR cx w0 N nt st a w M β) (s : Nat) : SR cx w0 N nt (st.app ⟨[(s, (st.get s).view)], []⟩) a w M β := by
  refine ⟨h.defs, h.nt, h.sh.hold (fun k => ?_) some (fun k sv h1 h2 => ?_) (fun k k' j h1 h2 => by injection h1 with h1; injection h2 with h2; rw [h1, h2])⟩
  · cases k with
    | inl t =>
      simp only [hold]
      rw [app_get_one]
      by_cases e : s = t
      · subst e; rw [if_pos rfl]; exact (h.reg s).view
      · rw [if_neg e]; exact h.reg t
    | inr i => exact h.sh.reg (.inr i)
  · cases k with
    | inl t =>
      simp only [hold] at h1
      rw [app_get_one] at h1
      by_cases e : s = t
      · rw [if_pos e] at h1; rw [view_sv' h1] at h2; cases h2
      · rw [if_neg e] at h1; exact ⟨_, rfl, h1, rfl⟩
    | inr i => exact ⟨_, rfl, h1, rfl⟩
/-- what a slot owns -/
theorem own_slot {O : Nat → List PV} {s : Nat} {sv : SV} (h1 : (st.get s).sv = some sv) (h2 : sv.own = true) : Own (hold cx st a) O w β (.slot (.inl s)) sv (a.tmps.getD s undef) := ⟨h1, h2, rfl⟩
/-- what others own when a slot's row has been let go -/
theorem own_dropped {O : Nat → List PV} {s : Nat} {key : HKey (Nat ⊕ ι)} {sv : SV} {v : Value} (h : Own (hold cx (st.app ⟨[(s, (st.get s).view)], []⟩) a) O w β key sv v) :
    Own (hold cx st a) O w β key sv v ∧ key ≠ .slot (.inl s) := by
  cases key with
  | slot k =>
    cases k with
    | inl t =>
      obtain ⟨h1, h2, h3⟩ := h
      simp only [hold] at h1
      rw [app_get_one] at h1
      by_cases e : s = t
      · rw [if_pos e] at h1; rw [view_sv' h1] at h2; cases h2
      · rw [if_neg e] at h1; exact ⟨⟨h1, h2, h3⟩, fun e' => by injection e' with e'; injection e' with e'; exact e e'.symm⟩
    | inr i => exact ⟨h, fun e => by injection e with e; cases e⟩
  | cell d i => exact ⟨h, fun e => by cases e⟩
theorem setN_length (l : List PV) : ∀ (off : Nat) (new : List PV), (setN l off new).length = l.length := by
  induction l with
  | nil => intro off new; simp [setN]
  | cons p r ih =>
    intro off new
    cases new with
    | nil => cases off <;> simp [setN]
    | cons q new =>
      cases off with
      | zero => simp [setN, ih]
      | succ n => simp [setN, ih]
theorem setN_get (l : List PV) : ∀ (off : Nat) (new : List PV) (i : Nat), off + new.length ≤ l.length →
    (setN l off new)[i]? = if off ≤ i ∧ i < off + new.length then new[i - off]? else l[i]? := by
  induction l with
  | nil =>
    intro off new i h
    have h1 : off = 0 := by simp at h; omega
    have h2 : new = [] := List.eq_nil_of_length_eq_zero (by simp only [List.length_nil] at h; omega)
    subst h1; subst h2; simp [setN]
  | cons p r ih =>
    intro off new i h
    cases new with
    | nil =>
      have : setN (p :: r) off [] = p :: r := by cases off <;> rfl
      rw [this, if_neg (fun hh => absurd hh.2 (by simp only [List.length_nil]; omega))]
    | cons q new =>
      cases off with
      | zero =>
        have e : setN (p :: r) 0 (q :: new) = q :: setN r 0 new := rfl
        rw [e]
        cases i with
        | zero => simp
        | succ i =>
          rw [List.getElem?_cons_succ, ih 0 new i (by simp at h ⊢; omega)]
          by_cases hi : i < new.length
          · rw [if_pos ⟨by omega, by omega⟩, if_pos ⟨by omega, by simp; omega⟩]; simp
          · rw [if_neg (by omega), if_neg (by simp; omega)]; simp
      | succ n =>
        have e : setN (p :: r) (n + 1) (q :: new) = p :: setN r n (q :: new) := rfl
        rw [e]
        cases i with
        | zero => rw [if_neg (by omega)]; simp
        | succ i =>
          rw [List.getElem?_cons_succ, ih n (q :: new) i (by simp at h ⊢; omega)]
          by_cases hi : n ≤ i ∧ i < n + (q :: new).length
          · rw [if_pos hi, if_pos ⟨by omega, by omega⟩]
            congr 1; omega
          · rw [if_neg hi, if_neg (by omega)]; simp
theorem lenIs_iff (l : List PV) : ∀ n, lenIs l n = true ↔ l.length = n := by
  induction l with
  | nil => intro n; cases n <;> simp [lenIs]
  | cons p r ih => intro n; cases n <;> simp [lenIs, ih]
theorem lenGe_iff (l : List PV) : ∀ n, lenGe l n = true ↔ n ≤ l.length := by
  induction l with
  | nil => intro n; cases n <;> simp [lenGe]
  | cons p r ih => intro n; cases n <;> simp [lenGe, ih]
/-- the cells behind a store -/
theorem mid_get (cs : List Value) (off : Nat) (vs : List Value) (h : off + vs.length ≤ cs.length) (i : Nat) :
    (cs.take off ++ vs ++ cs.drop (off + vs.length))[i]? = if off ≤ i ∧ i < off + vs.length then vs[i - off]? else cs[i]? := by
  rw [List.append_assoc]
  by_cases h1 : i < off
  · rw [if_neg (by omega), List.getElem?_append_left (by simp; omega), List.getElem?_take, if_pos h1]
  · rw [List.getElem?_append_right (by simp; omega)]
    have hl : (cs.take off).length = off := by simp; omega
    rw [hl]
    by_cases h2 : i < off + vs.length
    · rw [if_pos ⟨by omega, h2⟩, List.getElem?_append_left (by omega)]
    · rw [if_neg (by omega), List.getElem?_append_right (by omega), List.getElem?_drop]
      congr 1; omega
/-- cells that read so -/
def RC (w : World) (M : Mut) (β : Loc) (B : Nat → Prop) (l : List PV) (cs : Array Value) : Prop := l.length = cs.size ∧ ∀ (i : Nat) (p : PV) (v : Value), l[i]? = some p → cs[i]? = some v → Rel w M β B p v ∧ v.oneCell' = true
/-- the cells of an operand that is stored -/
theorem cells_of {B : Nat → Prop} {p : PV} {v : Value} (h : Rel w M β B p v) (h1 : ones p.cells = true) :
    v.cells.toList.length = p.cells.length ∧ (∀ (i : Nat) (q : PV) (u : Value), p.cells[i]? = some q → v.cells.toList[i]? = some u → Rel w M β B q u ∧ u.oneCell' = true) := by
  have single : ∀ p v, Rel w M β B p v → p.one = true → p.cells = [p] → v.cells.toList.length = p.cells.length ∧ (∀ (i : Nat) (q : PV) (u : Value), p.cells[i]? = some q → v.cells.toList[i]? = some u → Rel w M β B q u ∧ u.oneCell' = true) := by
    intro p v h h1 h2
    have ho := h.one h1
    have hv : v.cells = #[v] := by cases v <;> first | rfl | (simp [Value.oneCell'] at ho)
    rw [h2, hv]
    refine ⟨rfl, fun i q u hq hu => ?_⟩
    cases i with
    | zero => simp at hq hu; subst hq; subst hu; exact ⟨h, ho⟩
    | succ i => simp at hq
  cases p with
  | agg l =>
    cases h with
    | agg l cs hl ho hr =>
      refine ⟨hl.symm, fun i q u hq hu => ⟨hr i q u hq hu, ho u ?_⟩⟩
      exact List.mem_of_getElem? hu
    | row p s hs => cases hs
  | any => simp [PV.cells, ones, PV.one] at h1
  | tup l => simp [PV.cells, ones, PV.one] at h1
  | ref l => simp [PV.cells, ones, PV.one] at h1
  | arrO x => simp [PV.cells, ones, PV.one] at h1
  | mapO _ _ _ _ => simp [PV.cells, ones, PV.one] at h1
  | mapE _ _ _ _ _ _ => simp [PV.cells, ones, PV.one] at h1
  | val v => exact single _ _ h (by simp only [PV.cells, ones] at h1; split at h1; assumption; cases h1) rfl
  | _ => exact single _ _ h rfl rfl
theorem map_view_get {l : List PV} {i : Nat} {q : PV} (h : (l.map PV.view)[i]? = some q) : ∃ p, l[i]? = some p ∧ q = p.view := by
  rw [List.getElem?_map] at h
  cases hp : l[i]? with
  | none => rw [hp] at h; cases h
  | some p => rw [hp] at h; injection h with h; exact ⟨p, rfl, h.symm⟩
/-- their cells, as views -/
theorem cells_view {B : Nat → Prop} {p : PV} {v : Value} (h : Rel w M β B p v) (h1 : ones p.cells = true) :
    v.cells.toList.length = (p.cells.map PV.view).length ∧ (∀ (i : Nat) (q : PV) (u : Value), (p.cells.map PV.view)[i]? = some q → v.cells.toList[i]? = some u → Rel w M β B q u ∧ u.oneCell' = true) := by
  obtain ⟨c1, c2⟩ := cells_of h h1
  refine ⟨by rw [c1]; simp, fun i q u hq hu => ?_⟩
  obtain ⟨p', hp', rfl⟩ := map_view_get hq
  obtain ⟨r1, r2⟩ := c2 i p' u hp' hu
  exact ⟨r1.view, r2⟩
theorem SR.opd (h : SR cx w0 N nt st a w M β) (x : Operand) : Rel w M β w0.old (st.opd x) (a.eval x) := by
  cases x with
  | tmp t => exact h.reg t
  | const v =>
    show Rel w M β w0.old (match oneV v with | true => .val v | false => .any) v
    cases hv : oneV v with
    | true => exact .val v (by rw [← oneV_eq]; exact hv)
    | false => exact .any v
  | global g =>
    show Rel w M β w0.old (match lookG GL g with | some x => .ref [.lst false x] | none => .any) (.pointer (some ⟨g, 0, none⟩))
    cases hg : lookG GL g with
    | none => exact .any _
    | some x =>
      obtain ⟨q1, v, q2, q3⟩ := h.sh.mN.gl.here h.sh.bel h.sh.mN.eq β w0.old hg
      refine .ref [.lst false x] ⟨g, 0, none⟩ (fun _ => v) (fun i p hp => ?_) (fun i p hp => ?_)
      · cases i with
        | zero => rw [add_lit]; exact ⟨.inl q1, q2, q3.one rfl⟩
        | succ i => simp at hp
      · cases i with
        | zero => injection hp with hp; subst hp; exact q3
        | succ i => simp at hp
  | func f => exact .clo f 0 [] [] rfl (fun i p v hp => by simp at hp)
theorem SR.valOf (h : SR cx w0 N nt st a w M β) : ∀ (l : List Operand), allVal st l = true → ∀ x ∈ l, a.eval x = st.valOf x := by
  intro l
  induction l with
  | nil => intro _ x hx; cases hx
  | cons y l ih =>
    intro hl x hx
    simp only [allVal] at hl
    split at hl
    · rename_i v hy
      rcases List.mem_cons.1 hx with e | e
      · subst e
        have := h.opd x
        rw [hy] at this
        simp only [St.valOf, hy]
        exact this.val_eq
      · exact ih hl x e
    · cases hl
theorem list_choose {l : List PV} {Q : Nat → PV → Value → Prop} (h : ∀ (i : Nat) (p : PV), l[i]? = some p → ∃ v, Q i p v) :
    ∃ vs : List Value, vs.length = l.length ∧ ∀ (i : Nat) (p : PV) (v : Value), l[i]? = some p → vs[i]? = some v → Q i p v := by
  induction l generalizing Q with
  | nil => exact ⟨[], rfl, fun i p v hp => by simp at hp⟩
  | cons p r ih =>
    obtain ⟨v, hv⟩ := h 0 p rfl
    obtain ⟨vs, h1, h2⟩ := ih (Q := fun i => Q (i + 1)) (fun i q hq => h (i + 1) q (by simpa using hq))
    refine ⟨v :: vs, by simp [h1], fun i q u hq hu => ?_⟩
    cases i with
    | zero => simp at hq hu; subst hq; subst hu; exact hv
    | succ i => exact h2 i q u (by simpa using hq) (by simpa using hu)
/-- what a pointer points to -/
def CellsAt (w : World) (M : Mut) (β : Loc) (B : Nat → Prop) (ad : Addr) (l : List PV) : Prop := ∀ (i : Nat) (p : PV), l[i]? = some p → ∃ v, w.cell? (ad.add i) = some v ∧ Rel w M β B p v ∧ v.oneCell' = true
theorem CellsAt.views {B : Nat → Prop} {ad : Addr} {l : List PV} (h : CellsAt w M β B ad l) : CellsAt w M β B ad (l.map PV.view) := fun i p hp => by
  obtain ⟨q, h1, rfl⟩ := map_view_get hp
  obtain ⟨v, a, b, c⟩ := h i q h1
  exact ⟨v, a, b.view, c⟩
theorem plain_views : ∀ (l : List PV), plain (l.map PV.view) = plain l := by
  intro l
  induction l with
  | nil => rfl
  | cons p l ih => cases p <;> simp only [List.map, PV.view, plain] <;> exact ih
theorem vobj_arr {b : Nat} {x : LX} (h : st.vobj b = [.arrO x]) : st.obj b = [.arrO x] := by
  unfold St.vobj at h
  generalize st.obj b = l at h ⊢
  match l, h with
  | [], h => cases h
  | [p], h => cases p <;> simp [PV.view] at h ⊢ <;> exact h
  | p :: q :: r, h => simp at h
theorem vobj_take (b off sz : Nat) : ((st.vobj b).drop off).take sz = (((st.obj b).drop off).take sz).map PV.view := by
  simp only [St.vobj, List.map_drop, List.map_take]
theorem rel_arrO {B : Nat → Prop} {x : LX} {v : Value} (h : Rel w M β B (.arrO x) v) : False := by
  cases h with
  | row p s hs => cases hs
theorem rel_mapO {B : Nat → Prop} {g1 g2 : Bool} {x y : LX} {v : Value} (h : Rel w M β B (.mapO g1 g2 x y) v) : False := by
  cases h with
  | row p s hs => cases hs
theorem rel_mapE {B : Nat → Prop} {es : Array MapEntry} {c : Nat} {g1 g2 : Bool} {x y : LX} {v : Value} (h : Rel w M β B (.mapE es c g1 g2 x y) v) : False := by
  cases h with
  | row p s hs => cases hs
theorem arr_of {B : Nat → Prop} {b n : Nat} {l : List PV} {x : LX} (h : ObjOK w M β B b n l) (hl : l = [.arrO x]) : ∃ cs t, w.heap[b]? = some (.cells cs t (0, 0)) ∧ x.len = n ∧ n * x.sz ≤ cs.size ∧
    ∀ (i j : Nat) (p : PV) (v : Value), i < n → (x.row i)[j]? = some p → cs[i * x.sz + j]? = some v → Rel w M β B p v ∧ v.oneCell' = true := by
  cases h with
  | cells l cs t q1 q2 q3 =>
    subst hl
    have hs : 1 ≤ cs.size := q2
    have := (q3 0 _ (cs[0]'(by omega)) rfl (Array.getElem?_eq_getElem (by omega))).1
    exact (rel_arrO this).elim
  | arr y cs t q1 q2 q3 q4 => injection hl with hl; injection hl with hl; subst hl; exact ⟨cs, t, q1, q2, q3, q4⟩
  | map => injection hl with hl; cases hl
  | mapE => injection hl with hl; cases hl
theorem map_of' {B : Nat → Prop} {b n : Nat} {l : List PV} {gk gv : Bool} {ks vs : LX} (h : ObjOK w M β B b n l) (hl : l = [.mapO gk gv ks vs]) : ∃ es clock, w.heap[b]? = some (.map es clock) ∧ es.size = ks.len ∧ vs.len = ks.len ∧
    (∀ (i : Nat) (e : MapEntry), es[i]? = some e → Rel w M β B (mkP gk (ks.row i)) e.key ∧ Rel w M β B (mkP gv (vs.row i)) e.val) ∧ BornOK es clock := by
  cases h with
  | cells l cs t q1 q2 q3 =>
    subst hl
    have hs : 1 ≤ cs.size := q2
    have := (q3 0 _ (cs[0]'(by omega)) rfl (Array.getElem?_eq_getElem (by omega))).1
    exact (rel_mapO this).elim
  | arr => injection hl with hl; cases hl
  | mapE => injection hl with hl; cases hl
  | map gk' gv' ks' vs' es clock q1 q2 q3 q4 q5 => injection hl with hl; injection hl with e1 e2 e3 e4; subst e1; subst e2; subst e3; subst e4; exact ⟨es, clock, q1, q2, q3, q4, q5⟩
theorem mapL_of {B : Nat → Prop} {b n : Nat} {l : List PV} {gk gv : Bool} {ks vs : LX} (h : ObjOK w M β B b n l) (hl : mapOf l = some (gk, gv, ks, vs)) : ∃ es clock, w.heap[b]? = some (.map es clock) ∧ es.size = ks.len ∧ vs.len = ks.len ∧
    ∀ (i : Nat) (e : MapEntry), es[i]? = some e → Rel w M β B (mkP gk (ks.row i)) e.key ∧ Rel w M β B (mkP gv (vs.row i)) e.val := by
  cases h with
  | cells l cs t q1 q2 q3 =>
    unfold mapOf at hl
    split at hl
    · have hs : 1 ≤ cs.size := q2
      have := (q3 0 _ (cs[0]'(by omega)) rfl (Array.getElem?_eq_getElem (by omega))).1
      exact (rel_mapO this).elim
    · have hs : 1 ≤ cs.size := q2
      have := (q3 0 _ (cs[0]'(by omega)) rfl (Array.getElem?_eq_getElem (by omega))).1
      exact (rel_mapE this).elim
    · cases hl
  | arr => cases hl
  | map gk' gv' ks' vs' es clock q1 q2 q3 q4 q5 => injection hl with hl; injection hl with e1 hl; injection hl with e2 hl; injection hl with e3 e4; subst e1; subst e2; subst e3; subst e4; exact ⟨es, clock, q1, q2, q3, q4⟩
  | mapE gk' gv' ks' vs' es clock q1 q2 q3 q4 q5 => injection hl with hl; injection hl with e1 hl; injection hl with e2 hl; injection hl with e3 e4; subst e1; subst e2; subst e3; subst e4; exact ⟨es, clock, q1, q2, q3, q4⟩
theorem plain_get : ∀ {l : List PV}, plain l = true → ∀ (i : Nat) (p : PV), l[i]? = some p → (∀ x, p ≠ .arrO x) ∧ (∀ g1 g2 x y, p ≠ .mapO g1 g2 x y)
  | [], _, i, p, h => by simp at h
  | q :: r, h, i, p, hp => by
    have hq : (∀ x, q ≠ .arrO x) ∧ (∀ g1 g2 x y, q ≠ .mapO g1 g2 x y) ∧ plain r = true := by
      cases q with
      | arrO x => cases h
      | mapO a b c d => cases h
      | mapE a b c d e f => cases h
      | _ => exact ⟨fun x e => (by cases e), fun a b c d e => (by cases e), h⟩
    cases i with
    | zero => simp at hp; subst hp; exact ⟨hq.1, hq.2.1⟩
    | succ i => exact plain_get hq.2.2 i p (by simpa using hp)
theorem plain_noE : ∀ {l : List PV}, plain l = true → ∀ (i : Nat) (es : Array MapEntry) (c : Nat) (g1 g2 : Bool) (x y : LX), l[i]? ≠ some (.mapE es c g1 g2 x y)
  | [], _, i, _, _, _, _, _, _, h => by simp at h
  | q :: r, h, 0, _, _, _, _, _, _, e => by injection e with e; subst e; cases h
  | q :: r, h, i + 1, es, c, g1, g2, x, y, e => by
    have : plain r = true := by cases q <;> first | exact h | cases h
    exact plain_noE this i es c g1 g2 x y (by simpa using e)
theorem SR.cellsAt (h : SR cx w0 N nt st a w M β) {d off b n : Nat} (hβ : β d = some (b, n)) {l : List PV} (hl : ∀ (i : Nat) (p : PV), l[i]? = some p → (st.obj d)[off + i]? = some p) (hp : plain l = true) : CellsAt w M β w0.old ⟨b, off, none⟩ l := by
  intro i p hp'
  obtain ⟨_, _, h3⟩ := h.sh.box d b n hβ
  have hn := plain_get hp i p hp'
  have hq := hl i p hp'
  generalize st.obj d = od at h3 hq
  cases h3 with
  | cells l cs t q1 q2 q3 =>
    have hlt : off + i < cs.size := by
      have := (List.getElem?_eq_some_iff.1 hq).1
      omega
    have hv : cs[off + i]? = some cs[off + i] := Array.getElem?_eq_getElem hlt
    refine ⟨_, ?_, (q3 _ p _ hq hv)⟩
    rw [add_lit2, World.cell?, q1]
    exact hv
  | arr x cs t q1 q2 q3 q4 =>
    rw [List.getElem?_cons] at hq
    split at hq
    · injection hq with hq; exact absurd hq.symm (hn.1 x)
    · simp at hq
  | map g1 g2 ks vs es clock q1 q2 q3 q4 =>
    rw [List.getElem?_cons] at hq
    split at hq
    · injection hq with hq; exact absurd hq.symm (hn.2 _ _ _ _)
    · simp at hq
  | mapE g1 g2 ks vs es clock q1 q2 q3 q4 =>
    rw [List.getElem?_cons] at hq
    split at hq
    · injection hq with hq; subst hq; exact absurd hp' (plain_noE hp i _ _ _ _ _ _)
    · simp at hq
theorem drop_take_get {l : List PV} {off sz i : Nat} {p : PV} (h : ((l.drop off).take sz)[i]? = some p) : l[off + i]? = some p := by
  rw [List.getElem?_take] at h
  split at h
  · rw [List.getElem?_drop] at h; exact h
  · cases h
end
end Go.Proofs.YtpdlcbmnmeihoaaGreatDoor.Ev
