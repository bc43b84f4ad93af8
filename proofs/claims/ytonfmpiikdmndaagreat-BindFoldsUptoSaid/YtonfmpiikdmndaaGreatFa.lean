/-  An evaluator of translated code on data without memory: definitions. (One operation: 'stepD'. Code: 'evC'. A call that is carried out in place: 'evI'.) -/
import Derived.Test.YtonfmpiikdmndaaGreatFr
namespace Go.Proofs.YtonfmpiikdmndaaGreat.Ev
open Go
set_option linter.unusedVariables false
set_option linter.unusedSimpArgs false
set_option linter.unnecessarySimpa false
structure SV where
  own : Bool
  e : Nat
  sz : Nat
  n : Nat
  f : Nat → List PV
def PV.sv : PV → Option SV
  | .sl own e sz es => some ⟨own, e, sz, es.length, fun i => es.getD i []⟩
  | .lst own x => some ⟨own, x.e, x.sz, x.len, x.row⟩
  | _ => none
structure St where
  fr : List (Nat × PV)
  ob : List (Nat × List PV)
  base : Nat
structure Delta where
  s : List (Nat × PV)
  o : List (Nat × List PV)
def look {α : Type} (d : α) : List (Nat × α) → Nat → α
  | [], _ => d
  | (a, x) :: r, s => match Nat.beq a s with
    | true => x
    | false => look d r s
def notIn (d : Nat) : List Nat → Bool
  | [] => true
  | a :: r => match Nat.beq a d with
    | true => false
    | false => notIn d r
/-- without what is named -/
def rem (K : List Nat) : List (Nat × List PV) → List (Nat × List PV)
  | [] => []
  | (d, l) :: r => match notIn d K with
    | true => (d, l) :: rem K r
    | false => rem K r
def mrgO (o : List (Nat × List PV)) (l : List (Nat × List PV)) : List (Nat × List PV) := match o with
  | [] => l
  | [x] => x :: l
  | x :: y :: r => (x :: y :: r) ++ rem ((x :: y :: r).map Prod.fst) l
def St.app (st : St) (δ : Delta) : St := { fr := δ.s ++ st.fr, ob := mrgO δ.o st.ob, base := st.base }
def St.get (st : St) (s : Nat) : PV := look .any st.fr s
def St.put (st : St) (s : Nat) (p : PV) : St := { st with fr := (s, p) :: st.fr }
def St.obj (st : St) (d : Nat) : List PV := look [] st.ob d
/-- ... as it is read -/
def St.vobj (st : St) (d : Nat) : List PV := (st.obj d).map PV.view
def oneV : Value → Bool
  | .agg _ | .tuple _ => false
  | _ => true
def St.opd (st : St) : Operand → PV
  | .tmp t => st.get t
  | .const v => match oneV v with
    | true => .val v
    | false => .any
  | .func f => .clo f 0 []
  | _ => .any
def PV.cells : PV → List PV
  | .agg l => l
  | p => [p]
/-- is it surely one cell of memory? -/
def PV.one : PV → Bool
  | .val v => oneV v
  | .sl _ _ _ _ => true
  | .lst _ _ => true
  | .loc _ _ => true
  | .el _ _ _ _ => true
  | .vw _ _ _ _ _ => true
  | .mp _ => true
  | .clo _ _ _ => true
  | _ => false
def ones : List PV → Bool
  | [] => true
  | p :: r => match p.one with
    | true => ones r
    | false => false
/-- operations, resolved -/
inductive K where
  | move (x : Operand)
  | nilsl (e : Nat)
  | take (x : Nat)
  | pick (c a b : Operand)
  | alloc (zero : List PV)
  | box (x : Operand)
  | build (zero : List PV) (parts : List (Nat × Nat × Operand))
  | bslice (e sz : Nat) (parts : List Operand)
  | load (agg : Bool) (sz : Nat) (x : Operand)
  | loadT (x : Operand)
  | store (sz : Nat) (a x : Operand)
  | storeT (a : Operand) (s : Nat)
  | scal (o : Oper)
  | eqA (neg : Bool) (ts : List (Nat × Nat)) (x y : Operand)
  | bin2 (tag : Nat) (x y : Operand)
  | field (off : Nat) (x : Operand)
  | index (sz : Nat) (x i : Operand)
  | len (x : Operand)
  | cap (x : Operand)
  | app (e sz by_ : Nat) (s : Nat) (x : Operand)
  | clone (cm : Bool) (e sz by_ : Nat) (s : Nat) (x : Operand)
  | call (f : Nat) (args : List Operand)
  | icall (f : Nat) (args : List Operand)
  | callv (x : Operand) (args : List Operand)
  | mkfn (f n : Nat) (caps : List Operand)
  | extract (x : Operand) (i : Nat)
  | nil (x : Operand)
  | mksl (e sz by_ : Nat) (z : List PV) (n : Operand)
  | mkcap (e sz by_ : Nat) (n : Operand)
  | slc (sz : Nat) (x : Operand) (lo hi mx : Option Operand)
  | sstr (x : Operand) (lo hi : Option Operand)
  | mkmap (gk gv : Bool) (ks vs : LX)
  | lookup (gq : Bool) (ts : List (Nat × Nat)) (ok g : Bool) (z : List PV) (m k : Operand)
  | mapup (gq : Bool) (ts : List (Nat × Nat)) (m k v : Operand)
  | del (m k : Operand)
  | aidx (off sz : Nat) (g : Bool) (x : Operand)
  | stop
structure EOp where
  dst : Option Nat
  g : Option (Nat × Bool)
  k : K
inductive EC where
  | skip
  | region (ban : List Nat) (ap : List (Nat × Nat)) (ops : List EOp)
  | regS (ops : List EOp)
  | seq (a b : EC)
  | cond (c : Operand) (a b : EC)
  | block (id : Nat) (b : EC)
  | loop (keys : List Nat) (b : EC)
  | exit (id : Nat)
  | ret
  | kp (keys : List Nat)
  | frz (ts : List Nat)
  | loopU (keys : List Nat) (b : EC)
  | stop
inductive Ex where
  | normal | exit (id : Nat) | ret
/-- a computation that touches no memory -/
def pureRun {α : Type} (P : Program) : Sem α → (α → Prop) → Prop
  | .pure a, k => k a
  | .program f, k => pureRun P (f P) k
  | _, _ => False
abbrev Oracle := Nat → List PV → (PV → Prop) → Prop
abbrev Inl := Nat → List PV → List (Nat × List PV) → (PV → List (Nat × List PV) → Prop) → Prop
/-- a guard -/
def gd (p : Prop) [d : Decidable p] (k : Prop) : Prop := match d with
  | .isTrue _ => k
  | .isFalse _ => False
theorem gd_and (p : Prop) [d : Decidable p] (k : Prop) : gd p k = (p ∧ k) := by
  unfold gd
  cases d with
  | isTrue h => exact propext ⟨fun hk => ⟨h, hk⟩, fun hk => hk.2⟩
  | isFalse h => exact propext ⟨fun hk => hk.elim, fun hk => h hk.1⟩
def br (t : Bool) (A B : Prop) : Prop := match t with
  | true => A
  | false => B
/-- found, or not -/
def fk (r : Option Nat) (A : Nat → Prop) (B : Prop) : Prop := match r with
  | some i => A i
  | none => B
def getN (l : List PV) (off : Nat) : PV := match l, off with
  | [], _ => .any
  | p :: _, 0 => p
  | _ :: r, n + 1 => getN r n
def lenIs (l : List PV) (n : Nat) : Bool := match l, n with
  | [], 0 => true
  | _ :: r, n + 1 => lenIs r n
  | _, _ => false
def lenGe (l : List PV) (n : Nat) : Bool := match l, n with
  | _, 0 => true
  | _ :: r, n + 1 => lenGe r n
  | _, _ => false
def mkP (agg : Bool) (l : List PV) : PV := match agg, l with
  | true, l => .agg l
  | false, [p] => p.view
  | false, _ => .any
def dput (d : Option Nat) (p : PV) : Delta := match d with
  | some s => ⟨[(s, p)], []⟩
  | none => ⟨[], []⟩
/-- cells, no row and no map -/
def plain : List PV → Bool
  | [] => true
  | .arrO _ :: _ => false
  | .mapO _ _ _ _ :: _ => false
  | _ :: r => plain r
/-- what mentions no variable of ours, of a cell -/
def PV.pure0 (p : PV) : PV := match p.flat with
  | true => p.view
  | false => .any
/-- a pointer into this frame, as it is handed to a callee: what it points to -/
def snap (O : Nat → List PV) : PV → PV
  | .loc d off => match plain ((O d).drop off) with
    | true => .ref (((O d).drop off).map PV.pure0)
    | false => .any
  | .agg l => .agg (l.map PV.pure0)
  | .ref l => .ref (l.map PV.pure0)
  | p => p.pure0
/-- are the variables that are handed to a callee none of 'ban'? -/
def locsOk (st : St) (ban : List Nat) : List Operand → Bool
  | [] => true
  | x :: r => match ban, st.opd x with
    | [], _ => true
    | ban, .loc b _ => match notIn b ban with
      | true => locsOk st ban r
      | false => false
    | ban, _ => locsOk st ban r
def fillN (st : St) (cells : List PV) : List (Nat × Nat × Operand) → (List PV → Prop) → Prop
  | [], k => k cells
  | (off, sz, x) :: r, k => match lenIs (st.opd x).cells sz, ones (st.opd x).cells, lenGe cells (off + sz) with
    | true, true, true => fillN st (setN cells off ((st.opd x).cells.map PV.view)) r k
    | _, _, _ => False
def elems (st : St) (sz : Nat) : List Operand → (List (List PV) → Prop) → Prop
  | [], k => k []
  | x :: r, k => match lenIs (st.opd x).cells sz, ones (st.opd x).cells with
    | true, true => elems st sz r fun l => k ((st.opd x).cells.map PV.view :: l)
    | _, _ => False
def allVal (st : St) : List Operand → Bool
  | [] => true
  | x :: r => match st.opd x with
    | .val _ => allVal st r
    | _ => false
def St.valOf (st : St) (x : Operand) : Value := match st.opd x with
  | .val v => v
  | _ => undef
def scalK (P : Program) (st : St) (o : Oper) (d : Option Nat) (k : Delta → Prop) : Prop :=
  match allVal st o.op.operands.toList with
  | true => pureRun P (execOp st.valOf o) fun n => match n with
    | .value v => match oneV v with
      | true => k (dput d (.val v))
      | false => False
    | _ => False
  | false => False
/-- are two rows of cells alike? ('ts': what stands at which place: 0 a bool, 1 an integer, 2 a string) -/
def eqAt : List (Nat × Nat) → List PV → List PV → Option Bool
  | [], _, _ => some true
  | (tag, o) :: r, xs, ys => match eqAt r xs ys with
    | none => none
    | some t => match tag, getN xs o, getN ys o with
      | 0, .val (.bool a), .val (.bool b) => some ((a == b) && t)
      | 1, .val (.int k a), .val (.int k' b) => match decide (k = k') with
        | true => some ((a == b) && t)
        | false => none
      | 2, .val (.string a), .val (.string b) => some ((a == b) && t)
      | _, _, _ => none
def optByte : Option UInt8 → Int
  | some b => (b.toNat : Int)
  | none => 0
/-- operations that may end the call: when they do not, and what they give -/
def bin2 (tag : Nat) (x y : Value) : Option (Bool × Value) := match tag, x, y with
  | 0, .int k a, .int k' b => match decide (k = k') with
    | true => some (!decide (b = 0), .int k (k.wrap (a.tdiv b)))
    | false => none
  | 1, .int k a, .int k' b => match decide (k = k') with
    | true => some (!decide (b = 0), .int k (a.tmod b))
    | false => none
  | 2, .int k a, .int _ b => some (!decide (b < 0), .int k (k.wrap (a * 2 ^ (min b.toNat k.bits))))
  | 3, .int k a, .int _ b => some (!decide (b < 0), .int k (a.fdiv (2 ^ (min b.toNat k.bits))))
  | 4, .string a, .string b => some (!decide (((a.size + b.size : Nat) : Int) > IntKind.i64.max), .string (a ++ b))
  | 5, .string s, .int _ n => some ((if 0 ≤ n then s[n.toNat]? else none).isSome, .int .u8 (optByte (if 0 ≤ n then s[n.toNat]? else none)))
  | _, _, _ => none
/-- a key of this kind? (0 a bool, 1 an integer, 2 a string) -/
def tagV : Nat → PV → Bool
  | 0, .val (.bool _) => true
  | 1, .val (.int _ _) => true
  | 2, .val (.string _) => true
  | _, _ => false
def tagsOK : List (Nat × Nat) → List PV → Bool
  | [], [] => true
  | (tag, _) :: r, p :: l => match tagV tag p with
    | true => tagsOK r l
    | false => false
  | _, _ => false
/-- the cells of a key -/
def kcells (gq : Bool) (ts : List (Nat × Nat)) (p : PV) : Option (List PV) := match gq, p with
  | true, .agg l => match tagsOK ts l with
    | true => some l
    | false => none
  | true, _ => none
  | false, p => match tagsOK ts [p] with
    | true => some [p]
    | false => none
def sameB : Bool → Bool → Bool
  | true, true => true
  | false, false => true
  | _, _ => false
def vcells (g : Bool) (p : PV) : Option (List PV) := match g, p with
  | true, .agg l => some (l.map PV.view)
  | true, _ => none
  | false, p => match p.one with
    | true => some [p.view]
    | false => none
def isCst : Operand → Bool
  | .const _ => true
  | _ => false
/-- a bound of a slice expression -/
def St.bnd (st : St) (d : Int) : Option Operand → Option Int
  | none => some d
  | some x => match st.opd x with
    | .val (.int _ n) => some n
    | _ => none
/-- a row with cells, held against the nil slice -/
def nilCmp (st : St) (x : Operand) (v : Value) (tag : Nat) (d : Option Nat) (k : Delta → Prop) : Prop := match v, (st.opd x).sv with
  | .slice none 0 0, some s => match tag with
    | 6 => gd (0 < s.n) (k (dput d (.val (.bool false))))
    | 7 => gd (0 < s.n) (k (dput d (.val (.bool true))))
    | _ => False
  | _, _ => False
/-- nothing to append to -/
def PV.bare (e sz : Nat) : PV → Bool
  | .val (.slice none 0 0) => true
  | .lst true y => match Nat.beq y.len 0, Nat.beq e y.e, Nat.beq sz y.sz with
    | true, true, true => true
    | _, _, _ => false
  | _ => false
/-- nil over an empty row of ours: the row stays ours -/
def keepN : PV → PV → PV
  | .lst true y, .val (.slice none 0 0) => match Nat.beq y.len 0 with
    | true => .lst true y
    | false => .val (.slice none 0 0)
  | _, p => p
def keepL : List PV → List PV → List PV
  | _, [] => []
  | [], p :: ps => p :: ps
  | o :: os, p :: ps => keepN o p :: keepL os ps
/-- the cells of a row, one behind the other -/
def LX.flat (z : LX) : List PV := (((List.range z.len).map z.row).flatten).map PV.view
/-- one operation: what it changes -/
def stepD (P : Program) (C : Oracle) (X : Inl) (ban : List Nat) (o : K) (d : Option Nat) (st : St) (k : Delta → Prop) : Prop :=
  match o with
  | .move x => k (dput d (st.opd x).view)
  | .nilsl e => match d, LX.nil e with
    | some d, some x => k ⟨[(d, .lst true x)], []⟩
    | _, _ => False
  | .take s => match d with
    | some d => k ⟨[(d, st.get s), (s, (st.get s).view)], []⟩
    | none => False
  | .pick c a b => match st.opd c with
    | .val (.bool t) => br t (k (dput d (st.opd a).view)) (k (dput d (st.opd b).view))
    | _ => False
  | .alloc z => match d with
    | some s => match notIn (st.base + s) (st.ob.map Prod.fst) with
      | true => k ⟨[(s, .loc (st.base + s) 0)], [(st.base + s, z)]⟩
      | _ => False
    | none => False
  | .box x => match d with
    | some s => match notIn (st.base + s) (st.ob.map Prod.fst), ones (st.opd x).cells with
      | true, true => k ⟨[(s, .loc (st.base + s) 0)], [(st.base + s, (st.opd x).cells.map PV.view)]⟩
      | _, _ => False
    | none => False
  | .build z parts => fillN st (z.map PV.view) parts fun l => k (dput d (.agg l))
  | .bslice e sz parts => elems st sz parts fun l => match LX.lit e l with
    | some x => match Nat.beq x.sz sz with
      | true => k (dput d (.lst true x))
      | false => False
    | none => k (dput d (.sl true e sz l))
  | .load agg sz x => match st.opd x with
    | .loc b off => match notIn b ban, lenGe ((st.vobj b).drop off) sz, plain (((st.vobj b).drop off).take sz) with
      | true, true, true => k (dput d (mkP agg (((st.vobj b).drop off).take sz)))
      | _, _, _ => False
    | .ref l => match lenGe l sz with
      | true => k (dput d (mkP agg (l.take sz)))
      | false => False
    | .el b sz' i off => match notIn b ban, st.vobj b with
      | true, [.arrO x] => match Nat.beq sz' x.sz, lenGe ((x.row i).drop off) sz with
        | true, true => k (dput d (mkP agg (((x.row i).drop off).take sz)))
        | _, _ => False
      | _, _ => False
    | _ => False
  | .loadT x => match st.opd x, d with
    | .loc b off, some d => match notIn b ban, (getN (st.obj b) off).one && plain (st.obj b) with
      | true, true => k ⟨[(d, getN (st.obj b) off)], [(b, setN (st.obj b) off [(getN (st.obj b) off).view])]⟩
      | _, _ => False
    | _, _ => False
  | .store sz a x => match st.opd a with
    | .loc b off => match lenIs (st.opd x).cells sz, ones (st.opd x).cells, lenGe (st.obj b) (off + sz) && plain (st.obj b) with
      | true, true, true => k ⟨[], [(b, setN (st.obj b) off (keepL ((st.obj b).drop off) ((st.opd x).cells.map PV.view)))]⟩
      | _, _, _ => False
    | .el b sz' i off => match lenIs (st.opd x).cells sz, ones (st.opd x).cells, st.obj b with
      | true, true, [.arrO y] => match Nat.beq sz' y.sz, LX.set y i off ((st.opd x).cells.map PV.view) with
        | true, some y' => k ⟨[], [(b, [.arrO y'])]⟩
        | _, _ => False
      | _, _, _ => False
    | _ => False
  | .storeT a s => match st.opd a with
    | .loc b off => match (st.get s).one, lenGe (st.obj b) (off + 1) && plain (st.obj b) with
      | true, true => k ⟨[(s, (st.get s).view)], [(b, setN (st.obj b) off [st.get s])]⟩
      | _, _ => False
    | .el b sz' i off => match (st.get s).one, st.obj b with
      | true, [.arrO y] => match Nat.beq sz' y.sz, LX.set y i off [(st.get s).view] with
        | true, some y' => k ⟨[(s, (st.get s).view)], [(b, [.arrO y'])]⟩
        | _, _ => False
      | _, _ => False
    | _ => False
  | .scal o => scalK P st o d k
  | .bin2 tag x y => match st.opd x, st.opd y with
    | .val u, .val v => match bin2 tag u v with
      | some (c, r) => br c (k (dput d (.val r))) False
      | none => False
    | _, .val v => nilCmp st x v tag d k
    | _, _ => False
  | .eqA neg ts x y => match st.opd x, st.opd y with
    | .agg xs, .agg ys => match eqAt ts xs ys with
      | some t => match neg with
        | true => k (dput d (.val (.bool (!t))))
        | false => k (dput d (.val (.bool t)))
      | none => False
    | _, _ => False
  | .field off x => match st.opd x with
    | .loc b o => k (dput d (.loc b (o + off)))
    | .ref l => k (dput d (.ref (l.drop off)))
    | .el b sz i o => k (dput d (.el b sz i (o + off)))
    | _ => False
  | .index sz x i => match st.opd x, st.opd i with
    | .vw c b e sz' m, .val (.int _ n) => match Nat.beq sz sz', c with
      | true, false => gd (0 ≤ n) (gd (n < (m : Int)) (k (dput d (.el b sz n.toNat 0))))
      | true, true => gd (0 ≤ n) (gd (n < (m : Int)) (k (dput d (.loc b (n.toNat * sz)))))
      | _, _ => False
    | p, .val (.int _ n) => match p.sv with
      | some s => match Nat.beq sz s.sz with
        | true => gd (0 ≤ n) (gd (n < (s.n : Int)) (k (dput d (.ref (s.f n.toNat)))))
        | false => False
      | none => False
    | _, _ => False
  | .len x => match st.opd x with
    | .vw _ _ _ _ m => k (dput d (.val (.int .i64 m)))
    | .val (.slice _ n _) => k (dput d (.val (.int .i64 n)))
    | p => match p.sv with
      | some s => k (dput d (.val (.int .i64 s.n)))
      | none => False
  | .cap x => match st.opd x with
    | .val (.slice _ _ c) => k (dput d (.val (.int .i64 c)))
    | _ => False
  | .app e sz by_ s x => match d with
    | some d => match st.get s, st.opd x with
      | .lst true y, .lst _ z => match Nat.beq e y.e, Nat.beq sz y.sz, LX.cat y z with
        | true, true, some r => gd ((y.len + z.len) * by_ ≤ 140737488355328) (gd (y.len + z.len ≤ maxLen) (k ⟨[(d, .lst true r), (s, .lst false y)], []⟩))
        | _, _, _ => False
      | .lst true y, .val (.slice none 0 0) => match Nat.beq e y.e with
        | true => k ⟨[(d, .lst true y), (s, .lst false y)], []⟩
        | false => False
      | .val (.slice none 0 0), .lst _ z => match Nat.beq e z.e, Nat.beq sz z.sz with
        | true, true => gd ((0 + z.len) * by_ ≤ 140737488355328) (gd (0 + z.len ≤ maxLen) (k ⟨[(d, .lst true z)], []⟩))
        | _, _ => False
      | _, _ => False
    | none => False
  | .clone cm e sz by_ s x => match d, LX.nil e with
    | some d, some n => match notIn (st.base + d) (st.ob.map Prod.fst), (st.get s).bare e sz && Nat.beq e n.e && Nat.beq sz n.sz with
      | true, true => match st.opd x with
        | .lst _ z => match Nat.beq e z.e, Nat.beq sz z.sz with
          | true, true => br (Nat.beq z.len 0) (k ⟨[(d, .lst true n), (s, (st.get s).view)], []⟩)
            (gd (z.len * by_ ≤ 140737488355328) (gd (z.len ≤ maxLen) (k ⟨[(d, .vw cm (st.base + d) e sz z.len), (s, (st.get s).view)], [(st.base + d, match cm with | true => z.flat | false => [.arrO z])]⟩)))
          | _, _ => False
        | _ => False
      | _, _ => False
    | _, _ => False
  | .call f args => match locsOk st ban args with
    | true => C f (args.map fun x => snap st.obj (st.opd x)) fun r => k (dput d r.view)
    | false => False
  | .icall f args => X f (args.map fun x => (st.opd x).view) st.ob fun r o' => k ⟨(dput d r).s, o'⟩
  | .callv x args => match st.opd x with
    | .clo f n caps => X f (caps.take n ++ ((args.map fun x => (st.opd x).view) ++ caps.drop n)) st.ob fun r o' => k ⟨(dput d r).s, o'⟩
    | _ => False
  | .mkfn f n caps => k (dput d (.clo f n (caps.map fun x => (st.opd x).view)))
  | .extract x i => match st.opd x with
    | .tup l => match lenGe l (i + 1) with
      | true => k (dput d (getN l i).view)
      | false => False
    | _ => False
  | .nil x => match st.opd x with
    | .loc b off => k (dput d (.loc b off))
    | .ref l => k (dput d (.ref l))
    | .el b sz i off => k (dput d (.el b sz i off))
    | _ => False
  | .mksl e sz by_ z n => match d, st.opd n with
    | some s, .val (.int .i64 m) => match isCst n with
      | true => match decide (0 ≤ m), notIn (st.base + s) (st.ob.map Prod.fst), Nat.ble (m.toNat * by_) 140737488355328 && Nat.ble m.toNat 16777216 with
        | true, true, true => k ⟨[(s, .vw true (st.base + s) e sz m.toNat)], [(st.base + s, (List.replicate m.toNat z).flatten)]⟩
        | _, _, _ => False
      | false => match notIn (st.base + s) (st.ob.map Prod.fst), LX.lit e [z.map PV.view] with
        | true, some y => match Nat.beq y.sz sz with
          | true => gd (0 ≤ m) (gd (m * (by_ : Int) ≤ 140737488355328) (gd (m ≤ 9223372036854775807) (k ⟨[(s, .vw false (st.base + s) e sz m.toNat)], [(st.base + s, [.arrO (y.rep m.toNat)])]⟩)))
          | false => False
        | _, _ => False
    | _, _ => False
  | .mkcap e sz by_ n => match d, st.opd n, LX.nil e with
    | some s, .val (.int .i64 m), some x => match Nat.beq x.sz sz with
      | true => gd (0 ≤ m) (gd (m * (by_ : Int) ≤ 140737488355328) (gd (m ≤ (maxLen : Int)) (k ⟨[(s, .lst true x)], []⟩)))
      | false => False
    | _, _, _ => False
  | .slc sz x lo hi mx => match st.opd x with
    | .lst _ y => match Nat.beq sz y.sz, st.bnd y.len mx with
      | true, some m => match st.bnd y.len hi with
        | some h => match st.bnd 0 lo with
          | some l => gd (0 ≤ l) (gd (l ≤ h) (gd (h ≤ m) (gd (m ≤ (y.len : Int)) (k (dput d (.lst (mx.isSome && decide (m = 0)) (y.sub l.toNat h.toNat)))))))
          | none => False
        | none => False
      | _, _ => False
    | _ => False
  | .sstr x lo hi => match st.opd x with
    | .val (.string s) => match st.bnd s.size hi with
      | some h => match st.bnd 0 lo with
        | some l => gd (0 ≤ l) (gd (l ≤ h) (gd (h ≤ (s.size : Int)) (k (dput d (.val (.string (s.extract l.toNat h.toNat)))))))
        | none => False
      | none => False
    | _ => False
  | .mkmap gk gv ks vs => match d with
    | some s => match notIn (st.base + s) (st.ob.map Prod.fst) with
      | true => k ⟨[(s, .mp (st.base + s))], [(st.base + s, [.mapO gk gv ks vs])]⟩
      | false => False
    | none => False
  | .lookup gq ts ok g z m q => match st.opd m with
    | .mp b => match notIn b ban, st.obj b, kcells gq ts (st.opd q) with
      | true, [.mapO gk gv ks vs], some c => match sameB gq gk, LX.find ks c, sameB g gv with
        | true, some r, true => fk r (fun i => k (dput d (match ok with | true => .tup [mkP gv (vs.row i), .val (.bool true)] | false => mkP gv (vs.row i))))
            (k (dput d (match ok with | true => .tup [mkP g (z.map PV.view), .val (.bool false)] | false => mkP g (z.map PV.view))))
        | _, _, _ => False
      | _, _, _ => False
    | _ => False
  | .mapup gq ts m q v => match st.opd m with
    | .mp b => match st.obj b, kcells gq ts (st.opd q) with
      | [.mapO gk gv ks vs], some ck => match sameB gq gk, LX.find ks ck, vcells gv (st.opd v) with
        | true, some r, some c => fk r (fun i => match Nat.beq c.length vs.sz, LX.set vs i 0 c with
            | true, some vs' => k ⟨[], [(b, [.mapO gk gv ks vs'])]⟩
            | _, _ => False)
          (match LX.push ks ck, LX.push vs c with
            | some ks', some vs' => k ⟨[], [(b, [.mapO gk gv ks' vs'])]⟩
            | _, _ => False)
        | _, _, _ => False
      | _, _ => False
    | _ => False
  | .del m q => False
  | .aidx off sz g x => match st.opd x with
    | .agg l => match lenGe l (off + sz) with
      | true => k (dput d (mkP g ((l.drop off).take sz)))
      | false => False
    | _ => False
  | .stop => False
def evOps (P : Program) (C : Oracle) (X : Inl) (ban : List Nat) : List EOp → St → (St → Prop) → Prop
  | [], st, k => k st
  | o :: r, st, k => match o.g with
    | none => stepD P C X ban o.k o.dst st fun δ => evOps P C X ban r (st.app δ) k
    | some (s, want) => match st.get s with
      | .val (.bool t) =>
        br t
        (match want with
          | true => stepD P C X ban o.k o.dst (st.put s (.val (.bool true))) fun δ => evOps P C X ban r ((st.put s (.val (.bool true))).app δ) k
          | false => evOps P C X ban r ((st.put s (.val (.bool true))).app (dput o.dst (.tup []))) k)
        (match want with
          | false => stepD P C X ban o.k o.dst (st.put s (.val (.bool false))) fun δ => evOps P C X ban r ((st.put s (.val (.bool false))).app δ) k
          | true => evOps P C X ban r ((st.put s (.val (.bool false))).app (dput o.dst (.tup []))) k)
      | .tup [] => evOps P C X ban r (st.app (dput o.dst (.tup []))) k
      | _ => False
/-- what changes no variable, and writes only its own slot -/
def K.quiet : K → Bool
  | .move _ | .scal _ | .field .. | .load .. | .len _ | .cap _ | .bin2 .. | .eqA .. | .index .. | .extract .. | .nil _ | .call .. | .pick .. | .sstr .. | .lookup .. => true
  | _ => false
/-- operations under a guard, and the choice behind them -/
def splitB (s : Nat) : List EOp → Option (List EOp × Nat × List EOp)
  | [] => none
  | eo :: r => match eo.k.quiet, eo.g with
    | true, some _ => match splitB s r with
      | some (B, pd, r') => some (eo :: B, pd, r')
      | none => none
    | true, none => match eo.k, eo.dst with
      | .pick (.tmp c) _ _, some pd => match Nat.beq c s with
        | true => some ([eo], pd, r)
        | false => none
      | _, _ => none
    | false, _ => none
def anyD : List EOp → List (Nat × PV)
  | [] => []
  | eo :: r => match eo.dst with
    | some d => (d, .any) :: anyD r
    | none => anyD r
/-- behind the choice: only what was chosen is known -/
def stJ (st : St) (B : List EOp) (pd : Nat) (b : Bool) : St := st.app ⟨(pd, .val (.bool b)) :: anyD B, []⟩
/-- two ways that meet -/
def jn {σ : Type} (X : (σ → Prop) → Prop) (j : σ → Prop) : Prop := X j
def jPick (pd : Nat) (j : Bool → Prop) (st : St) : Prop := match st.get pd with
  | .val (.bool b) => j b
  | _ => False
/-- operations in the order of the text -/
def evSeq (P : Program) (C : Oracle) (X : Inl) : Nat → List EOp → St → (St → Prop) → Prop
  | _, [], st, k => k st
  | 0, _ :: _, _, _ => False
  | n + 1, o :: r, st, k => match o.g with
    | none => stepD P C X [] o.k o.dst st fun δ => evSeq P C X n r (st.app δ) k
    | some (s, want) => match st.get s with
      | .val (.bool t) => match splitB s (o :: r) with
        | some (B, pd, r') => jn (fun j => br t (evOps P C X [] B (st.put s (.val (.bool true))) (jPick pd j)) (evOps P C X [] B (st.put s (.val (.bool false))) (jPick pd j)))
            (fun b => evSeq P C X n r' (stJ st B pd b) k)
        | none => br t
          (match want with
            | true => stepD P C X [] o.k o.dst (st.put s (.val (.bool true))) fun δ => evSeq P C X n r ((st.put s (.val (.bool true))).app δ) k
            | false => evSeq P C X n r ((st.put s (.val (.bool true))).app (dput o.dst (.tup []))) k)
          (match want with
            | false => stepD P C X [] o.k o.dst (st.put s (.val (.bool false))) fun δ => evSeq P C X n r ((st.put s (.val (.bool false))).app δ) k
            | true => evSeq P C X n r ((st.put s (.val (.bool false))).app (dput o.dst (.tup []))) k)
      | .tup [] => evSeq P C X n r (st.app (dput o.dst (.tup []))) k
      | _ => False
/-- does it mention no variable that 'D' calls dead? -/
def PV.safe0 (D : Nat → Bool) : PV → Bool
  | .any => true
  | .val _ => true
  | .lst _ _ => true
  | .loc d _ => !(D d)
  | .el d _ _ _ => !(D d)
  | .vw _ d _ _ _ => !(D d)
  | .mp d => !(D d)
  | .arrO _ => true
  | .mapO _ _ _ _ => true
  | _ => false
def safes (s : PV → Bool) : List PV → Bool
  | [] => true
  | p :: r => match s p with
    | true => safes s r
    | false => false
def safess (s : PV → Bool) : List (List PV) → Bool
  | [] => true
  | p :: r => match safes s p with
    | true => safess s r
    | false => false
def PV.safeUp (s : PV → Bool) : PV → Bool
  | .agg l => safes s l
  | .tup l => safes s l
  | .ref l => safes s l
  | .clo _ _ l => safes s l
  | .sl _ _ _ es => safess s es
  | p => s p
def PV.safe (D : Nat → Bool) (p : PV) : Bool := PV.safeUp (PV.safeUp (PV.safeUp (PV.safe0 D))) p
def PV.clean (D : Nat → Bool) (p : PV) : PV := match p.safe D with
  | true => p
  | false => .any
def insK (d : Nat) : List Nat → List Nat
  | [] => [d]
  | b :: r => match Nat.blt d b, Nat.beq d b with
    | true, _ => d :: b :: r
    | false, true => b :: r
    | false, false => b :: insK d r
def sortK : List Nat → List Nat
  | [] => []
  | d :: r => insK d (sortK r)
def normO (l : List (Nat × List PV)) : List (Nat × List PV) := (sortK (l.map Prod.fst)).map fun d => (d, look [] l d)
def liveK (st : St) : List Nat := sortK (st.ob.map Prod.fst)
/-- at a loop's head: only the slots 'keys' and the variables 'live' are known -/
def keep (keys live : List Nat) (st : St) : St :=
  { fr := keys.map fun s => (s, (st.get s).clean fun d => notIn d live), ob := live.map fun d => (d, (st.obj d).map fun p => p.clean fun d => notIn d live), base := st.base }
/-- ... what is not known is not named -/
def frF (st : St) (live : List Nat) : List Nat → List (Nat × PV)
  | [] => []
  | s :: r => match (st.get s).clean fun d => notIn d live with
    | .any => frF st live r
    | p => (s, p) :: frF st live r
def keepF (keys live : List Nat) (st : St) : St :=
  { fr := frF st live keys, ob := live.map fun d => (d, (st.obj d).map fun p => p.clean fun d => notIn d live), base := st.base }
def remK (b : Nat) : List Nat → List Nat
  | [] => []
  | a :: r => match Nat.beq a b with
    | true => remK b r
    | false => a :: remK b r
/-- a row of ours that is written no more -/
def St.frz1 (st : St) (t : Nat) : St := match st.get t with
  | .vw false b _ _ _ => match st.obj b, Nat.ble st.base b with
    | [.arrO y], true => (keepF (st.fr.map Prod.fst) (remK b (liveK st)) st).app ⟨[(t, .lst false y)], []⟩
    | _, _ => st
  | _ => st
def St.frzL (st : St) : List Nat → St
  | [] => st
  | t :: r => St.frzL (st.frz1 t) r
def kRound (f : St → (Ex → St → Prop) → Prop) (keys live : List Nat) (k : Ex → St → Prop) : Ex → St → Prop := fun e st' => match e with
  | .normal => f (keep keys live st') k
  | .exit i => k (.exit i) (keep keys live st')
  | .ret => k .ret (keep keys live st')
def loopN (body : St → (Ex → St → Prop) → Prop) (keys live : List Nat) : Nat → St → (Ex → St → Prop) → Prop
  | 0, _, _ => False
  | n + 1, st, k => body st (kRound (loopN body keys live n) keys live k)
def kRoundU (f : St → (Ex → St → Prop) → Prop) (keys : List Nat) (k : Ex → St → Prop) : Ex → St → Prop := fun e st' => match e with
  | .normal => f (keepF keys (liveK st') st') k
  | .exit i => k (.exit i) st'
  | .ret => k .ret st'
/-- ... whose rounds may leave variables behind -/
def loopNU (body : St → (Ex → St → Prop) → Prop) (keys : List Nat) : Nat → St → (Ex → St → Prop) → Prop
  | 0, _, _ => False
  | n + 1, st, k => body st (kRoundU (loopNU body keys n) keys k)
/-- do these pairs of slots hold pointers to different variables? -/
def apartOK (st : St) : List (Nat × Nat) → Bool
  | [] => true
  | (a, b) :: r => match st.get a, st.get b with
    | .loc d _, .loc d' _ => match Nat.beq d d' with
      | true => false
      | false => apartOK st r
    | _, _ => false
def kSeq (f : St → (Ex → St → Prop) → Prop) (k : Ex → St → Prop) : Ex → St → Prop := fun e st' => match e with
  | .normal => f st' k
  | .exit i => k (.exit i) st'
  | .ret => k .ret st'
def kBlock (id : Nat) (k : Ex → St → Prop) : Ex → St → Prop := fun e st' => match e with
  | .exit i => match Nat.beq i id with
    | true => k .normal st'
    | false => k (.exit i) st'
  | .normal => k .normal st'
  | .ret => k .ret st'
def evC (P : Program) (C : Oracle) (X : Inl) (L : Nat) : EC → St → (Ex → St → Prop) → Prop
  | .skip, st, k => k .normal st
  | .region ban ap l, st, k => match apartOK st ap with
    | true => evOps P C X (ban.map (st.base + ·)) l st fun st' => k .normal st'
    | false => False
  | .regS l, st, k => evSeq P C X l.length l st fun st' => k .normal st'
  | .seq a b, st, k => evC P C X L a st (kSeq (evC P C X L b) k)
  | .cond c a b, st, k => match st.opd c with
    | .val (.bool t) => br t (evC P C X L a st k) (evC P C X L b st k)
    | _ => False
  | .block id b, st, k => evC P C X L b st (kBlock id k)
  | .loop keys b, st, k => loopN (evC P C X L b) keys (liveK st) L (keep keys (liveK st) st) k
  | .loopU keys b, st, k => loopNU (evC P C X L b) keys L st k
  | .exit id, st, k => k (.exit id) st
  | .ret, st, k => k .ret st
  | .kp keys, st, k => k .normal (keepF keys (liveK st) st)
  | .frz ts, st, k => k .normal (st.frzL ts)
  | .stop, _, _ => False
/-! ### the translation of code into operations that are resolved -/
def isAggT (P : Program) (t : Nat) : Bool := match P.underlying t with
  | some (.struct _) | some (.array _ _) => true
  | _ => false
def isSlT (P : Program) (t : Nat) : Bool := match P.underlying t with
  | some (.slice _) => true
  | _ => false
def szT (P : Program) (t : Nat) : Option Nat := (P.info? t).map (·.size)
def zeroT (P : Program) (t : Nat) : Option (List Value) := ((P.info? t).bind (·.zero)).map fun v => v.cells.toList
def fieldsT (P : Program) (t : Nat) : Option (List (Nat × Nat)) := match P.underlying t with
  | some (.struct fs) => fs.toList.mapM fun f => (P.info? f.type).map fun i => (f.offset, i.size)
  | some (.array n e) => (P.info? e).map fun i => (List.range n).map fun k => (k * i.size, i.size)
  | _ => none
/-- which cells of a type hold slices, and of what -/
def slOf (P : Program) : Nat → Nat → List (Option Nat)
  | 0, _ => [none]
  | n + 1, t => match P.underlying t with
    | some (.slice e) => [some e]
    | some (.struct fs) => fs.toList.flatMap fun f => slOf P n f.type
    | some (.array k e) => (List.replicate k (slOf P n e)).flatten
    | _ => [none]
def zcell : Option Nat → Value → PV
  | some e, .slice none 0 0 => match LX.nil e with
    | some x => .lst true x
    | none => .val (.slice none 0 0)
  | _, v => .val v
def zipZ : List (Option Nat) → List Value → List PV
  | _, [] => []
  | [], v :: vs => .val v :: zipZ [] vs
  | o :: os, v :: vs => zcell o v :: zipZ os vs
def allOne : List Value → Bool
  | [] => true
  | v :: r => match oneV v with
    | true => allOne r
    | false => false
def zeroP (P : Program) (t : Nat) : Option (List PV) := match zeroT P t with
  | some z => match allOne z with
    | true => some (zipZ (slOf P 8 t) z)
    | false => none
  | none => none
/-- ... with nil for a row -/
def zeroB (b : Bool) (P : Program) (t : Nat) : Option (List PV) := match b with
  | false => zeroP P t
  | true => match zeroT P t with
    | some z => match allOne z with
      | true => some (zipZ [] z)
      | false => none
    | none => none
/-- is the zero value of a type of this form? -/
def zKind (P : Program) (t : Nat) (g : Bool) : Bool := match (P.info? t).bind (·.zero) with
  | some (.agg _) => g
  | some (.tuple _) => false
  | some _ => !g
  | none => false
def partsT (fs : List (Nat × Nat)) : List (Nat × Operand) → Option (List (Nat × Nat × Operand))
  | [] => some []
  | (i, x) :: r => match fs[i]?, partsT fs r with
    | some (off, sz), some l => some ((off, sz, x) :: l)
    | _, _ => none
def denseT (i : Nat) : List (Nat × Operand) → Option (List Operand)
  | [] => some []
  | (j, x) :: r => match Nat.beq i j, denseT (i + 1) r with
    | true, some l => some (x :: l)
    | _, _ => none
def tagT (P : Program) (t : Nat) : Option Nat := match P.underlying t with
  | some .bool => some 0
  | some (.int _) => some 1
  | some .string => some 2
  | _ => none
def eqTags (P : Program) : List Field → Option (List (Nat × Nat))
  | [] => some []
  | f :: r => match f.name == "_", tagT P f.type, eqTags P r with
    | false, some tag, some l => some ((tag, f.offset) :: l)
    | _, _, _ => none
def seqTs : Nat → List (Nat × Nat) → Bool
  | _, [] => true
  | k, (_, o) :: r => match Nat.beq o k with
    | true => seqTs (k + 1) r
    | false => false
def arrTs (tag : Nat) : List Nat → List (Nat × Nat)
  | [] => []
  | k :: r => (tag, k) :: arrTs tag r
def eqPlan (P : Program) (t : Nat) : Option (List (Nat × Nat)) := match P.underlying t with
  | some (.struct fs) => match P.stoodInHeld t, P.eqGuardType P.depth t with
    | false, false => eqTags P fs.toList
    | _, _ => none
  | some (.array n e) => match tagT P e, Nat.beq (P.cellsOf e) 1 && (P.info? e).isSome, P.eqGuardType P.depth t with
    | some tag, true, false => some (arrTs tag (List.range n))
    | _, _, _ => none
  | _ => none
/-- how the keys of a type are compared -/
def keyPlan (P : Program) (t : Nat) : Option (Bool × List (Nat × Nat)) := match tagT P t with
  | some tag => some (false, [(tag, 0)])
  | none => match eqPlan P t with
    | some (x :: r) => match seqTs 0 (x :: r) with
      | true => some (true, x :: r)
      | false => none
    | _ => none
/-- may this function be called by its number? -/
def callable (P : Program) (f : Nat) : Bool := match P.funcs[f]? with
  | some fn => !(fn.name == "runtime.NumGoroutine") && fn.body.isSome
  | none => false
def isNilS : Operand → Bool
  | .const (.slice none 0 0) => true
  | _ => false
def nilOf (P : Program) (t : Nat) : Option Nat := match P.underlying t with
  | some (.slice e) => match LX.nil e with
    | some _ => some e
    | none => none
  | _ => none
/-- how often an operand is named -/
def cntO (s : Nat) : List Operand → Nat
  | [] => 0
  | .tmp t :: r => match Nat.beq s t with
    | true => 1 + cntO s r
    | false => cntO s r
  | _ :: r => cntO s r
def cntOps (s : Nat) : List Oper → Nat
  | [] => 0
  | o :: r => cntO s o.op.operands.toList + cntOps s r
def cntC (s : Nat) : Code → Nat
  | .region _ os _ => cntOps s os.toList
  | .seq a b => cntC s a + cntC s b
  | .cond c a b => cntO s [c] + cntC s a + cntC s b
  | .block _ b => cntC s b
  | .loop b => cntC s b
  | .skip => 0
  | .exit _ => 0
  | .ret => 0
  | _ => 2
/-- is it what is appended to? -/
def appOps (s : Nat) : List Oper → Bool
  | [] => false
  | o :: r => match o.op with
    | .call { callee := .builtin .append, args, argTypes := _ } => match args.toList with
      | .tmp t :: _ => match Nat.beq s t with
        | true => true
        | false => appOps s r
      | _ => appOps s r
    | _ => appOps s r
def appC (s : Nat) : Code → Bool
  | .region _ os _ => appOps s os.toList
  | .seq a b => match appC s a with
    | true => true
    | false => appC s b
  | .cond _ a b => match appC s a with
    | true => true
    | false => appC s b
  | .block _ b => appC s b
  | .loop b => appC s b
  | _ => false
/-- the slots that are named just once (even bits); to be appended to (odd bits) -/
def onceM (c : Code) : Nat → Nat
  | 0 => 0
  | n + 1 => (match Nat.beq (cntC n c) 1, appC n c with
    | true, true => (1 <<< (2 * n)) ||| (1 <<< (2 * n + 1))
    | true, false => 1 <<< (2 * n)
    | _, _ => 0) ||| onceM c n
def sameOpd : Operand → Operand → Bool
  | .tmp a, .tmp b => Nat.beq a b
  | .const (.int .i64 a), .const (.int .i64 b) => decide (a = b)
  | _, _ => false
def zeroOpd : Operand → Bool
  | .const (.int .i64 a) => decide (a = 0)
  | _ => false
def nilK (P : Program) (x : Operand) (ty : Nat) (k : K) : K := match isNilS x, nilOf P ty with
  | true, some e => .nilsl e
  | _, _ => k
def takeK (P : Program) (ty : Nat) (x : Operand) : K := match isSlT P ty, x with
  | true, .tmp s => .take s
  | _, x => .move x
def moveK (P : Program) (once ty : Nat) (dst : Option Nat) (x : Operand) : K := match isSlT P ty, x, dst with
  | true, .tmp s, some d => match Nat.testBit once (2 * d + 1) with
    | true => .take s
    | false => .move (.tmp s)
  | _, x, _ => .move x
def loadK (P : Program) (once t : Nat) (dst : Option Nat) (g : Bool) (sz : Nat) (x : Operand) : K := match isSlT P t, dst with
  | true, some s => match Nat.testBit once (2 * s + 1) with
    | true => .loadT x
    | false => .load g sz x
  | _, _ => .load g sz x
def storeK (P : Program) (once t sz : Nat) (a x : Operand) : K := match isSlT P t, x with
  | true, .tmp s => match Nat.testBit once (2 * s), Nat.beq sz 1 with
    | true, true => .storeT a s
    | _, _ => .store sz a x
  | _, _ => .store sz a x
def cOp (P : Program) (inl : Nat → Bool) (once : Nat) (o : Oper) : K :=
  match o.op with
  | .move x => nilK P x o.type (moveK P once o.type o.dst x)
  | .assign x => nilK P x o.type (takeK P o.type x)
  | .pick c a b => .pick c a b
  | .alloc t => match zeroP P t with
    | some z => .alloc z
    | none => .stop
  | .box _ x => .box x
  | .build t parts => match zeroB (Nat.testBit once 40005) P t, fieldsT P t with
    | some z, some fs => match partsT fs parts.toList with
      | some l => .build z l
      | none => .stop
    | _, _ => .stop
  | .buildSlice t n parts => match P.underlying t with
    | some (.slice e) => match szT P e, zeroT P e, denseT 0 parts.toList with
      | some sz, some z, some l => match Nat.beq l.length n, Nat.ble (n * sz) 16777216, Nat.beq z.length sz, Nat.ble 1 sz with
        | true, true, true, true => .bslice e sz l
        | _, _, _, _ => .stop
      | _, _, _ => .stop
    | _ => .stop
  | .load t x => match P.underlying t, szT P t with
    | some _, some sz => match isAggT P t, Nat.beq sz 1 with
      | false, false => .stop
      | false, true => loadK P once t o.dst false sz x
      | true, _ => loadK P once t o.dst true sz x
    | _, _ => .stop
  | .store t a x => match o.dst, szT P t with
    | none, some sz => storeK P once t sz a x
    | _, _ => .stop
  | .fieldAddr t x f => match P.underlying t with
    | some (.struct fs) => match fs[f]? with
      | some fd => match szT P fd.type with
        | some (_ + 1) => .field fd.offset x
        | _ => .stop
      | none => .stop
    | _ => .stop
  | .indexAddr t x i => match P.underlying t with
    | some (.slice e) => match szT P e with
      | some sz => .index sz x i
      | none => .stop
    | _ => .stop
  | .extract x i => .extract x i
  | .nilCheck x => .nil x
  | .makeFunc (.func f) first caps => match callable P f with
    | true => .mkfn f first.size (first.toList ++ caps.toList)
    | false => .stop
  | .makeSlice t l c => match P.underlying t with
    | some (.slice e) => match P.info? e, szT P e, zeroP P e with
      | some i, some sz, some z => match Nat.beq z.length sz, Nat.ble 1 sz, sameOpd l c, zeroOpd l with
        | true, true, true, _ => .mksl e sz i.bytes z l
        | true, true, false, true => .mkcap e sz i.bytes c
        | _, _, _, _ => .stop
      | _, _, _ => .stop
    | _ => .stop
  | .slice t x lo hi mx => match P.underlying t with
    | some .string => match mx with
      | none => .sstr x lo hi
      | some _ => .stop
    | some (.slice e) => match szT P e, (match mx, hi with | some _, none => false | _, _ => true) with
      | some sz, true => .slc sz x lo hi mx
      | _, _ => .stop
    | _ => .stop
  | .makeMap t none => match P.underlying t with
    | some (.map ek ev) => match LX.nil ek, LX.nil ev with
      | some x, some y => .mkmap (isAggT P ek) (isAggT P ev) x y
      | _, _ => .stop
    | _ => .stop
  | .lookup t m q ok => match P.underlying t with
    | some (.map ek ev) => match keyPlan P ek, zeroP P ev with
      | some (gq, ts), some z => match zKind P ev (isAggT P ev) with
        | true => .lookup gq ts ok (isAggT P ev) z m q
        | false => .stop
      | _, _ => .stop
    | _ => .stop
  | .mapUpdate t m q v => match P.underlying t, o.dst with
    | some (.map ek ev), none => match keyPlan P ek with
      | some (gq, ts) => .mapup gq ts m q v
      | none => .stop
    | _, _ => .stop
  | .call { callee := .value (.func f), args, argTypes := _ } => match callable P f with
    | true => match inl f with
      | true => .icall f args.toList
      | false => .call f args.toList
    | false => .stop
  | .call { callee := .value (.tmp x), args, argTypes := _ } => .callv (.tmp x) args.toList
  | .call { callee := .builtin .len, args, argTypes } => match args.toList, argTypes.toList with
    | [x], [t] => match isSlT P t with
      | true => .len x
      | false => .scal o
    | _, _ => .stop
  | .call { callee := .builtin .cap, args, argTypes } => match args.toList, argTypes.toList with
    | [x], [t] => match isSlT P t with
      | true => .cap x
      | false => .stop
    | _, _ => .stop
  | .call { callee := .builtin .append, args, argTypes } => match args.toList, argTypes.toList with
    | [.tmp s, x], [t, t'] => match Nat.beq t t', P.underlying t with
      | true, some (.slice e) => match P.info? e with
        | some i => match i.zero with
          | some z => match Nat.beq z.cells.size i.size, Nat.ble 1 i.size with
            | true, true => match Nat.testBit once 40001 with
              | true => .clone (Nat.testBit once 40002) e i.size i.bytes s x
              | false => .app e i.size i.bytes s x
            | _, _ => .stop
          | none => .stop
        | none => .stop
      | _, _ => .stop
    | _, _ => .stop
  | .call { callee := .builtin .min, args := _, argTypes := _ } | .call { callee := .builtin .max, args := _, argTypes := _ } => .scal o
  | .binOp b t x y _ => match isAggT P t with
    | false => match b, P.underlying t with
      | .quo, some (.int _) => .bin2 0 x y
      | .rem, some (.int _) => .bin2 1 x y
      | .shl, some (.int _) => .bin2 2 x y
      | .shr, some (.int _) => .bin2 3 x y
      | .add, some .string => .bin2 4 x y
      | .eql, some (.slice _) => .bin2 6 x y
      | .neq, some (.slice _) => .bin2 7 x y
      | _, _ => .scal o
    | true => match b, eqPlan P t with
      | .eql, some ts => .eqA false ts x y
      | .neq, some ts => .eqA true ts x y
      | _, _ => .stop
  | .unOp .. | .convert .. => .scal o
  | .index t x i => match P.underlying t with
    | some .string => .bin2 5 x i
    | _ => .stop
  | _ => .stop
def cGuard (os : Array Oper) : Option (Nat × Bool) → Option (Option (Nat × Bool))
  | none => some none
  | some (j, w) => match (os[j]?).bind (·.dst) with
    | some s => some (some (s, w))
    | none => none
def cOps (P : Program) (inl : Nat → Bool) (once : Nat) (os : Array Oper) : List Oper → Option (List EOp)
  | [] => some []
  | o :: r => match cGuard os o.guard, cOps P inl once os r with
    | some g, some l => some (⟨o.dst, g, cOp P inl once o⟩ :: l)
    | _, _ => none
/-- which slots an operation reads and writes; does it touch variables? -/
def K.heapy : K → Bool
  | .alloc _ | .box _ | .load .. | .loadT .. | .store .. | .storeT .. | .call .. | .icall .. | .callv .. | .mksl .. | .clone .. | .mkmap .. | .lookup .. | .mapup .. | .del .. => true
  | _ => false
def K.isStore : K → Bool
  | .store .. | .storeT .. | .loadT .. | .icall .. | .callv .. | .mapup .. | .del .. => true
  | _ => false
/-- may it touch all variables? -/
def K.wild : K → Bool
  | .icall .. | .callv .. => true
  | _ => false
def K.makes : K → Bool
  | .alloc _ | .box _ | .mksl .. | .clone .. | .mkmap .. => true
  | _ => false
def tmpsOf : List Operand → List Nat
  | [] => []
  | .tmp t :: r => t :: tmpsOf r
  | _ :: r => tmpsOf r
def optL : Option Operand → List Operand
  | some x => [x]
  | none => []
def K.opds : K → List Operand
  | .move x | .box x | .load _ _ x | .loadT x | .field _ x | .len x | .cap x | .extract x _ | .nil x | .aidx _ _ _ x => [x]
  | .take s => [.tmp s]
  | .pick c a b => [c, a, b]
  | .alloc _ | .nilsl _ | .mkmap .. | .stop => []
  | .build _ ps => ps.map fun p => p.2.2
  | .bslice _ _ ps => ps
  | .store _ a x | .index _ a x | .eqA _ _ a x | .bin2 _ a x | .del a x | .lookup _ _ _ _ _ a x => [a, x]
  | .storeT a s => [a, .tmp s]
  | .mapup _ _ m q v => [m, q, v]
  | .scal o => o.op.operands.toList
  | .app _ _ _ s x | .clone _ _ _ _ s x => [.tmp s, x]
  | .call _ args | .icall _ args | .mkfn _ _ args => args
  | .callv x args => x :: args
  | .mksl _ _ _ _ n | .mkcap _ _ _ n => [n]
  | .slc _ x lo hi mx => x :: (optL lo ++ optL hi ++ optL mx)
  | .sstr x lo hi => x :: (optL lo ++ optL hi)
def EOp.reads (o : EOp) : List Nat := tmpsOf o.k.opds ++ (match o.g with | some (s, _) => [s] | none => [])
def EOp.writes (o : EOp) : List Nat := (match o.dst with | some d => [d] | none => []) ++ (match o.k with | .take s => [s] | .app _ _ _ s _ => [s] | .clone _ _ _ _ s _ => [s] | .storeT _ s => [s] | _ => [])
def meets (a b : List Nat) : Bool := a.any fun x => b.any fun y => Nat.beq x y
/-- the slot of the pointer that is read or written through -/
def K.addr : K → Option Nat
  | .load _ _ (.tmp a) => some a
  | .loadT (.tmp a) => some a
  | .store _ (.tmp a) _ => some a
  | .storeT (.tmp a) _ => some a
  | _ => none
def inPairs (a b : Nat) : List (Nat × Nat) → Bool
  | [] => false
  | (c, d) :: r => (Nat.beq a c && Nat.beq b d) || (Nat.beq a d && Nat.beq b c) || inPairs a b r
def freed (ap : List (Nat × Nat)) (x y : EOp) : Bool := match x.k.addr, y.k.addr with
  | some a, some b => inPairs a b ap
  | _, _ => false
def K.isLoad : K → Bool
  | .load .. => true
  | .call .. => true
  | _ => false
def K.isTake : K → Bool
  | .loadT _ => true
  | _ => false
/-- reading, and what reading does not see -/
def calm (fx : Bool) (x : K) (fy : Bool) (y : K) : Bool := ((x.isTake || fx) && y.isLoad) || (x.isLoad && (y.isTake || fy))
def clash (ap : List (Nat × Nat)) (fx : Bool) (x : EOp) (fy : Bool) (y : EOp) : Bool :=
  meets x.writes y.reads || meets x.writes y.writes || meets x.reads y.writes || (((x.k.isStore && y.k.heapy) || (x.k.heapy && y.k.isStore)) && !freed ap x y && !calm fx x.k fy y.k)
def unwritten (a : Nat) : List EOp → Bool
  | [] => true
  | e :: r => match notIn a e.writes with
    | true => unwritten a r
    | false => false
def addrsOf : List EOp → List Nat
  | [] => []
  | e :: r => match e.k.addr with
    | some a => a :: addrsOf r
    | none => addrsOf r
def pairsWith (l : List EOp) (a : Nat) : List Nat → List (Nat × Nat)
  | [] => []
  | b :: r => match Nat.beq a b, unwritten b l with
    | false, true => (a, b) :: pairsWith l a r
    | _, _ => pairsWith l a r
/-- what to ask for: the variables written differ from the others -/
def wantAp (l : List EOp) : List EOp → List (Nat × Nat)
  | [] => []
  | e :: r => match e.k.isStore, e.k.addr with
    | true, some a => match unwritten a l with
      | true => pairsWith l a (addrsOf l) ++ wantAp l r
      | false => wantAp l r
    | _, _ => wantAp l r
def apUnwritten (l : List EOp) : List (Nat × Nat) → Bool
  | [] => true
  | (a, b) :: r => unwritten a l && unwritten b l && apUnwritten l r
/-- edges that bind whatever the order -/
def edgesOf (o : Oper) : List Nat := (o.after.toList.filter fun e => Region.binds .any e).map (·.on)
def maskOf (acc : List Nat) : List Nat → Nat
  | [] => 0
  | e :: r => (1 <<< e) ||| (acc.getD e 0) ||| maskOf acc r
def ancs : List Oper → List Nat → List Nat
  | [], acc => acc
  | o :: r, acc => ancs r (acc ++ [maskOf acc (edgesOf o)])
def below (n : Nat) (p : Nat → Bool) : Bool := match n with
  | 0 => true
  | n + 1 => match p n with
    | true => below n p
    | false => false
/-- is this slot the address of a variable that is made by this operation? -/
def EOp.mkAt (a : Nat) (e : EOp) : Bool := match e.k, e.g, e.dst with
  | .alloc _, none, some d => Nat.beq d a
  | .box _, none, some d => Nat.beq d a
  | _, _, _ => false
def soleW (l : List EOp) (a k : Nat) : Bool := below l.length fun j => Nat.beq j k || (match l[j]? with | some e => notIn a e.writes | none => true)
/-- a store into a variable that was made just before -/
def freshOp (l : List EOp) (j : Nat) : Bool := match l[j]? with
  | some e => e.k.isStore && !e.k.isTake && (match e.k.addr with
    | some a => !(below j fun k => !(match l[k]? with | some e' => e'.mkAt a && soleW l a k | none => false))
    | none => false)
  | none => false
def pairOK (ap : List (Nat × Nat)) (l : List EOp) (A : List Nat) (i j : Nat) : Bool := match l[i]?, l[j]? with
  | some x, some y => match clash ap (freshOp l i) x (freshOp l j) y with
    | true => Nat.testBit (A.getD j 0) i
    | false => true
  | _, _ => true
def edgesBelow (j : Nat) : List Nat → Bool
  | [] => true
  | e :: r => match Nat.blt e j with
    | true => edgesBelow j r
    | false => false
def drawOK (ap : List (Nat × Nat)) (os : List Oper) (l : List EOp) : Bool :=
  apUnwritten l ap && below os.length fun j => below j (fun i => pairOK ap l (ancs os []) i j) && (match os[j]? with | some o => edgesBelow j (edgesOf o) | none => true)
def dstsOK (nt : Nat) : List EOp → Bool
  | [] => true
  | o :: r => match o.dst with
    | some d => match Nat.blt d nt with
      | true => dstsOK nt r
      | false => false
    | none => dstsOK nt r
/-- the variables of a body -/
def insN (d : Nat) (l : List Nat) : List Nat := match notIn d l with
  | true => l ++ [d]
  | false => l
def varsOps : List Oper → List Nat → List Nat
  | [], l => l
  | o :: r, l => varsOps r (match o.op, o.dst with
    | .assign _, some d => insN d l
    | .alloc _, some d => insN d l
    | .box _ _, some d => insN d l
    | _, _ => l)
def varsCode : Code → List Nat → List Nat
  | .region _ os _, l => varsOps os.toList l
  | .seq a b, l => varsCode b (varsCode a l)
  | .cond _ a b, l => varsCode b (varsCode a l)
  | .block _ b, l => varsCode b l
  | .loop b, l => varsCode b l
  | _, l => l
/-- slots that are moved to in two places: hidden variables -/
def movesOps : List Oper → List Nat
  | [] => []
  | o :: r => match o.op, o.dst with
    | .move _, some d => d :: movesOps r
    | _, _ => movesOps r
def movesCode : Code → List Nat
  | .region _ os _ => movesOps os.toList
  | .seq a b => movesCode a ++ movesCode b
  | .cond _ a b => movesCode a ++ movesCode b
  | .block _ b => movesCode b
  | .loop b => movesCode b
  | _ => []
def dupsOf : List Nat → List Nat
  | [] => []
  | d :: r => match notIn d r with
    | true => dupsOf r
    | false => d :: dupsOf r
/-- the variables that a region makes -/
def madeBy : List EOp → List Nat
  | [] => []
  | o :: r => match o.k.makes, o.dst with
    | true, some d => d :: madeBy r
    | _, _ => madeBy r
/-- the slots that code names, as bits -/
def maskT : List Nat → Nat
  | [] => 0
  | s :: r => (1 <<< s) ||| maskT r
def maskO : List Oper → Nat
  | [] => 0
  | o :: r => maskT (tmpsOf o.op.operands.toList) ||| (match o.dst with | some d => 1 <<< d | none => 0) ||| maskO r
def maskC : Code → Nat
  | .region _ os _ => maskO os.toList
  | .seq a b => maskC a ||| maskC b
  | .cond c a b => maskT (tmpsOf [c]) ||| maskC a ||| maskC b
  | .block _ b => maskC b
  | .loop b => maskC b
  | _ => 0
def maskR : List ResultVar → Nat
  | [] => 0
  | .tmp t :: r => (1 <<< t) ||| maskR r
  | .cell t _ :: r => (1 <<< t) ||| maskR r
def slotsR : List ResultVar → List Nat
  | [] => []
  | .tmp t :: r => t :: slotsR r
  | .cell t _ :: r => t :: slotsR r
/-- what must be known at a loop's head: variables, and what the body names, of what is named outside the body -/
def headKeys (nt : Nat) (V : List Nat) (out body : Nat) : List Nat :=
  (List.range nt).filter fun s => Nat.testBit out s && (Nat.testBit body s || !(notIn s V))
def simpleC : Code → Bool
  | .exit _ => true
  | .ret => true
  | .skip => true
  | _ => false
def liveS (nt m : Nat) : List Nat := (List.range nt).filter fun s => Nat.testBit m s
/-- the slots whose rows are handed on -/
def frzGo : List EOp → List Nat → List Nat
  | [], acc => acc
  | o :: r, acc => frzGo r (match o.k, o.dst with
    | .bslice _ _ ps, _ => tmpsOf ps ++ acc
    | .call _ args, _ => tmpsOf args ++ acc
    | .move (.tmp s), some d => match notIn d acc with
      | true => acc
      | false => s :: remK d acc
    | .take s, some d => match notIn d acc with
      | true => acc
      | false => s :: remK d acc
    | _, _ => acc)
def cCode (P : Program) (inl : Nat → Bool) (once nt : Nat) (V : List Nat) (out lt : Nat) : Code → EC
  | .skip => .skip
  | .region _ os d => match cOps P inl once os os.toList with
    | some l => match dstsOK nt l with
      | true => match d with
        | true => match drawOK [] os.toList l with
          | true => .region (madeBy l) [] l
          | false => match drawOK (wantAp l l) os.toList l with
            | true => .region (madeBy l) (wantAp l l) l
            | false => .stop
        | false => match Nat.testBit once 40003 with
          | true => .seq (.frz (frzGo l.reverse [])) (.regS l)
          | false => .regS l
      | false => .stop
    | none => .stop
  | .seq a b => .seq (cCode P inl once nt V (out ||| maskC b) (lt ||| maskC b) a) (match simpleC b with
    | true => cCode P inl once nt V (out ||| maskC a) lt b
    | false => .seq (.kp (liveS nt (lt ||| maskC b))) (cCode P inl once nt V (out ||| maskC a) lt b))
  | .cond c a b => .cond c (cCode P inl once nt V (out ||| maskC b ||| maskT (tmpsOf [c])) lt a) (cCode P inl once nt V (out ||| maskC a ||| maskT (tmpsOf [c])) lt b)
  | .block id b => .block id (cCode P inl once nt V out lt b)
  | .loop b => match Nat.testBit once 40004 with
    | true => .loopU (headKeys nt V out (maskC b)) (cCode P inl once nt (V ++ headKeys nt V out (maskC b)) out (lt ||| maskC b) b)
    | false => .loop (headKeys nt V out (maskC b)) (cCode P inl once nt (V ++ headKeys nt V out (maskC b)) out (lt ||| maskC b) b)
  | .exit id => .exit id
  | .ret => .ret
  | _ => .stop
/-- what is said of a function beside: its rows are cloned into variables, .. -/
def flagK (inl : Nat → Bool) (fn : Func) (j b : Nat) : Nat := match inl (1099511627776 + ((match fn.params.toList with | t :: _ => t | [] => 0) * 16777216 + fn.endLine * 4096 + fn.ntmps) * 8 + j) with
  | true => 1 <<< b
  | false => 0
/-- this function, compiled -/
def cFn (P : Program) (inl : Nat → Bool) (fn : Func) : Option EC := match fn.body with
  | some c => some (cCode P inl (onceM c fn.ntmps ||| flagK inl fn 0 40001 ||| flagK inl fn 1 40003 ||| flagK inl fn 2 40002 ||| flagK inl fn 3 40004 ||| flagK inl fn 4 40005) fn.ntmps (varsCode c (List.range fn.params.size ++ slotsR fn.results.toList ++ dupsOf (movesCode c))) (maskT (List.range fn.params.size) ||| maskR fn.results.toList) (maskR fn.results.toList) c)
  | none => none
/-- a result: no pointer into this frame -/
def rowsOf (sz : Nat) : Nat → List PV → List (List PV)
  | 0, _ => []
  | n + 1, l => l.take sz :: rowsOf sz n (l.drop sz)
def PV.finN (O : Nat → List PV) : Nat → PV → PV
  | 0, p => p.pure0
  | m + 1, p => match p with
  | .vw c d e sz n => match c, O d with
    | false, [.arrO x] => match Nat.beq sz x.sz with
      | true => .lst false x
      | false => .any
    | true, cs => match LX.lit e (rowsOf sz n (cs.map (PV.finN O m))), lenIs cs (n * sz) && plain cs with
      | some x, true => match Nat.beq sz x.sz with
        | true => .lst false x
        | false => .any
      | _, _ => .any
    | _, _ => .any
  | p => p.pure0
def PV.fin1 (O : Nat → List PV) (p : PV) : PV := PV.finN O 3 p
def PV.fin (O : Nat → List PV) : PV → PV
  | .agg l => .agg (l.map (PV.fin1 O))
  | .tup l => .tup (l.map (PV.fin1 O))
  | .sl _ e sz es => .sl false e sz (es.map fun r => r.map PV.pure0)
  | p => p.fin1 O
def evRes (P : Program) (st : St) : List ResultVar → (List PV → Prop) → Prop
  | [], k => k []
  | .tmp t :: r, k => evRes P st r fun l => k (st.get t :: l)
  | .cell a t :: r, k => match st.get a, szT P t, P.underlying t with
    | .loc b off, some sz, some _ => match isAggT P t, Nat.beq sz 1, lenGe ((st.obj b).drop off) sz && plain (((st.obj b).drop off).take sz) with
      | true, _, true => evRes P st r fun l => k (.agg (((st.obj b).drop off).take sz) :: l)
      | false, true, true => evRes P st r fun l => k (mkP false (((st.obj b).drop off).take sz) :: l)
      | _, _, _ => False
    | _, _, _ => False
def frArgs (i : Nat) : List PV → List (Nat × PV)
  | [] => []
  | p :: r => (i, p.view) :: frArgs (i + 1) r
def finish (O : Nat → List PV) (k : PV → Prop) : List PV → Prop
  | [r] => k (r.fin O)
  | l => k (.tup (l.map (PV.fin O)))
def kEnd (P : Program) (rs : List ResultVar) (k : PV → Prop) : Ex → St → Prop := fun e st => match e with
  | .exit _ => False
  | .normal => evRes P st rs (finish st.obj k)
  | .ret => evRes P st rs (finish st.obj k)
def finishI (ob : List (Nat × List PV)) (k : PV → List (Nat × List PV) → Prop) : List PV → Prop
  | [r] => k r ob
  | l => k (.tup (l.map PV.view)) ob
def kEndI (P : Program) (rs : List ResultVar) (k : PV → List (Nat × List PV) → Prop) : Ex → St → Prop := fun e st => match e with
  | .exit _ => False
  | .normal => evRes P st rs (finishI (normO st.ob) k)
  | .ret => evRes P st rs (finishI (normO st.ob) k)
def nextId : List (Nat × List PV) → Nat
  | [] => 0
  | (d, _) :: r => match Nat.ble (nextId r) d with
    | true => d + 1
    | false => nextId r
/-- slices.Grow of the nil slice: an empty row of our own -/
def growK (e b : Nat) (args : List PV) (k : PV → List (Nat × List PV) → Prop) : Prop := match args, LX.nil e with
  | [.val (.slice none 0 0), .val (.int .i64 m)], some x => gd (0 ≤ m) (gd (m * (b : Int) ≤ 140737488355328) (gd (m ≤ (4611686018427387904 : Int)) (k (.lst true x) [])))
  | _, _ => False
/-- a call that is carried out in place: one step -/
def evB (P : Program) (inl : Nat → Bool) (G : Nat → Option (Nat × Nat)) (C : Oracle) (L : Nat) (X : Inl) : Inl := fun f args ob k => match G f with
   | some (e, b) => growK e b args k
   | none => match inl f with
    | true => match P.funcs[f]? with
      | some fn => match cFn P inl fn, Nat.ble args.length fn.ntmps, callable P f with
        | some ec, true, true => evC P C X L ec { fr := frArgs 0 args, ob := ob, base := nextId ob } (kEndI P fn.results.toList k)
        | _, _, _ => False
      | none => False
    | false => match callable P f with
      | true => C f (args.map (snap (look [] ob))) fun r => k r.view []
      | false => False
def evI0 (P : Program) (inl : Nat → Bool) (G : Nat → Option (Nat × Nat)) (C : Oracle) (L : Nat) : Nat → Inl
  | 0, _, _, _, _ => False
  | n + 1, f, args, ob, k => evB P inl G C L (evI0 P inl G C L n) f args ob k
/-- ... that is not looked into -/
noncomputable def YoS (P : Program) (inl : Nat → Bool) (G : Nat → Option (Nat × Nat)) (C : Oracle) (L : Nat) : { Y : Nat → Inl // Y = evI0 P inl G C L } := Classical.choice ⟨⟨evI0 P inl G C L, rfl⟩⟩
noncomputable def Yo (P : Program) (inl : Nat → Bool) (G : Nat → Option (Nat × Nat)) (C : Oracle) (L : Nat) : Nat → Inl := (YoS P inl G C L).1
/-- ... the functions 'J' are not looked into -/
noncomputable def evI (P : Program) (inl : Nat → Bool) (G : Nat → Option (Nat × Nat)) (J : Nat → Bool) (C : Oracle) (L : Nat) : Nat → Inl
  | 0, _, _, _, _ => False
  | n + 1, f, args, ob, k => match J f with
    | true => Yo P inl G C L (n + 1) f args ob k
    | false => evB P inl G C L (evI P inl G J C L n) f args ob k
theorem Yo_eq (P : Program) (inl : Nat → Bool) (G : Nat → Option (Nat × Nat)) (C : Oracle) (L : Nat) : Yo P inl G C L = evI0 P inl G C L := (YoS P inl G C L).2
theorem evI_eq (P : Program) (inl : Nat → Bool) (G : Nat → Option (Nat × Nat)) (J : Nat → Bool) (C : Oracle) (L : Nat) : ∀ n, evI P inl G J C L n = evI0 P inl G C L n
  | 0 => rfl
  | n + 1 => by
    funext f args ob k
    simp only [evI, evI0, Yo_eq, evI_eq P inl G J C L n]
    cases J f <;> rfl
theorem Yo_step (P : Program) (inl : Nat → Bool) (G : Nat → Option (Nat × Nat)) (J : Nat → Bool) (C : Oracle) (L n f : Nat) (args : List PV) (ob : List (Nat × List PV)) (k : PV → List (Nat × List PV) → Prop) :
    Yo P inl G C L (n + 1) f args ob k = evB P inl G C L (evI P inl G J C L n) f args ob k := by
  rw [Yo_eq, evI_eq]; rfl
/-- a function's body, its arguments given -/
def evFn (P : Program) (C : Oracle) (X : Inl) (L : Nat) (rs : List ResultVar) (ec : EC) (args : List PV) (k : PV → Prop) : Prop :=
  evC P C X L ec { fr := frArgs 0 args, ob := [], base := 0 } (kEnd P rs k)
end Go.Proofs.YtonfmpiikdmndaaGreat.Ev
