/-  An evaluator of translated code on data without memory: definitions. (One slot's datum: 'PV'. One operation: 'stepD'. Code: 'evC'.) -/
import Derived.Test.YtflfeikkcpcdiaaRows
import Derived.WalkKit
import Derived.LoopN
import Derived.Great.BuildSlice
import Derived.Deep.Draws
namespace Go.Proofs.Ytflfeikkcpcdiaa.Ev
open Go
set_option linter.unusedVariables false
set_option linter.unusedSimpArgs false
set_option linter.unnecessarySimpa false

/-- What a slot holds. -/
inductive PV where
  | any
  | val (v : Value)
  | agg (l : List PV)
  | tup (l : List PV)
  | sl (own : Bool) (e sz : Nat) (es : List (List PV))
  | arr (e sz n : Nat) (f : Nat → List PV)
  | ref (l : List PV)
  | loc (d off : Nat)
  deriving Inhabited

structure St where
  fr : List (Nat × PV)
  ob : List (Nat × List PV)

structure Delta where
  s : List (Nat × PV)
  o : List (Nat × List PV)

def St.app (st : St) (δ : Delta) : St := { fr := δ.s ++ st.fr, ob := δ.o ++ st.ob }

def look {α : Type} (d : α) : List (Nat × α) → Nat → α
  | [], _ => d
  | (a, x) :: r, s => match Nat.beq a s with
    | true => x
    | false => look d r s

def St.get (st : St) (s : Nat) : PV := look .any st.fr s
def St.put (st : St) (s : Nat) (p : PV) : St := { st with fr := (s, p) :: st.fr }
def St.obj (st : St) (d : Nat) : List PV := look [] st.ob d

def oneV : Value → Bool
  | .agg _ | .tuple _ => false
  | _ => true

def St.opd (st : St) : Operand → PV
  | .tmp t => st.get t
  | .const v => match oneV v with
    | true => .val v
    | false => .any
  | _ => .any

def PV.view : PV → PV
  | .sl _ e sz es => .sl false e sz es
  | p => p

def PV.cells : PV → List PV
  | .agg l => l
  | p => [p]

/-- is it surely one cell of memory, and no pointer into this frame? -/
def PV.one : PV → Bool
  | .val v => oneV v
  | .sl _ _ _ _ => true
  | .arr _ _ _ _ => true
  | _ => false

def ones : List PV → Bool
  | [] => true
  | p :: r => match p.one with
    | true => ones r
    | false => false

def notIn (d : Nat) : List Nat → Bool
  | [] => true
  | a :: r => match Nat.beq a d with
    | true => false
    | false => notIn d r

/-- operations, resolved -/
inductive K where
  | move (x : Operand)
  | take (x : Nat)
  | pick (c a b : Operand)
  | alloc (zero : List Value)
  | box (x : Operand)
  | build (zero : List Value) (parts : List (Nat × Nat × Operand))
  | bslice (e sz : Nat) (parts : List Operand)
  | load (agg : Bool) (sz : Nat) (x : Operand)
  | store (sz : Nat) (a x : Operand)
  | scal (o : Oper)
  | eqA (neg : Bool) (ts : List (Nat × Nat)) (x y : Operand)
  | bin2 (tag : Nat) (x y : Operand)
  | field (off : Nat) (x : Operand)
  | index (sz : Nat) (x i : Operand)
  | len (x : Operand)
  | app (e sz by_ : Nat) (s : Nat) (x : Operand)
  | call (f : Nat) (args : List Operand)
  | extract (x : Operand) (i : Nat)
  | nil (x : Operand)

structure EOp where
  dst : Option Nat
  g : Option (Nat × Bool)
  k : K

inductive EC where
  | skip
  | region (ban : List Nat) (ap : List (Nat × Nat)) (ops : List EOp)
  | seq (a b : EC)
  | cond (c : Operand) (a b : EC)
  | block (id : Nat) (b : EC)
  | loop (keys dead : List Nat) (b : EC)
  | exit (id : Nat)
  | ret

inductive Ex where
  | normal | exit (id : Nat) | ret

/-- a computation that touches no memory -/
def pureRun {α : Type} (P : Program) : Sem α → (α → Prop) → Prop
  | .pure a, k => k a
  | .program f, k => pureRun P (f P) k
  | _, _ => False

abbrev Oracle := Nat → List PV → (PV → Prop) → Prop

def br (t : Bool) (A B : Prop) : Prop := match t with
  | true => A
  | false => B

theorem br_intro {t : Bool} {A B : Prop} (h1 : t = true → A) (h2 : t = false → B) : br t A B := by
  cases t
  · exact h2 rfl
  · exact h1 rfl

def getN (l : List PV) (off : Nat) : PV := match l, off with
  | [], _ => .any
  | p :: _, 0 => p
  | _ :: r, n + 1 => getN r n

def setN (l : List PV) (off : Nat) (new : List PV) : List PV := match l, off, new with
  | [], _, _ => []
  | l, _, [] => l
  | _ :: r, 0, q :: new => q :: setN r 0 new
  | p :: r, n + 1, new => p :: setN r n new

def lenIs (l : List PV) (n : Nat) : Bool := match l, n with
  | [], 0 => true
  | _ :: r, n + 1 => lenIs r n
  | _, _ => false
def lenGe (l : List PV) (n : Nat) : Bool := match l, n with
  | _, 0 => true
  | _ :: r, n + 1 => lenGe r n
  | _, _ => false

def mkP (agg : Bool) (l : List PV) : PV := match agg, l with
  | true, l => .agg l
  | false, [p] => p.view
  | false, _ => .any

def dput (d : Option Nat) (p : PV) : Delta := match d with
  | some s => ⟨[(s, p)], []⟩
  | none => ⟨[], []⟩

/-- a pointer into this frame, as it is handed to a callee: what it points to -/
def snap (st : St) : PV → PV
  | .loc d off => .ref ((st.obj d).drop off)
  | p => p.view

/-- are the variables that are handed to a callee none of 'ban'? -/
def locsOk (st : St) (ban : List Nat) : List Operand → Bool
  | [] => true
  | x :: r => match ban, st.opd x with
    | [], _ => true
    | ban, .loc b _ => match notIn b ban with
      | true => locsOk st ban r
      | false => false
    | ban, _ => locsOk st ban r

def fillN (st : St) (cells : List PV) : List (Nat × Nat × Operand) → (List PV → Prop) → Prop
  | [], k => k cells
  | (off, sz, x) :: r, k => match lenIs (st.opd x).cells sz, ones (st.opd x).cells, lenGe cells (off + sz) with
    | true, true, true => fillN st (setN cells off (st.opd x).cells) r k
    | _, _, _ => False

def elems (st : St) (sz : Nat) : List Operand → (List (List PV) → Prop) → Prop
  | [], k => k []
  | x :: r, k => match lenIs (st.opd x).cells sz, ones (st.opd x).cells with
    | true, true => elems st sz r fun l => k ((st.opd x).cells :: l)
    | _, _ => False

def allVal (st : St) : List Operand → Bool
  | [] => true
  | x :: r => match st.opd x with
    | .val _ => allVal st r
    | _ => false

def St.valOf (st : St) (x : Operand) : Value := match st.opd x with
  | .val v => v
  | _ => undef

def scalK (P : Program) (st : St) (o : Oper) (d : Option Nat) (k : Delta → Prop) : Prop :=
  match allVal st o.op.operands.toList with
  | true => pureRun P (execOp st.valOf o) fun n => match n with
    | .value v => match oneV v with
      | true => k (dput d (.val v))
      | false => False
    | _ => False
  | false => False

/-- are two rows of cells alike? ('ts': what stands at which place: 0 a bool, 1 an integer, 2 a string) -/
def eqAt : List (Nat × Nat) → List PV → List PV → Option Bool
  | [], _, _ => some true
  | (tag, o) :: r, xs, ys => match eqAt r xs ys with
    | none => none
    | some t => match tag, getN xs o, getN ys o with
      | 0, .val (.bool a), .val (.bool b) => some ((a == b) && t)
      | 1, .val (.int k a), .val (.int k' b) => match decide (k = k') with
        | true => some ((a == b) && t)
        | false => none
      | 2, .val (.string a), .val (.string b) => some ((a == b) && t)
      | _, _, _ => none

def optByte : Option UInt8 → Int
  | some b => (b.toNat : Int)
  | none => 0

/-- operations that may end the call: when they do not, and what they give -/
def bin2 (tag : Nat) (x y : Value) : Option (Bool × Value) := match tag, x, y with
  | 0, .int k a, .int k' b => match decide (k = k') with
    | true => some (!decide (b = 0), .int k (k.wrap (a.tdiv b)))
    | false => none
  | 1, .int k a, .int k' b => match decide (k = k') with
    | true => some (!decide (b = 0), .int k (a.tmod b))
    | false => none
  | 2, .int k a, .int _ b => some (!decide (b < 0), .int k (k.wrap (a * 2 ^ (min b.toNat k.bits))))
  | 3, .int k a, .int _ b => some (!decide (b < 0), .int k (a.fdiv (2 ^ (min b.toNat k.bits))))
  | 4, .string a, .string b => some (!decide (((a.size + b.size : Nat) : Int) > IntKind.i64.max), .string (a ++ b))
  | 5, .string s, .int _ n => some ((if 0 ≤ n then s[n.toNat]? else none).isSome, .int .u8 (optByte (if 0 ≤ n then s[n.toNat]? else none)))
  | _, _, _ => none

/-- one operation: what it changes -/
def stepD (P : Program) (C : Oracle) (ban : List Nat) (o : K) (d : Option Nat) (st : St) (k : Delta → Prop) : Prop :=
  match o with
  | .move x => k (dput d (st.opd x).view)
  | .take s => match d with
    | some d => k ⟨[(d, st.get s), (s, (st.get s).view)], []⟩
    | none => False
  | .pick c a b => match st.opd c with
    | .val (.bool t) => br t (k (dput d (st.opd a).view)) (k (dput d (st.opd b).view))
    | _ => False
  | .alloc z => match d with
    | some s => match notIn s (st.ob.map Prod.fst), ones (z.map .val) with
      | true, true => k ⟨[(s, .loc s 0)], [(s, z.map .val)]⟩
      | _, _ => False
    | none => False
  | .box x => match d with
    | some s => match notIn s (st.ob.map Prod.fst), ones (st.opd x).cells with
      | true, true => k ⟨[(s, .loc s 0)], [(s, (st.opd x).cells)]⟩
      | _, _ => False
    | none => False
  | .build z parts => match ones (z.map .val) with
    | true => fillN st (z.map .val) parts fun l => k (dput d (.agg l))
    | false => False
  | .bslice e sz parts => elems st sz parts fun l => k (dput d (.sl true e sz l))
  | .load agg sz x => match st.opd x with
    | .loc b off => match notIn b ban, lenGe ((st.obj b).drop off) sz with
      | true, true => k (dput d (mkP agg (((st.obj b).drop off).take sz)))
      | _, _ => False
    | .ref l => match lenGe l sz with
      | true => k (dput d (mkP agg (l.take sz)))
      | false => False
    | _ => False
  | .store sz a x => match st.opd a with
    | .loc b off => match lenIs (st.opd x).cells sz, ones (st.opd x).cells, lenGe (st.obj b) (off + sz) with
      | true, true, true => k ⟨[], [(b, setN (st.obj b) off (st.opd x).cells)]⟩
      | _, _, _ => False
    | _ => False
  | .scal o => scalK P st o d k
  | .bin2 tag x y => match st.opd x, st.opd y with
    | .val u, .val v => match bin2 tag u v with
      | some (c, r) => br c (k (dput d (.val r))) False
      | none => False
    | _, _ => False
  | .eqA neg ts x y => match st.opd x, st.opd y with
    | .agg xs, .agg ys => match eqAt ts xs ys with
      | some t => match neg with
        | true => k (dput d (.val (.bool (!t))))
        | false => k (dput d (.val (.bool t)))
      | none => False
    | _, _ => False
  | .field off x => match st.opd x with
    | .loc b o => k (dput d (.loc b (o + off)))
    | .ref l => k (dput d (.ref (l.drop off)))
    | _ => False
  | .index sz x i => match st.opd x, st.opd i with
    | .sl _ _ sz' es, .val (.int _ n) => match Nat.beq sz sz' with
      | true => 0 ≤ n ∧ ∃ c, es[n.toNat]? = some c ∧ k (dput d (.ref c))
      | false => False
    | .arr _ sz' m f, .val (.int _ n) => match Nat.beq sz sz' with
      | true => 0 ≤ n ∧ n < (m : Int) ∧ k (dput d (.ref (f n.toNat)))
      | false => False
    | _, _ => False
  | .len x => match st.opd x with
    | .sl _ _ _ es => k (dput d (.val (.int .i64 es.length)))
    | .arr _ _ m _ => k (dput d (.val (.int .i64 m)))
    | .val (.slice _ n _) => k (dput d (.val (.int .i64 n)))
    | _ => False
  | .app e sz by_ s x => match d with
    | some d => match st.get s, st.opd x with
      | .sl true e' sz' es, .sl _ _ sz'' ys => match Nat.beq e e', Nat.beq sz sz', Nat.beq sz sz'' with
        | true, true, true => (es.length + ys.length) * by_ ≤ 140737488355328 ∧ es.length + ys.length ≤ maxLen ∧ k ⟨[(d, .sl true e sz (es ++ ys)), (s, .sl false e sz es)], []⟩
        | _, _, _ => False
      | .val (.slice none 0 0), .sl _ _ sz'' ys => match Nat.beq sz sz'' with
        | true => (0 + ys.length) * by_ ≤ 140737488355328 ∧ 0 + ys.length ≤ maxLen ∧ k ⟨[(d, .sl true e sz ys)], []⟩
        | false => False
      | _, _ => False
    | none => False
  | .call f args => match locsOk st ban args with
    | true => C f (args.map fun x => snap st (st.opd x)) fun r => k (dput d r.view)
    | false => False
  | .extract x i => match st.opd x with
    | .tup l => match lenGe l (i + 1) with
      | true => k (dput d (getN l i).view)
      | false => False
    | _ => False
  | .nil x => match st.opd x with
    | .loc b off => k (dput d (.loc b off))
    | .ref l => k (dput d (.ref l))
    | _ => False

def evOps (P : Program) (C : Oracle) (ban : List Nat) : List EOp → St → (St → Prop) → Prop
  | [], st, k => k st
  | o :: r, st, k => match o.g with
    | none => stepD P C ban o.k o.dst st fun δ => evOps P C ban r (st.app δ) k
    | some (s, want) => match st.get s with
      | .val (.bool t) =>
        br t
        (match want with
          | true => stepD P C ban o.k o.dst (st.put s (.val (.bool true))) fun δ => evOps P C ban r ((st.put s (.val (.bool true))).app δ) k
          | false => evOps P C ban r ((st.put s (.val (.bool true))).app (dput o.dst (.tup []))) k)
        (match want with
          | false => stepD P C ban o.k o.dst (st.put s (.val (.bool false))) fun δ => evOps P C ban r ((st.put s (.val (.bool false))).app δ) k
          | true => evOps P C ban r ((st.put s (.val (.bool false))).app (dput o.dst (.tup []))) k)
      | .tup [] => evOps P C ban r (st.app (dput o.dst (.tup []))) k
      | _ => False

def PV.clean (dead : List Nat) : PV → PV
  | .loc d off => match notIn d dead with
    | true => .loc d off
    | false => .any
  | p => p

/-- in order, each once -/
def insO (d : Nat) (l : List PV) : List (Nat × List PV) → List (Nat × List PV)
  | [] => [(d, l)]
  | (b, m) :: r => match Nat.blt d b, Nat.beq d b with
    | true, _ => (d, l) :: (b, m) :: r
    | false, true => (d, l) :: r
    | false, false => (b, m) :: insO d l r

def keepO (dead : List Nat) : List (Nat × List PV) → List (Nat × List PV)
  | [] => []
  | (d, l) :: r => match notIn d dead with
    | true => insO d l (keepO dead r)
    | false => keepO dead r

/-- at a loop's head: only the slots 'keys' are known, the variables 'dead' are gone -/
def keep (keys dead : List Nat) (st : St) : St := { fr := keys.map fun s => (s, (st.get s).clean dead), ob := keepO dead st.ob }

def kRound (f : St → (Ex → St → Prop) → Prop) (keys dead : List Nat) (k : Ex → St → Prop) : Ex → St → Prop := fun e st' => match e with
  | .normal => f (keep keys dead st') k
  | .exit i => k (.exit i) (keep keys dead st')
  | .ret => k .ret (keep keys dead st')

def loopN (body : St → (Ex → St → Prop) → Prop) (keys dead : List Nat) : Nat → St → (Ex → St → Prop) → Prop
  | 0, _, _ => False
  | n + 1, st, k => body st (kRound (loopN body keys dead n) keys dead k)

/-- do these pairs of slots hold pointers to different variables? -/
def apartOK (st : St) : List (Nat × Nat) → Bool
  | [] => true
  | (a, b) :: r => match st.get a, st.get b with
    | .loc d _, .loc d' _ => match Nat.beq d d' with
      | true => false
      | false => apartOK st r
    | _, _ => false

def kSeq (f : St → (Ex → St → Prop) → Prop) (k : Ex → St → Prop) : Ex → St → Prop := fun e st' => match e with
  | .normal => f st' k
  | .exit i => k (.exit i) st'
  | .ret => k .ret st'
def kBlock (id : Nat) (k : Ex → St → Prop) : Ex → St → Prop := fun e st' => match e with
  | .exit i => match Nat.beq i id with
    | true => k .normal st'
    | false => k (.exit i) st'
  | .normal => k .normal st'
  | .ret => k .ret st'
def evC (P : Program) (C : Oracle) (L : Nat) : EC → St → (Ex → St → Prop) → Prop
  | .skip, st, k => k .normal st
  | .region ban ap l, st, k => match apartOK st ap with
    | true => evOps P C ban l st fun st' => k .normal st'
    | false => False
  | .seq a b, st, k => evC P C L a st (kSeq (evC P C L b) k)
  | .cond c a b, st, k => match st.opd c with
    | .val (.bool t) => br t (evC P C L a st k) (evC P C L b st k)
    | _ => False
  | .block id b, st, k => evC P C L b st (kBlock id k)
  | .loop keys dead b, st, k => loopN (evC P C L b) keys dead L (keep keys dead st) k
  | .exit id, st, k => k (.exit id) st
  | .ret, st, k => k .ret st

/-! ### the translation of code into operations that are resolved -/

def isAggT (P : Program) (t : Nat) : Bool := match P.underlying t with
  | some (.struct _) | some (.array _ _) => true
  | _ => false

def isSlT (P : Program) (t : Nat) : Bool := match P.underlying t with
  | some (.slice _) => true
  | _ => false

def szT (P : Program) (t : Nat) : Option Nat := (P.info? t).map (·.size)
def zeroT (P : Program) (t : Nat) : Option (List Value) := ((P.info? t).bind (·.zero)).map fun v => v.cells.toList
def fieldsT (P : Program) (t : Nat) : Option (List (Nat × Nat)) := match P.underlying t with
  | some (.struct fs) => fs.toList.mapM fun f => (P.info? f.type).map fun i => (f.offset, i.size)
  | _ => none

def partsT (fs : List (Nat × Nat)) : List (Nat × Operand) → Option (List (Nat × Nat × Operand))
  | [] => some []
  | (i, x) :: r => match fs[i]?, partsT fs r with
    | some (off, sz), some l => some ((off, sz, x) :: l)
    | _, _ => none

def denseT (i : Nat) : List (Nat × Operand) → Option (List Operand)
  | [] => some []
  | (j, x) :: r => match Nat.beq i j, denseT (i + 1) r with
    | true, some l => some (x :: l)
    | _, _ => none

def tagT (P : Program) (t : Nat) : Option Nat := match P.underlying t with
  | some .bool => some 0
  | some (.int _) => some 1
  | some .string => some 2
  | _ => none
def eqTags (P : Program) : List Field → Option (List (Nat × Nat))
  | [] => some []
  | f :: r => match f.name == "_", tagT P f.type, eqTags P r with
    | false, some tag, some l => some ((tag, f.offset) :: l)
    | _, _, _ => none
def eqPlan (P : Program) (t : Nat) : Option (List (Nat × Nat)) := match P.underlying t with
  | some (.struct fs) => match P.stoodInHeld t, P.eqGuardType P.depth t with
    | false, false => eqTags P fs.toList
    | _, _ => none
  | _ => none

/-- may this function be called by its number? -/
def callable (P : Program) (f : Nat) : Bool := match P.funcs[f]? with
  | some fn => !(fn.name == "runtime.NumGoroutine") && fn.body.isSome
  | none => false

def cOp (P : Program) (o : Oper) : Option K :=
  match o.op with
  | .move x => some (.move x)
  | .assign x => match isSlT P o.type, x with
    | true, .tmp s => some (.take s)
    | _, x => some (.move x)
  | .pick c a b => some (.pick c a b)
  | .alloc t => (zeroT P t).map .alloc
  | .box _ x => some (.box x)
  | .build t parts => match zeroT P t, fieldsT P t with
    | some z, some fs => (partsT fs parts.toList).map (.build z)
    | _, _ => none
  | .buildSlice t n parts => match P.underlying t with
    | some (.slice e) => match szT P e, zeroT P e, denseT 0 parts.toList with
      | some sz, some z, some l => match Nat.beq l.length n, Nat.ble (n * sz) 16777216, Nat.beq z.length sz, Nat.ble 1 sz with
        | true, true, true, true => some (.bslice e sz l)
        | _, _, _, _ => none
      | _, _, _ => none
    | _ => none
  | .load t x => match P.underlying t, szT P t with
    | some _, some sz => match isAggT P t, Nat.beq sz 1 with
      | false, false => none
      | g, _ => some (.load g sz x)
    | _, _ => none
  | .store t a x => match o.dst, szT P t with
    | none, some sz => some (.store sz a x)
    | _, _ => none
  | .fieldAddr t x f => match P.underlying t with
    | some (.struct fs) => match fs[f]? with
      | some fd => match szT P fd.type with
        | some (_ + 1) => some (.field fd.offset x)
        | _ => none
      | none => none
    | _ => none
  | .indexAddr t x i => match P.underlying t with
    | some (.slice e) => (szT P e).map fun sz => .index sz x i
    | _ => none
  | .extract x i => some (.extract x i)
  | .nilCheck x => some (.nil x)
  | .call { callee := .value (.func f), args, argTypes := _ } => match callable P f with
    | true => some (.call f args.toList)
    | false => none
  | .call { callee := .builtin .len, args, argTypes } => match args.toList, argTypes.toList with
    | [x], [t] => match isSlT P t with
      | true => some (.len x)
      | false => some (.scal o)
    | _, _ => none
  | .call { callee := .builtin .append, args, argTypes } => match args.toList, argTypes.toList with
    | [.tmp s, x], [t, t'] => match Nat.beq t t', P.underlying t with
      | true, some (.slice e) => match P.info? e with
        | some i => match i.zero with
          | some z => match Nat.beq z.cells.size i.size, Nat.ble 1 i.size with
            | true, true => some (.app e i.size i.bytes s x)
            | _, _ => none
          | none => none
        | none => none
      | _, _ => none
    | _, _ => none
  | .call { callee := .builtin .min, args := _, argTypes := _ } | .call { callee := .builtin .max, args := _, argTypes := _ } => some (.scal o)
  | .binOp b t x y _ => match isAggT P t with
    | false => match b, P.underlying t with
      | .quo, some (.int _) => some (.bin2 0 x y)
      | .rem, some (.int _) => some (.bin2 1 x y)
      | .shl, some (.int _) => some (.bin2 2 x y)
      | .shr, some (.int _) => some (.bin2 3 x y)
      | .add, some .string => some (.bin2 4 x y)
      | _, _ => some (.scal o)
    | true => match b, eqPlan P t with
      | .eql, some ts => some (.eqA false ts x y)
      | .neq, some ts => some (.eqA true ts x y)
      | _, _ => none
  | .unOp .. | .convert .. => some (.scal o)
  | .index t x i => match P.underlying t with
    | some .string => some (.bin2 5 x i)
    | _ => none
  | _ => none

def cGuard (os : Array Oper) : Option (Nat × Bool) → Option (Option (Nat × Bool))
  | none => some none
  | some (j, w) => match (os[j]?).bind (·.dst) with
    | some s => some (some (s, w))
    | none => none

def cOps (P : Program) (os : Array Oper) : List Oper → Option (List EOp)
  | [] => some []
  | o :: r => match cOp P o, cGuard os o.guard, cOps P os r with
    | some k, some g, some l => some (⟨o.dst, g, k⟩ :: l)
    | _, _, _ => none

/-- which slots an operation reads and writes; does it touch variables? -/
def K.heapy : K → Bool
  | .alloc _ | .box _ | .load .. | .store .. | .call .. => true
  | _ => false
def K.isStore : K → Bool
  | .store .. => true
  | _ => false
def K.makes : K → Bool
  | .alloc _ | .box _ => true
  | _ => false
def tmpsOf : List Operand → List Nat
  | [] => []
  | .tmp t :: r => t :: tmpsOf r
  | _ :: r => tmpsOf r
def K.opds : K → List Operand
  | .move x | .box x | .load _ _ x | .field _ x | .len x | .extract x _ | .nil x => [x]
  | .take s => [.tmp s]
  | .pick c a b => [c, a, b]
  | .alloc _ => []
  | .build _ ps => ps.map fun p => p.2.2
  | .bslice _ _ ps => ps
  | .store _ a x | .index _ a x | .eqA _ _ a x | .bin2 _ a x => [a, x]
  | .scal o => o.op.operands.toList
  | .app _ _ _ s x => [.tmp s, x]
  | .call _ args => args
def EOp.reads (o : EOp) : List Nat := tmpsOf o.k.opds ++ (match o.g with | some (s, _) => [s] | none => [])
def EOp.writes (o : EOp) : List Nat := (match o.dst with | some d => [d] | none => []) ++ (match o.k with | .take s => [s] | .app _ _ _ s _ => [s] | _ => [])
def meets (a b : List Nat) : Bool := a.any fun x => b.any fun y => Nat.beq x y

/-- the slot of the pointer that is read or written through -/
def K.addr : K → Option Nat
  | .load _ _ (.tmp a) => some a
  | .store _ (.tmp a) _ => some a
  | _ => none
def inPairs (a b : Nat) : List (Nat × Nat) → Bool
  | [] => false
  | (c, d) :: r => (Nat.beq a c && Nat.beq b d) || (Nat.beq a d && Nat.beq b c) || inPairs a b r
def freed (ap : List (Nat × Nat)) (x y : EOp) : Bool := match x.k.addr, y.k.addr with
  | some a, some b => inPairs a b ap
  | _, _ => false
def clash (ap : List (Nat × Nat)) (x y : EOp) : Bool :=
  meets x.writes y.reads || meets x.writes y.writes || meets x.reads y.writes || (((x.k.isStore && y.k.heapy) || (x.k.heapy && y.k.isStore)) && !freed ap x y)
def unwritten (a : Nat) : List EOp → Bool
  | [] => true
  | e :: r => match notIn a e.writes with
    | true => unwritten a r
    | false => false
def addrsOf : List EOp → List Nat
  | [] => []
  | e :: r => match e.k.addr with
    | some a => a :: addrsOf r
    | none => addrsOf r
def pairsWith (l : List EOp) (a : Nat) : List Nat → List (Nat × Nat)
  | [] => []
  | b :: r => match Nat.beq a b, unwritten b l with
    | false, true => (a, b) :: pairsWith l a r
    | _, _ => pairsWith l a r
/-- what to ask for: the variables written differ from the others -/
def wantAp (l : List EOp) : List EOp → List (Nat × Nat)
  | [] => []
  | e :: r => match e.k.isStore, e.k.addr with
    | true, some a => match unwritten a l with
      | true => pairsWith l a (addrsOf l) ++ wantAp l r
      | false => wantAp l r
    | _, _ => wantAp l r
def apUnwritten (l : List EOp) : List (Nat × Nat) → Bool
  | [] => true
  | (a, b) :: r => unwritten a l && unwritten b l && apUnwritten l r

/-- edges that bind whatever the order -/
def edgesOf (o : Oper) : List Nat := (o.after.toList.filter fun e => Region.binds .any e).map (·.on)
def maskOf (acc : List Nat) : List Nat → Nat
  | [] => 0
  | e :: r => (1 <<< e) ||| (acc.getD e 0) ||| maskOf acc r
def ancs : List Oper → List Nat → List Nat
  | [], acc => acc
  | o :: r, acc => ancs r (acc ++ [maskOf acc (edgesOf o)])
def below (n : Nat) (p : Nat → Bool) : Bool := match n with
  | 0 => true
  | n + 1 => match p n with
    | true => below n p
    | false => false
def pairOK (ap : List (Nat × Nat)) (l : List EOp) (A : List Nat) (i j : Nat) : Bool := match l[i]?, l[j]? with
  | some x, some y => match clash ap x y with
    | true => Nat.testBit (A.getD j 0) i
    | false => true
  | _, _ => true
def edgesBelow (j : Nat) : List Nat → Bool
  | [] => true
  | e :: r => match Nat.blt e j with
    | true => edgesBelow j r
    | false => false
def drawOK (ap : List (Nat × Nat)) (os : List Oper) (l : List EOp) : Bool :=
  apUnwritten l ap && below os.length fun j => below j (fun i => pairOK ap l (ancs os []) i j) && (match os[j]? with | some o => edgesBelow j (edgesOf o) | none => true)
def dstsOK (nt : Nat) : List EOp → Bool
  | [] => true
  | o :: r => match o.dst with
    | some d => match Nat.blt d nt with
      | true => dstsOK nt r
      | false => false
    | none => dstsOK nt r

/-- the variables of a body -/
def insN (d : Nat) (l : List Nat) : List Nat := match notIn d l with
  | true => l ++ [d]
  | false => l
def varsOps : List Oper → List Nat → List Nat
  | [], l => l
  | o :: r, l => varsOps r (match o.op, o.dst with
    | .assign _, some d => insN d l
    | .alloc _, some d => insN d l
    | .box _ _, some d => insN d l
    | _, _ => l)
def varsCode : Code → List Nat → List Nat
  | .region _ os _, l => varsOps os.toList l
  | .seq a b, l => varsCode b (varsCode a l)
  | .cond _ a b, l => varsCode b (varsCode a l)
  | .block _ b, l => varsCode b l
  | .loop b, l => varsCode b l
  | _, l => l
def madeOps : List Oper → List Nat → List Nat
  | [], l => l
  | o :: r, l => madeOps r (match o.op, o.dst with
    | .alloc _, some d => insN d l
    | .box _ _, some d => insN d l
    | _, _ => l)
def madeCode : Code → List Nat → List Nat
  | .region _ os _, l => madeOps os.toList l
  | .seq a b, l => madeCode b (madeCode a l)
  | .cond _ a b, l => madeCode b (madeCode a l)
  | .block _ b, l => madeCode b l
  | .loop b, l => madeCode b l
  | _, l => l

/-- the variables that a region makes -/
def madeBy : List EOp → List Nat
  | [] => []
  | o :: r => match o.k.makes, o.dst with
    | true, some d => d :: madeBy r
    | _, _ => madeBy r

/-- the slots that code names, as bits -/
def maskT : List Nat → Nat
  | [] => 0
  | s :: r => (1 <<< s) ||| maskT r
def maskO : List Oper → Nat
  | [] => 0
  | o :: r => maskT (tmpsOf o.op.operands.toList) ||| (match o.dst with | some d => 1 <<< d | none => 0) ||| maskO r
def maskC : Code → Nat
  | .region _ os _ => maskO os.toList
  | .seq a b => maskC a ||| maskC b
  | .cond c a b => maskT (tmpsOf [c]) ||| maskC a ||| maskC b
  | .block _ b => maskC b
  | .loop b => maskC b
  | _ => 0
def maskR : List ResultVar → Nat
  | [] => 0
  | .tmp t :: r => (1 <<< t) ||| maskR r
  | .cell t _ :: r => (1 <<< t) ||| maskR r
def slotsR : List ResultVar → List Nat
  | [] => []
  | .tmp t :: r => t :: slotsR r
  | .cell t _ :: r => t :: slotsR r
/-- what must be known at a loop's head: variables, and what the body names, of what is named outside the body -/
def headKeys (nt : Nat) (V : List Nat) (out body : Nat) : List Nat :=
  (List.range nt).filter fun s => Nat.testBit out s && (Nat.testBit body s || !(notIn s V))

def cCode (P : Program) (nt : Nat) (V : List Nat) (out : Nat) : Code → Option EC
  | .skip => some .skip
  | .region _ os d => match cOps P os os.toList with
    | some l => match dstsOK nt l with
      | true => match d with
        | true => match drawOK [] os.toList l with
          | true => some (.region (madeBy l) [] l)
          | false => match drawOK (wantAp l l) os.toList l with
            | true => some (.region (madeBy l) (wantAp l l) l)
            | false => none
        | false => some (.region [] [] l)
      | false => none
    | none => none
  | .seq a b => match cCode P nt V (out ||| maskC b) a, cCode P nt V (out ||| maskC a) b with
    | some x, some y => some (.seq x y)
    | _, _ => none
  | .cond c a b => match cCode P nt V (out ||| maskC b ||| maskT (tmpsOf [c])) a, cCode P nt V (out ||| maskC a ||| maskT (tmpsOf [c])) b with
    | some x, some y => some (.cond c x y)
    | _, _ => none
  | .block id b => match cCode P nt V out b with
    | some x => some (.block id x)
    | none => none
  | .loop b => match cCode P nt V out b with
    | some x => some (.loop (headKeys nt V out (maskC b)) (madeCode b []) x)
    | none => none
  | .exit id => some (.exit id)
  | .ret => some .ret
  | _ => none

/-- a result: no pointer into this frame -/
def PV.fin : PV → PV
  | .sl _ e sz es => .sl false e sz es
  | .ref _ => .any
  | .loc _ _ => .any
  | p => p

def evRes (P : Program) (st : St) : List ResultVar → (List PV → Prop) → Prop
  | [], k => k []
  | .tmp t :: r, k => evRes P st r fun l => k ((st.get t).fin :: l)
  | .cell a t :: r, k => match st.get a, szT P t, P.underlying t with
    | .loc b off, some sz, some _ => match isAggT P t, Nat.beq sz 1, lenGe ((st.obj b).drop off) sz with
      | true, _, true => evRes P st r fun l => k (.agg (((st.obj b).drop off).take sz) :: l)
      | false, true, true => evRes P st r fun l => k ((mkP false (((st.obj b).drop off).take sz)).fin :: l)
      | _, _, _ => False
    | _, _, _ => False

def frArgs (i : Nat) : List PV → List (Nat × PV)
  | [] => []
  | p :: r => (i, p.view) :: frArgs (i + 1) r

def finish (k : PV → Prop) : List PV → Prop
  | [r] => k r
  | l => k (.tup l)

def kEnd (P : Program) (rs : List ResultVar) (k : PV → Prop) : Ex → St → Prop := fun e st => match e with
  | .exit _ => False
  | .normal => evRes P st rs (finish k)
  | .ret => evRes P st rs (finish k)

/-- a function's body, its arguments given -/
def evFn (P : Program) (C : Oracle) (L : Nat) (rs : List ResultVar) (ec : EC) (args : List PV) (k : PV → Prop) : Prop :=
  evC P C L ec { fr := frArgs 0 args, ob := [] } (kEnd P rs k)

/-- this function, compiled -/
def cFn (P : Program) (fn : Func) : Option EC := match fn.body with
  | some c => cCode P fn.ntmps (varsCode c (List.range fn.params.size ++ slotsR fn.results.toList)) (maskT (List.range fn.params.size) ||| maskR fn.results.toList) c
  | none => none

end Go.Proofs.Ytflfeikkcpcdiaa.Ev
