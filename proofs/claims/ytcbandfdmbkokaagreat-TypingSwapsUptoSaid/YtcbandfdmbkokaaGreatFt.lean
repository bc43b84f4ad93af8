/-  The types of the data, and of rows of them. -/
import Derived.Test.YtcbandfdmbkokaaGreatRows
namespace Go.Proofs.YtcbandfdmbkokaaGreat.Ev
open Go
set_option linter.unusedVariables false
set_option linter.unusedSimpArgs false
set_option linter.unnecessarySimpa false

structure Arr2_ByteArray where
  a0 : ByteArray
  a1 : ByteArray
  deriving Inhabited

structure api_Field where
  Name : ByteArray
  Type_ : Int
  deriving Inhabited

structure api_Link where
  From : ByteArray
  To : ByteArray
  Delay : Int
  deriving Inhabited

structure api_BeltDecl where
  Name : ByteArray
  Length : Int
  Step : Int
  deriving Inhabited

structure api_Term where
  Coef : Int
  What : ByteArray
  Name : ByteArray
  deriving Inhabited

structure api_Law where
  Name : ByteArray
  Terms : (List api_Term)
  Total : Int
  deriving Inhabited

structure api_Change where
  At : Int
  Units : Int
  deriving Inhabited

structure api_Dist where
  Op : Int
  A : Int
  B : Int
  N : Int
  Values : (List Int)
  Weights : (List Int)
  deriving Inhabited

structure api_Fault where
  Stream : ByteArray
  Up : api_Dist
  Down : api_Dist
  deriving Inhabited

structure api_ResourceDecl where
  Name : ByteArray
  Units : Int
  Shift : (List api_Change)
  Cycle : Int
  Fault : api_Fault
  deriving Inhabited

inductive api_Expr where
  | mk (Op : Int) (Name : ByteArray) (N : Int) (Kids : (List api_Expr))
instance : Inhabited api_Expr := ⟨.mk 0 ByteArray.empty 0 []⟩
def api_Expr.Op : api_Expr → Int | .mk x _ _ _ => x
def api_Expr.Name : api_Expr → ByteArray | .mk _ x _ _ => x
def api_Expr.N : api_Expr → Int | .mk _ _ x _ => x
def api_Expr.Kids : api_Expr → (List api_Expr) | .mk _ _ _ x => x
def api_Expr.cp (x : api_Expr) : api_Expr := .mk x.Op x.Name x.N x.Kids
theorem api_Expr.cp_eq (x : api_Expr) : api_Expr.cp x = x := by cases x; rfl
theorem api_Expr.eta (x : api_Expr) : api_Expr.mk x.Op x.Name x.N x.Kids = x := by cases x; rfl

inductive api_Stmt where
  | mk (Op : Int) (Name : ByteArray) (Of : ByteArray) (E : api_Expr) (F : api_Expr) (Args : (List api_Expr)) (Dist : api_Dist) (Flag : Bool) (Body : (List api_Stmt)) (Else : (List api_Stmt))
instance : Inhabited api_Stmt := ⟨.mk 0 ByteArray.empty ByteArray.empty default default [] default false [] []⟩
def api_Stmt.Op : api_Stmt → Int | .mk x _ _ _ _ _ _ _ _ _ => x
def api_Stmt.Name : api_Stmt → ByteArray | .mk _ x _ _ _ _ _ _ _ _ => x
def api_Stmt.Of : api_Stmt → ByteArray | .mk _ _ x _ _ _ _ _ _ _ => x
def api_Stmt.E : api_Stmt → api_Expr | .mk _ _ _ x _ _ _ _ _ _ => x
def api_Stmt.F : api_Stmt → api_Expr | .mk _ _ _ _ x _ _ _ _ _ => x
def api_Stmt.Args : api_Stmt → (List api_Expr) | .mk _ _ _ _ _ x _ _ _ _ => x
def api_Stmt.Dist : api_Stmt → api_Dist | .mk _ _ _ _ _ _ x _ _ _ => x
def api_Stmt.Flag : api_Stmt → Bool | .mk _ _ _ _ _ _ _ x _ _ => x
def api_Stmt.Body : api_Stmt → (List api_Stmt) | .mk _ _ _ _ _ _ _ _ x _ => x
def api_Stmt.Else : api_Stmt → (List api_Stmt) | .mk _ _ _ _ _ _ _ _ _ x => x
def api_Stmt.cp (x : api_Stmt) : api_Stmt := .mk x.Op x.Name x.Of x.E x.F x.Args x.Dist x.Flag x.Body x.Else
theorem api_Stmt.cp_eq (x : api_Stmt) : api_Stmt.cp x = x := by cases x; rfl
theorem api_Stmt.eta (x : api_Stmt) : api_Stmt.mk x.Op x.Name x.Of x.E x.F x.Args x.Dist x.Flag x.Body x.Else = x := by cases x; rfl

structure api_Routine where
  Name : ByteArray
  Params : (List api_Field)
  Locals : (List api_Field)
  Body : (List api_Stmt)
  deriving Inhabited

structure api_Start where
  Routine : ByteArray
  Args : (List Int)
  At : Int
  Every : Int
  Until : Int
  deriving Inhabited

structure api_StoreDecl where
  Name : ByteArray
  Room : Int
  Policy : Int
  deriving Inhabited

structure api_Value where
  Name : ByteArray
  Type_ : Int
  N : Int
  deriving Inhabited

structure api_SiteDecl where
  Name : ByteArray
  Vars : (List api_Value)
  Resources : (List api_ResourceDecl)
  Stores : (List api_StoreDecl)
  Belts : (List api_BeltDecl)
  Queues : (List ByteArray)
  Streams : (List ByteArray)
  Tallies : (List ByteArray)
  Levels : (List ByteArray)
  Counts : (List ByteArray)
  Routines : (List api_Routine)
  Starts : (List api_Start)
  Laws : (List api_Law)
  deriving Inhabited

structure api_Model where
  Name : ByteArray
  Params : (List api_Value)
  Sites : (List api_SiteDecl)
  Links : (List api_Link)
  deriving Inhabited

structure L14_Case where
  M : api_Model
  Site : Int
  Locals : (List api_Field)
  A : (List api_Stmt)
  B : (List api_Stmt)
  deriving Inhabited

structure L14_Swap where
  E : api_Expr
  By : api_Expr
  Name : ByteArray
  deriving Inhabited

structure R10_Form where
  Name : Bool
  Of : Bool
  E : Bool
  F : Bool
  Args : Bool
  Dist : Bool
  Flag : Bool
  Body : Bool
  Else : Bool
  deriving Inhabited

structure St_is_e where
  u_is : Bool
  u_e : api_Expr
  deriving Inhabited

structure St_is_name where
  u_is : Bool
  u_name : ByteArray
  deriving Inhabited

structure St_msg_addr where
  u_msg : ByteArray
  u_addr : Int
  deriving Inhabited

structure St_x_y_signed_code where
  u_x : Int
  u_y : Int
  u_signed : Bool
  u_code : Int
  deriving Inhabited

structure api_Env where
  Params : (List api_Value)
  Locals : (List api_Field)
  Site : api_SiteDecl
  deriving Inhabited

structure expr_kind where
  u_code : Bool
  deriving Inhabited

structure stmt_use where
  u_name : Bool
  u_of : Bool
  u_e : Bool
  u_f : Bool
  u_args : Bool
  u_dist : Bool
  u_flag : Bool
  u_body : Bool
  u_other : Bool
  deriving Inhabited

structure typing_routine where
  u_m : api_Model
  u_site : Int
  u_env : api_Env
  deriving Inhabited

/-- a row of data of one type -/
inductive LX where
  | t3 (l : List Int)
  | t4 (l : List Bool)
  | t9 (l : List ByteArray)
  | t23 (l : List (List api_Field))
  | t27 (l : List (List ByteArray))
  | t32 (l : List api_SiteDecl)
  | t38 (l : List api_Expr)
  | t41 (l : List Int)
  | t68 (l : List api_Field)
  | t72 (l : List api_Value)
  | t74 (l : List api_Routine)
  | t82 (l : List api_Stmt)
  | t149 (l : List api_ResourceDecl)
  | t156 (l : List api_StoreDecl)
  | t160 (l : List api_BeltDecl)
  | t166 (l : List api_Start)
  | t172 (l : List api_Link)
  | t173 (l : List Arr2_ByteArray)
  | t184 (l : List api_Law)
  | t188 (l : List St_is_name)
  | t190 (l : List St_is_e)
  | t228 (l : List api_Change)
  | t234 (l : List api_Term)
  deriving Inhabited

def LX.e : LX → Nat
  | .t3 l => 3
  | .t4 l => 4
  | .t9 l => 9
  | .t23 l => 23
  | .t27 l => 27
  | .t32 l => 32
  | .t38 l => 38
  | .t41 l => 41
  | .t68 l => 68
  | .t72 l => 72
  | .t74 l => 74
  | .t82 l => 82
  | .t149 l => 149
  | .t156 l => 156
  | .t160 l => 160
  | .t166 l => 166
  | .t172 l => 172
  | .t173 l => 173
  | .t184 l => 184
  | .t188 l => 188
  | .t190 l => 190
  | .t228 l => 228
  | .t234 l => 234

def LX.sz : LX → Nat
  | .t3 l => 1
  | .t4 l => 1
  | .t9 l => 1
  | .t23 l => 1
  | .t27 l => 1
  | .t32 l => 13
  | .t38 l => 4
  | .t41 l => 1
  | .t68 l => 2
  | .t72 l => 3
  | .t74 l => 4
  | .t82 l => 21
  | .t149 l => 17
  | .t156 l => 3
  | .t160 l => 3
  | .t166 l => 5
  | .t172 l => 3
  | .t173 l => 2
  | .t184 l => 3
  | .t188 l => 2
  | .t190 l => 5
  | .t228 l => 2
  | .t234 l => 3

def LX.len : LX → Nat
  | .t3 l => l.length
  | .t4 l => l.length
  | .t9 l => l.length
  | .t23 l => l.length
  | .t27 l => l.length
  | .t32 l => l.length
  | .t38 l => l.length
  | .t41 l => l.length
  | .t68 l => l.length
  | .t72 l => l.length
  | .t74 l => l.length
  | .t82 l => l.length
  | .t149 l => l.length
  | .t156 l => l.length
  | .t160 l => l.length
  | .t166 l => l.length
  | .t172 l => l.length
  | .t173 l => l.length
  | .t184 l => l.length
  | .t188 l => l.length
  | .t190 l => l.length
  | .t228 l => l.length
  | .t234 l => l.length

def LX.g3 : LX → Option (List Int)
  | .t3 l => some l
  | _ => none
def LX.g4 : LX → Option (List Bool)
  | .t4 l => some l
  | _ => none
def LX.g9 : LX → Option (List ByteArray)
  | .t9 l => some l
  | _ => none
def LX.g23 : LX → Option (List (List api_Field))
  | .t23 l => some l
  | _ => none
def LX.g27 : LX → Option (List (List ByteArray))
  | .t27 l => some l
  | _ => none
def LX.g32 : LX → Option (List api_SiteDecl)
  | .t32 l => some l
  | _ => none
def LX.g38 : LX → Option (List api_Expr)
  | .t38 l => some l
  | _ => none
def LX.g41 : LX → Option (List Int)
  | .t41 l => some l
  | _ => none
def LX.g68 : LX → Option (List api_Field)
  | .t68 l => some l
  | _ => none
def LX.g72 : LX → Option (List api_Value)
  | .t72 l => some l
  | _ => none
def LX.g74 : LX → Option (List api_Routine)
  | .t74 l => some l
  | _ => none
def LX.g82 : LX → Option (List api_Stmt)
  | .t82 l => some l
  | _ => none
def LX.g149 : LX → Option (List api_ResourceDecl)
  | .t149 l => some l
  | _ => none
def LX.g156 : LX → Option (List api_StoreDecl)
  | .t156 l => some l
  | _ => none
def LX.g160 : LX → Option (List api_BeltDecl)
  | .t160 l => some l
  | _ => none
def LX.g166 : LX → Option (List api_Start)
  | .t166 l => some l
  | _ => none
def LX.g172 : LX → Option (List api_Link)
  | .t172 l => some l
  | _ => none
def LX.g173 : LX → Option (List Arr2_ByteArray)
  | .t173 l => some l
  | _ => none
def LX.g184 : LX → Option (List api_Law)
  | .t184 l => some l
  | _ => none
def LX.g188 : LX → Option (List St_is_name)
  | .t188 l => some l
  | _ => none
def LX.g190 : LX → Option (List St_is_e)
  | .t190 l => some l
  | _ => none
def LX.g228 : LX → Option (List api_Change)
  | .t228 l => some l
  | _ => none
def LX.g234 : LX → Option (List api_Term)
  | .t234 l => some l
  | _ => none
def LX.cat (x y : LX) : Option LX := match x with
  | .t3 l => match y.g3 with
    | some m => some (.t3 (l ++ m))
    | none => none
  | .t4 l => match y.g4 with
    | some m => some (.t4 (l ++ m))
    | none => none
  | .t9 l => match y.g9 with
    | some m => some (.t9 (l ++ m))
    | none => none
  | .t23 l => match y.g23 with
    | some m => some (.t23 (l ++ m))
    | none => none
  | .t27 l => match y.g27 with
    | some m => some (.t27 (l ++ m))
    | none => none
  | .t32 l => match y.g32 with
    | some m => some (.t32 (l ++ m))
    | none => none
  | .t38 l => match y.g38 with
    | some m => some (.t38 (l ++ m))
    | none => none
  | .t41 l => match y.g41 with
    | some m => some (.t41 (l ++ m))
    | none => none
  | .t68 l => match y.g68 with
    | some m => some (.t68 (l ++ m))
    | none => none
  | .t72 l => match y.g72 with
    | some m => some (.t72 (l ++ m))
    | none => none
  | .t74 l => match y.g74 with
    | some m => some (.t74 (l ++ m))
    | none => none
  | .t82 l => match y.g82 with
    | some m => some (.t82 (l ++ m))
    | none => none
  | .t149 l => match y.g149 with
    | some m => some (.t149 (l ++ m))
    | none => none
  | .t156 l => match y.g156 with
    | some m => some (.t156 (l ++ m))
    | none => none
  | .t160 l => match y.g160 with
    | some m => some (.t160 (l ++ m))
    | none => none
  | .t166 l => match y.g166 with
    | some m => some (.t166 (l ++ m))
    | none => none
  | .t172 l => match y.g172 with
    | some m => some (.t172 (l ++ m))
    | none => none
  | .t173 l => match y.g173 with
    | some m => some (.t173 (l ++ m))
    | none => none
  | .t184 l => match y.g184 with
    | some m => some (.t184 (l ++ m))
    | none => none
  | .t188 l => match y.g188 with
    | some m => some (.t188 (l ++ m))
    | none => none
  | .t190 l => match y.g190 with
    | some m => some (.t190 (l ++ m))
    | none => none
  | .t228 l => match y.g228 with
    | some m => some (.t228 (l ++ m))
    | none => none
  | .t234 l => match y.g234 with
    | some m => some (.t234 (l ++ m))
    | none => none

def LX.sub (x : LX) (a b : Nat) : LX := match x with
  | .t3 l => .t3 ((l.take b).drop a)
  | .t4 l => .t4 ((l.take b).drop a)
  | .t9 l => .t9 ((l.take b).drop a)
  | .t23 l => .t23 ((l.take b).drop a)
  | .t27 l => .t27 ((l.take b).drop a)
  | .t32 l => .t32 ((l.take b).drop a)
  | .t38 l => .t38 ((l.take b).drop a)
  | .t41 l => .t41 ((l.take b).drop a)
  | .t68 l => .t68 ((l.take b).drop a)
  | .t72 l => .t72 ((l.take b).drop a)
  | .t74 l => .t74 ((l.take b).drop a)
  | .t82 l => .t82 ((l.take b).drop a)
  | .t149 l => .t149 ((l.take b).drop a)
  | .t156 l => .t156 ((l.take b).drop a)
  | .t160 l => .t160 ((l.take b).drop a)
  | .t166 l => .t166 ((l.take b).drop a)
  | .t172 l => .t172 ((l.take b).drop a)
  | .t173 l => .t173 ((l.take b).drop a)
  | .t184 l => .t184 ((l.take b).drop a)
  | .t188 l => .t188 ((l.take b).drop a)
  | .t190 l => .t190 ((l.take b).drop a)
  | .t228 l => .t228 ((l.take b).drop a)
  | .t234 l => .t234 ((l.take b).drop a)

def LX.rep (x : LX) (n : Nat) : LX := match x with
  | .t3 l => .t3 (List.replicate n (l.getD 0 default))
  | .t4 l => .t4 (List.replicate n (l.getD 0 default))
  | .t9 l => .t9 (List.replicate n (l.getD 0 default))
  | .t23 l => .t23 (List.replicate n (l.getD 0 default))
  | .t27 l => .t27 (List.replicate n (l.getD 0 default))
  | .t32 l => .t32 (List.replicate n (l.getD 0 default))
  | .t38 l => .t38 (List.replicate n (l.getD 0 default))
  | .t41 l => .t41 (List.replicate n (l.getD 0 default))
  | .t68 l => .t68 (List.replicate n (l.getD 0 default))
  | .t72 l => .t72 (List.replicate n (l.getD 0 default))
  | .t74 l => .t74 (List.replicate n (l.getD 0 default))
  | .t82 l => .t82 (List.replicate n (l.getD 0 default))
  | .t149 l => .t149 (List.replicate n (l.getD 0 default))
  | .t156 l => .t156 (List.replicate n (l.getD 0 default))
  | .t160 l => .t160 (List.replicate n (l.getD 0 default))
  | .t166 l => .t166 (List.replicate n (l.getD 0 default))
  | .t172 l => .t172 (List.replicate n (l.getD 0 default))
  | .t173 l => .t173 (List.replicate n (l.getD 0 default))
  | .t184 l => .t184 (List.replicate n (l.getD 0 default))
  | .t188 l => .t188 (List.replicate n (l.getD 0 default))
  | .t190 l => .t190 (List.replicate n (l.getD 0 default))
  | .t228 l => .t228 (List.replicate n (l.getD 0 default))
  | .t234 l => .t234 (List.replicate n (l.getD 0 default))

def LX.nil (e : Nat) : Option LX := match Nat.beq e 3 with
  | true => some (.t3 [])
  | false => match Nat.beq e 4 with
  | true => some (.t4 [])
  | false => match Nat.beq e 9 with
  | true => some (.t9 [])
  | false => match Nat.beq e 23 with
  | true => some (.t23 [])
  | false => match Nat.beq e 27 with
  | true => some (.t27 [])
  | false => match Nat.beq e 32 with
  | true => some (.t32 [])
  | false => match Nat.beq e 38 with
  | true => some (.t38 [])
  | false => match Nat.beq e 41 with
  | true => some (.t41 [])
  | false => match Nat.beq e 68 with
  | true => some (.t68 [])
  | false => match Nat.beq e 72 with
  | true => some (.t72 [])
  | false => match Nat.beq e 74 with
  | true => some (.t74 [])
  | false => match Nat.beq e 82 with
  | true => some (.t82 [])
  | false => match Nat.beq e 149 with
  | true => some (.t149 [])
  | false => match Nat.beq e 156 with
  | true => some (.t156 [])
  | false => match Nat.beq e 160 with
  | true => some (.t160 [])
  | false => match Nat.beq e 166 with
  | true => some (.t166 [])
  | false => match Nat.beq e 172 with
  | true => some (.t172 [])
  | false => match Nat.beq e 173 with
  | true => some (.t173 [])
  | false => match Nat.beq e 184 with
  | true => some (.t184 [])
  | false => match Nat.beq e 188 with
  | true => some (.t188 [])
  | false => match Nat.beq e 190 with
  | true => some (.t190 [])
  | false => match Nat.beq e 228 with
  | true => some (.t228 [])
  | false => match Nat.beq e 234 with
  | true => some (.t234 [])
  | false => none


end Go.Proofs.YtcbandfdmbkokaaGreat.Ev