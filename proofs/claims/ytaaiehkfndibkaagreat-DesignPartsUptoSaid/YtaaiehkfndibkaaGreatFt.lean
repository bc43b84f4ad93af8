/-  The types of the data, and of rows of them. -/
import Derived.Test.YtaaiehkfndibkaaGreatRows
namespace Go.Proofs.YtaaiehkfndibkaaGreat.Ev
open Go
set_option linter.unusedVariables false
set_option linter.unusedSimpArgs false
set_option linter.unnecessarySimpa false
structure Arr2_ByteArray where
  a0 : ByteArray
  a1 : ByteArray
  deriving Inhabited
inductive api_Expr where
  | mk (Op : Int) (Name : ByteArray) (N : Int) (Kids : (List api_Expr))
instance : Inhabited api_Expr := ⟨.mk 0 ByteArray.empty 0 []⟩
def api_Expr.Op : api_Expr → Int | .mk x _ _ _ => x
def api_Expr.Name : api_Expr → ByteArray | .mk _ x _ _ => x
def api_Expr.N : api_Expr → Int | .mk _ _ x _ => x
def api_Expr.Kids : api_Expr → (List api_Expr) | .mk _ _ _ x => x
def api_Expr.cp (x : api_Expr) : api_Expr := .mk x.Op x.Name x.N x.Kids
theorem api_Expr.cp_eq (x : api_Expr) : api_Expr.cp x = x := by cases x; rfl
theorem api_Expr.eta (x : api_Expr) : api_Expr.mk x.Op x.Name x.N x.Kids = x := by cases x; rfl
structure St_is_e where
  u_is : Bool
  u_e : api_Expr
  deriving Inhabited
structure St_is_name where
  u_is : Bool
  u_name : ByteArray
  deriving Inhabited
structure api_BeltDecl where
  Name : ByteArray
  Length : Int
  Step : Int
  deriving Inhabited
structure api_Change where
  At : Int
  Units : Int
  deriving Inhabited
structure api_Dist where
  Op : Int
  A : Int
  B : Int
  N : Int
  Values : (List Int)
  Weights : (List Int)
  deriving Inhabited
structure api_Field where
  Name : ByteArray
  Type_ : Int
  deriving Inhabited
structure api_Term where
  Coef : Int
  What : ByteArray
  Name : ByteArray
  deriving Inhabited
structure api_Law where
  Name : ByteArray
  Terms : (List api_Term)
  Total : Int
  deriving Inhabited
structure api_Fault where
  Stream : ByteArray
  Up : api_Dist
  Down : api_Dist
  deriving Inhabited
structure api_ResourceDecl where
  Name : ByteArray
  Units : Int
  Shift : (List api_Change)
  Cycle : Int
  Fault : api_Fault
  deriving Inhabited
inductive api_Stmt where
  | mk (Op : Int) (Name : ByteArray) (Of : ByteArray) (E : api_Expr) (F : api_Expr) (Args : (List api_Expr)) (Dist : api_Dist) (Flag : Bool) (Body : (List api_Stmt)) (Else : (List api_Stmt))
instance : Inhabited api_Stmt := ⟨.mk 0 ByteArray.empty ByteArray.empty default default [] default false [] []⟩
def api_Stmt.Op : api_Stmt → Int | .mk x _ _ _ _ _ _ _ _ _ => x
def api_Stmt.Name : api_Stmt → ByteArray | .mk _ x _ _ _ _ _ _ _ _ => x
def api_Stmt.Of : api_Stmt → ByteArray | .mk _ _ x _ _ _ _ _ _ _ => x
def api_Stmt.E : api_Stmt → api_Expr | .mk _ _ _ x _ _ _ _ _ _ => x
def api_Stmt.F : api_Stmt → api_Expr | .mk _ _ _ _ x _ _ _ _ _ => x
def api_Stmt.Args : api_Stmt → (List api_Expr) | .mk _ _ _ _ _ x _ _ _ _ => x
def api_Stmt.Dist : api_Stmt → api_Dist | .mk _ _ _ _ _ _ x _ _ _ => x
def api_Stmt.Flag : api_Stmt → Bool | .mk _ _ _ _ _ _ _ x _ _ => x
def api_Stmt.Body : api_Stmt → (List api_Stmt) | .mk _ _ _ _ _ _ _ _ x _ => x
def api_Stmt.Else : api_Stmt → (List api_Stmt) | .mk _ _ _ _ _ _ _ _ _ x => x
def api_Stmt.cp (x : api_Stmt) : api_Stmt := .mk x.Op x.Name x.Of (api_Expr.cp x.E) (api_Expr.cp x.F) x.Args x.Dist x.Flag x.Body x.Else
theorem api_Stmt.cp_eq (x : api_Stmt) : api_Stmt.cp x = x := by cases x; simp only [api_Stmt.cp, api_Expr.cp_eq, api_Stmt.Op, api_Stmt.Name, api_Stmt.Of, api_Stmt.E, api_Stmt.F, api_Stmt.Args, api_Stmt.Dist, api_Stmt.Flag, api_Stmt.Body, api_Stmt.Else]
theorem api_Stmt.eta (x : api_Stmt) : api_Stmt.mk x.Op x.Name x.Of x.E x.F x.Args x.Dist x.Flag x.Body x.Else = x := by cases x; rfl
structure api_Routine where
  Name : ByteArray
  Params : (List api_Field)
  Locals : (List api_Field)
  Body : (List api_Stmt)
  deriving Inhabited
structure api_Start where
  Routine : ByteArray
  Args : (List Int)
  At : Int
  Every : Int
  Until : Int
  deriving Inhabited
structure api_StoreDecl where
  Name : ByteArray
  Room : Int
  Policy : Int
  deriving Inhabited
structure api_Value where
  Name : ByteArray
  Type_ : Int
  N : Int
  deriving Inhabited
structure api_SiteDecl where
  Name : ByteArray
  Vars : (List api_Value)
  Resources : (List api_ResourceDecl)
  Stores : (List api_StoreDecl)
  Belts : (List api_BeltDecl)
  Queues : (List ByteArray)
  Streams : (List ByteArray)
  Tallies : (List ByteArray)
  Levels : (List ByteArray)
  Counts : (List ByteArray)
  Routines : (List api_Routine)
  Starts : (List api_Start)
  Laws : (List api_Law)
  deriving Inhabited
structure api_Factor where
  Name : ByteArray
  Levels : (List Int)
  deriving Inhabited
structure api_Link where
  From : ByteArray
  To : ByteArray
  Delay : Int
  deriving Inhabited
structure api_Setting where
  Name : ByteArray
  N : Int
  deriving Inhabited
/-- a row of data of one type -/
inductive LX where
  | t3 (l : List Int)
  | t4 (l : List Bool)
  | t9 (l : List ByteArray)
  | t35 (l : List (List Int))
  | t59 (l : List api_Factor)
  | t63 (l : List (List ByteArray))
  | t68 (l : List api_SiteDecl)
  | t70 (l : List (List api_Field))
  | t73 (l : List api_Routine)
  | t76 (l : List api_Setting)
  | t80 (l : List Int)
  | t82 (l : List api_Value)
  | t101 (l : List api_Expr)
  | t106 (l : List api_Stmt)
  | t151 (l : List api_ResourceDecl)
  | t157 (l : List api_StoreDecl)
  | t161 (l : List api_BeltDecl)
  | t167 (l : List api_Start)
  | t173 (l : List api_Link)
  | t174 (l : List Arr2_ByteArray)
  | t186 (l : List api_Law)
  | t190 (l : List api_Change)
  | t196 (l : List api_Field)
  | t201 (l : List api_Term)
  | t235 (l : List St_is_name)
  | t237 (l : List St_is_e)
  deriving Inhabited
def LX.e : LX → Nat
  | .t3 l => 3
  | .t4 l => 4
  | .t9 l => 9
  | .t35 l => 35
  | .t59 l => 59
  | .t63 l => 63
  | .t68 l => 68
  | .t70 l => 70
  | .t73 l => 73
  | .t76 l => 76
  | .t80 l => 80
  | .t82 l => 82
  | .t101 l => 101
  | .t106 l => 106
  | .t151 l => 151
  | .t157 l => 157
  | .t161 l => 161
  | .t167 l => 167
  | .t173 l => 173
  | .t174 l => 174
  | .t186 l => 186
  | .t190 l => 190
  | .t196 l => 196
  | .t201 l => 201
  | .t235 l => 235
  | .t237 l => 237
def LX.sz : LX → Nat
  | .t3 l => 1
  | .t4 l => 1
  | .t9 l => 1
  | .t35 l => 1
  | .t59 l => 2
  | .t63 l => 1
  | .t68 l => 13
  | .t70 l => 1
  | .t73 l => 4
  | .t76 l => 2
  | .t80 l => 1
  | .t82 l => 3
  | .t101 l => 4
  | .t106 l => 21
  | .t151 l => 17
  | .t157 l => 3
  | .t161 l => 3
  | .t167 l => 5
  | .t173 l => 3
  | .t174 l => 2
  | .t186 l => 3
  | .t190 l => 2
  | .t196 l => 2
  | .t201 l => 3
  | .t235 l => 2
  | .t237 l => 5
def LX.len : LX → Nat
  | .t3 l => l.length
  | .t4 l => l.length
  | .t9 l => l.length
  | .t35 l => l.length
  | .t59 l => l.length
  | .t63 l => l.length
  | .t68 l => l.length
  | .t70 l => l.length
  | .t73 l => l.length
  | .t76 l => l.length
  | .t80 l => l.length
  | .t82 l => l.length
  | .t101 l => l.length
  | .t106 l => l.length
  | .t151 l => l.length
  | .t157 l => l.length
  | .t161 l => l.length
  | .t167 l => l.length
  | .t173 l => l.length
  | .t174 l => l.length
  | .t186 l => l.length
  | .t190 l => l.length
  | .t196 l => l.length
  | .t201 l => l.length
  | .t235 l => l.length
  | .t237 l => l.length
def LX.g3 : LX → Option (List Int)
  | .t3 l => some l
  | _ => none
def LX.g4 : LX → Option (List Bool)
  | .t4 l => some l
  | _ => none
def LX.g9 : LX → Option (List ByteArray)
  | .t9 l => some l
  | _ => none
def LX.g35 : LX → Option (List (List Int))
  | .t35 l => some l
  | _ => none
def LX.g59 : LX → Option (List api_Factor)
  | .t59 l => some l
  | _ => none
def LX.g63 : LX → Option (List (List ByteArray))
  | .t63 l => some l
  | _ => none
def LX.g68 : LX → Option (List api_SiteDecl)
  | .t68 l => some l
  | _ => none
def LX.g70 : LX → Option (List (List api_Field))
  | .t70 l => some l
  | _ => none
def LX.g73 : LX → Option (List api_Routine)
  | .t73 l => some l
  | _ => none
def LX.g76 : LX → Option (List api_Setting)
  | .t76 l => some l
  | _ => none
def LX.g80 : LX → Option (List Int)
  | .t80 l => some l
  | _ => none
def LX.g82 : LX → Option (List api_Value)
  | .t82 l => some l
  | _ => none
def LX.g101 : LX → Option (List api_Expr)
  | .t101 l => some l
  | _ => none
def LX.g106 : LX → Option (List api_Stmt)
  | .t106 l => some l
  | _ => none
def LX.g151 : LX → Option (List api_ResourceDecl)
  | .t151 l => some l
  | _ => none
def LX.g157 : LX → Option (List api_StoreDecl)
  | .t157 l => some l
  | _ => none
def LX.g161 : LX → Option (List api_BeltDecl)
  | .t161 l => some l
  | _ => none
def LX.g167 : LX → Option (List api_Start)
  | .t167 l => some l
  | _ => none
def LX.g173 : LX → Option (List api_Link)
  | .t173 l => some l
  | _ => none
def LX.g174 : LX → Option (List Arr2_ByteArray)
  | .t174 l => some l
  | _ => none
def LX.g186 : LX → Option (List api_Law)
  | .t186 l => some l
  | _ => none
def LX.g190 : LX → Option (List api_Change)
  | .t190 l => some l
  | _ => none
def LX.g196 : LX → Option (List api_Field)
  | .t196 l => some l
  | _ => none
def LX.g201 : LX → Option (List api_Term)
  | .t201 l => some l
  | _ => none
def LX.g235 : LX → Option (List St_is_name)
  | .t235 l => some l
  | _ => none
def LX.g237 : LX → Option (List St_is_e)
  | .t237 l => some l
  | _ => none
def optK {α : Type} (K : α → LX) (o : Option α) : Option LX := match o with
  | some l => some (K l)
  | none => none
def optS {α : Type} (b : Bool) (K : α → LX) (o : Option α) : Option LX := match b, o with
  | true, some l => some (K l)
  | _, _ => none
def LX.cat (x y : LX) : Option LX := match x with
  | .t3 l => optK (fun m => .t3 (l ++ m)) y.g3
  | .t4 l => optK (fun m => .t4 (l ++ m)) y.g4
  | .t9 l => optK (fun m => .t9 (l ++ m)) y.g9
  | .t35 l => optK (fun m => .t35 (l ++ m)) y.g35
  | .t59 l => optK (fun m => .t59 (l ++ m)) y.g59
  | .t63 l => optK (fun m => .t63 (l ++ m)) y.g63
  | .t68 l => optK (fun m => .t68 (l ++ m)) y.g68
  | .t70 l => optK (fun m => .t70 (l ++ m)) y.g70
  | .t73 l => optK (fun m => .t73 (l ++ m)) y.g73
  | .t76 l => optK (fun m => .t76 (l ++ m)) y.g76
  | .t80 l => optK (fun m => .t80 (l ++ m)) y.g80
  | .t82 l => optK (fun m => .t82 (l ++ m)) y.g82
  | .t101 l => optK (fun m => .t101 (l ++ m)) y.g101
  | .t106 l => optK (fun m => .t106 (l ++ m)) y.g106
  | .t151 l => optK (fun m => .t151 (l ++ m)) y.g151
  | .t157 l => optK (fun m => .t157 (l ++ m)) y.g157
  | .t161 l => optK (fun m => .t161 (l ++ m)) y.g161
  | .t167 l => optK (fun m => .t167 (l ++ m)) y.g167
  | .t173 l => optK (fun m => .t173 (l ++ m)) y.g173
  | .t174 l => optK (fun m => .t174 (l ++ m)) y.g174
  | .t186 l => optK (fun m => .t186 (l ++ m)) y.g186
  | .t190 l => optK (fun m => .t190 (l ++ m)) y.g190
  | .t196 l => optK (fun m => .t196 (l ++ m)) y.g196
  | .t201 l => optK (fun m => .t201 (l ++ m)) y.g201
  | .t235 l => optK (fun m => .t235 (l ++ m)) y.g235
  | .t237 l => optK (fun m => .t237 (l ++ m)) y.g237
def LX.sub (x : LX) (a b : Nat) : LX := match x with
  | .t3 l => .t3 ((l.take b).drop a)
  | .t4 l => .t4 ((l.take b).drop a)
  | .t9 l => .t9 ((l.take b).drop a)
  | .t35 l => .t35 ((l.take b).drop a)
  | .t59 l => .t59 ((l.take b).drop a)
  | .t63 l => .t63 ((l.take b).drop a)
  | .t68 l => .t68 ((l.take b).drop a)
  | .t70 l => .t70 ((l.take b).drop a)
  | .t73 l => .t73 ((l.take b).drop a)
  | .t76 l => .t76 ((l.take b).drop a)
  | .t80 l => .t80 ((l.take b).drop a)
  | .t82 l => .t82 ((l.take b).drop a)
  | .t101 l => .t101 ((l.take b).drop a)
  | .t106 l => .t106 ((l.take b).drop a)
  | .t151 l => .t151 ((l.take b).drop a)
  | .t157 l => .t157 ((l.take b).drop a)
  | .t161 l => .t161 ((l.take b).drop a)
  | .t167 l => .t167 ((l.take b).drop a)
  | .t173 l => .t173 ((l.take b).drop a)
  | .t174 l => .t174 ((l.take b).drop a)
  | .t186 l => .t186 ((l.take b).drop a)
  | .t190 l => .t190 ((l.take b).drop a)
  | .t196 l => .t196 ((l.take b).drop a)
  | .t201 l => .t201 ((l.take b).drop a)
  | .t235 l => .t235 ((l.take b).drop a)
  | .t237 l => .t237 ((l.take b).drop a)
def LX.rep (x : LX) (n : Nat) : LX := match x with
  | .t3 l => .t3 (List.replicate n (l.getD 0 default))
  | .t4 l => .t4 (List.replicate n (l.getD 0 default))
  | .t9 l => .t9 (List.replicate n (l.getD 0 default))
  | .t35 l => .t35 (List.replicate n (l.getD 0 default))
  | .t59 l => .t59 (List.replicate n (l.getD 0 default))
  | .t63 l => .t63 (List.replicate n (l.getD 0 default))
  | .t68 l => .t68 (List.replicate n (l.getD 0 default))
  | .t70 l => .t70 (List.replicate n (l.getD 0 default))
  | .t73 l => .t73 (List.replicate n (l.getD 0 default))
  | .t76 l => .t76 (List.replicate n (l.getD 0 default))
  | .t80 l => .t80 (List.replicate n (l.getD 0 default))
  | .t82 l => .t82 (List.replicate n (l.getD 0 default))
  | .t101 l => .t101 (List.replicate n (l.getD 0 default))
  | .t106 l => .t106 (List.replicate n (l.getD 0 default))
  | .t151 l => .t151 (List.replicate n (l.getD 0 default))
  | .t157 l => .t157 (List.replicate n (l.getD 0 default))
  | .t161 l => .t161 (List.replicate n (l.getD 0 default))
  | .t167 l => .t167 (List.replicate n (l.getD 0 default))
  | .t173 l => .t173 (List.replicate n (l.getD 0 default))
  | .t174 l => .t174 (List.replicate n (l.getD 0 default))
  | .t186 l => .t186 (List.replicate n (l.getD 0 default))
  | .t190 l => .t190 (List.replicate n (l.getD 0 default))
  | .t196 l => .t196 (List.replicate n (l.getD 0 default))
  | .t201 l => .t201 (List.replicate n (l.getD 0 default))
  | .t235 l => .t235 (List.replicate n (l.getD 0 default))
  | .t237 l => .t237 (List.replicate n (l.getD 0 default))
def LX.nil (e : Nat) : Option LX := match Nat.beq e 3 with
  | true => some (.t3 [])
  | false => match Nat.beq e 4 with
  | true => some (.t4 [])
  | false => match Nat.beq e 9 with
  | true => some (.t9 [])
  | false => match Nat.beq e 35 with
  | true => some (.t35 [])
  | false => match Nat.beq e 59 with
  | true => some (.t59 [])
  | false => match Nat.beq e 63 with
  | true => some (.t63 [])
  | false => match Nat.beq e 68 with
  | true => some (.t68 [])
  | false => match Nat.beq e 70 with
  | true => some (.t70 [])
  | false => match Nat.beq e 73 with
  | true => some (.t73 [])
  | false => match Nat.beq e 76 with
  | true => some (.t76 [])
  | false => match Nat.beq e 80 with
  | true => some (.t80 [])
  | false => match Nat.beq e 82 with
  | true => some (.t82 [])
  | false => match Nat.beq e 101 with
  | true => some (.t101 [])
  | false => match Nat.beq e 106 with
  | true => some (.t106 [])
  | false => match Nat.beq e 151 with
  | true => some (.t151 [])
  | false => match Nat.beq e 157 with
  | true => some (.t157 [])
  | false => match Nat.beq e 161 with
  | true => some (.t161 [])
  | false => match Nat.beq e 167 with
  | true => some (.t167 [])
  | false => match Nat.beq e 173 with
  | true => some (.t173 [])
  | false => match Nat.beq e 174 with
  | true => some (.t174 [])
  | false => match Nat.beq e 186 with
  | true => some (.t186 [])
  | false => match Nat.beq e 190 with
  | true => some (.t190 [])
  | false => match Nat.beq e 196 with
  | true => some (.t196 [])
  | false => match Nat.beq e 201 with
  | true => some (.t201 [])
  | false => match Nat.beq e 235 with
  | true => some (.t235 [])
  | false => match Nat.beq e 237 with
  | true => some (.t237 [])
  | false => none
end Go.Proofs.YtaaiehkfndibkaaGreat.Ev
