/-  The types of the data, and of rows of them. -/
import Derived.Test.YtonfmpiikdmndaaGreatRows
namespace Go.Proofs.YtonfmpiikdmndaaGreat.Ev
open Go
set_option linter.unusedVariables false
set_option linter.unusedSimpArgs false
set_option linter.unnecessarySimpa false
structure Arr2_ByteArray where
  a0 : ByteArray
  a1 : ByteArray
  deriving Inhabited
inductive api_Expr where
  | mk (Op : Int) (Name : ByteArray) (N : Int) (Kids : (List api_Expr))
instance : Inhabited api_Expr := ⟨.mk 0 ByteArray.empty 0 []⟩
def api_Expr.Op : api_Expr → Int | .mk x _ _ _ => x
def api_Expr.Name : api_Expr → ByteArray | .mk _ x _ _ => x
def api_Expr.N : api_Expr → Int | .mk _ _ x _ => x
def api_Expr.Kids : api_Expr → (List api_Expr) | .mk _ _ _ x => x
def api_Expr.cp (x : api_Expr) : api_Expr := .mk x.Op x.Name x.N x.Kids
theorem api_Expr.cp_eq (x : api_Expr) : api_Expr.cp x = x := by cases x; rfl
theorem api_Expr.eta (x : api_Expr) : api_Expr.mk x.Op x.Name x.N x.Kids = x := by cases x; rfl
structure St_is_e where
  u_is : Bool
  u_e : api_Expr
  deriving Inhabited
structure St_is_name where
  u_is : Bool
  u_name : ByteArray
  deriving Inhabited
structure api_BeltDecl where
  Name : ByteArray
  Length : Int
  Step : Int
  deriving Inhabited
structure api_Change where
  At : Int
  Units : Int
  deriving Inhabited
structure api_Dist where
  Op : Int
  A : Int
  B : Int
  N : Int
  Values : (List Int)
  Weights : (List Int)
  deriving Inhabited
structure api_Field where
  Name : ByteArray
  Type_ : Int
  deriving Inhabited
structure api_Term where
  Coef : Int
  What : ByteArray
  Name : ByteArray
  deriving Inhabited
structure api_Law where
  Name : ByteArray
  Terms : (List api_Term)
  Total : Int
  deriving Inhabited
structure api_Fault where
  Stream : ByteArray
  Up : api_Dist
  Down : api_Dist
  deriving Inhabited
structure api_ResourceDecl where
  Name : ByteArray
  Units : Int
  Shift : (List api_Change)
  Cycle : Int
  Fault : api_Fault
  deriving Inhabited
inductive api_Stmt where
  | mk (Op : Int) (Name : ByteArray) (Of : ByteArray) (E : api_Expr) (F : api_Expr) (Args : (List api_Expr)) (Dist : api_Dist) (Flag : Bool) (Body : (List api_Stmt)) (Else : (List api_Stmt))
instance : Inhabited api_Stmt := ⟨.mk 0 ByteArray.empty ByteArray.empty default default [] default false [] []⟩
def api_Stmt.Op : api_Stmt → Int | .mk x _ _ _ _ _ _ _ _ _ => x
def api_Stmt.Name : api_Stmt → ByteArray | .mk _ x _ _ _ _ _ _ _ _ => x
def api_Stmt.Of : api_Stmt → ByteArray | .mk _ _ x _ _ _ _ _ _ _ => x
def api_Stmt.E : api_Stmt → api_Expr | .mk _ _ _ x _ _ _ _ _ _ => x
def api_Stmt.F : api_Stmt → api_Expr | .mk _ _ _ _ x _ _ _ _ _ => x
def api_Stmt.Args : api_Stmt → (List api_Expr) | .mk _ _ _ _ _ x _ _ _ _ => x
def api_Stmt.Dist : api_Stmt → api_Dist | .mk _ _ _ _ _ _ x _ _ _ => x
def api_Stmt.Flag : api_Stmt → Bool | .mk _ _ _ _ _ _ _ x _ _ => x
def api_Stmt.Body : api_Stmt → (List api_Stmt) | .mk _ _ _ _ _ _ _ _ x _ => x
def api_Stmt.Else : api_Stmt → (List api_Stmt) | .mk _ _ _ _ _ _ _ _ _ x => x
def api_Stmt.cp (x : api_Stmt) : api_Stmt := .mk x.Op x.Name x.Of (api_Expr.cp x.E) (api_Expr.cp x.F) x.Args x.Dist x.Flag x.Body x.Else
theorem api_Stmt.cp_eq (x : api_Stmt) : api_Stmt.cp x = x := by cases x; simp only [api_Stmt.cp, api_Expr.cp_eq, api_Stmt.Op, api_Stmt.Name, api_Stmt.Of, api_Stmt.E, api_Stmt.F, api_Stmt.Args, api_Stmt.Dist, api_Stmt.Flag, api_Stmt.Body, api_Stmt.Else]
theorem api_Stmt.eta (x : api_Stmt) : api_Stmt.mk x.Op x.Name x.Of x.E x.F x.Args x.Dist x.Flag x.Body x.Else = x := by cases x; rfl
structure api_Routine where
  Name : ByteArray
  Params : (List api_Field)
  Locals : (List api_Field)
  Body : (List api_Stmt)
  deriving Inhabited
structure api_Start where
  Routine : ByteArray
  Args : (List Int)
  At : Int
  Every : Int
  Until : Int
  deriving Inhabited
structure api_StoreDecl where
  Name : ByteArray
  Room : Int
  Policy : Int
  deriving Inhabited
structure api_Value where
  Name : ByteArray
  Type_ : Int
  N : Int
  deriving Inhabited
structure api_SiteDecl where
  Name : ByteArray
  Vars : (List api_Value)
  Resources : (List api_ResourceDecl)
  Stores : (List api_StoreDecl)
  Belts : (List api_BeltDecl)
  Queues : (List ByteArray)
  Streams : (List ByteArray)
  Tallies : (List ByteArray)
  Levels : (List ByteArray)
  Counts : (List ByteArray)
  Routines : (List api_Routine)
  Starts : (List api_Start)
  Laws : (List api_Law)
  deriving Inhabited
structure api_Env where
  Params : (List api_Value)
  Locals : (List api_Field)
  Site : api_SiteDecl
  deriving Inhabited
structure api_Link where
  From : ByteArray
  To : ByteArray
  Delay : Int
  deriving Inhabited
structure api_Setting where
  Name : ByteArray
  N : Int
  deriving Inhabited
structure api_View where
  Now : Int
  Slots : (List Int)
  Vars : (List Int)
  Free : (List Int)
  Size : (List Int)
  Waiting : (List Int)
  deriving Inhabited
structure expr_kind where
  u_code : Bool
  deriving Inhabited
/-- a row of data of one type -/
inductive LX where
  | t3 (l : List Int)
  | t4 (l : List Bool)
  | t9 (l : List ByteArray)
  | t25 (l : List api_Expr)
  | t34 (l : List (List api_Field))
  | t43 (l : List api_SiteDecl)
  | t47 (l : List Int)
  | t68 (l : List api_Setting)
  | t77 (l : List api_Routine)
  | t83 (l : List api_Stmt)
  | t85 (l : List api_Value)
  | t134 (l : List api_Field)
  | t159 (l : List api_ResourceDecl)
  | t164 (l : List api_StoreDecl)
  | t168 (l : List api_BeltDecl)
  | t195 (l : List api_Start)
  | t201 (l : List api_Link)
  | t202 (l : List Arr2_ByteArray)
  | t216 (l : List api_Change)
  | t223 (l : List api_Law)
  | t226 (l : List api_Term)
  | t246 (l : List St_is_name)
  | t248 (l : List St_is_e)
  deriving Inhabited
def LX.e : LX → Nat
  | .t3 l => 3
  | .t4 l => 4
  | .t9 l => 9
  | .t25 l => 25
  | .t34 l => 34
  | .t43 l => 43
  | .t47 l => 47
  | .t68 l => 68
  | .t77 l => 77
  | .t83 l => 83
  | .t85 l => 85
  | .t134 l => 134
  | .t159 l => 159
  | .t164 l => 164
  | .t168 l => 168
  | .t195 l => 195
  | .t201 l => 201
  | .t202 l => 202
  | .t216 l => 216
  | .t223 l => 223
  | .t226 l => 226
  | .t246 l => 246
  | .t248 l => 248
def LX.sz : LX → Nat
  | .t3 l => 1
  | .t4 l => 1
  | .t9 l => 1
  | .t25 l => 4
  | .t34 l => 1
  | .t43 l => 13
  | .t47 l => 1
  | .t68 l => 2
  | .t77 l => 4
  | .t83 l => 21
  | .t85 l => 3
  | .t134 l => 2
  | .t159 l => 17
  | .t164 l => 3
  | .t168 l => 3
  | .t195 l => 5
  | .t201 l => 3
  | .t202 l => 2
  | .t216 l => 2
  | .t223 l => 3
  | .t226 l => 3
  | .t246 l => 2
  | .t248 l => 5
def LX.len : LX → Nat
  | .t3 l => l.length
  | .t4 l => l.length
  | .t9 l => l.length
  | .t25 l => l.length
  | .t34 l => l.length
  | .t43 l => l.length
  | .t47 l => l.length
  | .t68 l => l.length
  | .t77 l => l.length
  | .t83 l => l.length
  | .t85 l => l.length
  | .t134 l => l.length
  | .t159 l => l.length
  | .t164 l => l.length
  | .t168 l => l.length
  | .t195 l => l.length
  | .t201 l => l.length
  | .t202 l => l.length
  | .t216 l => l.length
  | .t223 l => l.length
  | .t226 l => l.length
  | .t246 l => l.length
  | .t248 l => l.length
def LX.g3 : LX → Option (List Int)
  | .t3 l => some l
  | _ => none
def LX.g4 : LX → Option (List Bool)
  | .t4 l => some l
  | _ => none
def LX.g9 : LX → Option (List ByteArray)
  | .t9 l => some l
  | _ => none
def LX.g25 : LX → Option (List api_Expr)
  | .t25 l => some l
  | _ => none
def LX.g34 : LX → Option (List (List api_Field))
  | .t34 l => some l
  | _ => none
def LX.g43 : LX → Option (List api_SiteDecl)
  | .t43 l => some l
  | _ => none
def LX.g47 : LX → Option (List Int)
  | .t47 l => some l
  | _ => none
def LX.g68 : LX → Option (List api_Setting)
  | .t68 l => some l
  | _ => none
def LX.g77 : LX → Option (List api_Routine)
  | .t77 l => some l
  | _ => none
def LX.g83 : LX → Option (List api_Stmt)
  | .t83 l => some l
  | _ => none
def LX.g85 : LX → Option (List api_Value)
  | .t85 l => some l
  | _ => none
def LX.g134 : LX → Option (List api_Field)
  | .t134 l => some l
  | _ => none
def LX.g159 : LX → Option (List api_ResourceDecl)
  | .t159 l => some l
  | _ => none
def LX.g164 : LX → Option (List api_StoreDecl)
  | .t164 l => some l
  | _ => none
def LX.g168 : LX → Option (List api_BeltDecl)
  | .t168 l => some l
  | _ => none
def LX.g195 : LX → Option (List api_Start)
  | .t195 l => some l
  | _ => none
def LX.g201 : LX → Option (List api_Link)
  | .t201 l => some l
  | _ => none
def LX.g202 : LX → Option (List Arr2_ByteArray)
  | .t202 l => some l
  | _ => none
def LX.g216 : LX → Option (List api_Change)
  | .t216 l => some l
  | _ => none
def LX.g223 : LX → Option (List api_Law)
  | .t223 l => some l
  | _ => none
def LX.g226 : LX → Option (List api_Term)
  | .t226 l => some l
  | _ => none
def LX.g246 : LX → Option (List St_is_name)
  | .t246 l => some l
  | _ => none
def LX.g248 : LX → Option (List St_is_e)
  | .t248 l => some l
  | _ => none
def optK {α : Type} (K : α → LX) (o : Option α) : Option LX := match o with
  | some l => some (K l)
  | none => none
def optS {α : Type} (b : Bool) (K : α → LX) (o : Option α) : Option LX := match b, o with
  | true, some l => some (K l)
  | _, _ => none
def LX.cat (x y : LX) : Option LX := match x with
  | .t3 l => optK (fun m => .t3 (l ++ m)) y.g3
  | .t4 l => optK (fun m => .t4 (l ++ m)) y.g4
  | .t9 l => optK (fun m => .t9 (l ++ m)) y.g9
  | .t25 l => optK (fun m => .t25 (l ++ m)) y.g25
  | .t34 l => optK (fun m => .t34 (l ++ m)) y.g34
  | .t43 l => optK (fun m => .t43 (l ++ m)) y.g43
  | .t47 l => optK (fun m => .t47 (l ++ m)) y.g47
  | .t68 l => optK (fun m => .t68 (l ++ m)) y.g68
  | .t77 l => optK (fun m => .t77 (l ++ m)) y.g77
  | .t83 l => optK (fun m => .t83 (l ++ m)) y.g83
  | .t85 l => optK (fun m => .t85 (l ++ m)) y.g85
  | .t134 l => optK (fun m => .t134 (l ++ m)) y.g134
  | .t159 l => optK (fun m => .t159 (l ++ m)) y.g159
  | .t164 l => optK (fun m => .t164 (l ++ m)) y.g164
  | .t168 l => optK (fun m => .t168 (l ++ m)) y.g168
  | .t195 l => optK (fun m => .t195 (l ++ m)) y.g195
  | .t201 l => optK (fun m => .t201 (l ++ m)) y.g201
  | .t202 l => optK (fun m => .t202 (l ++ m)) y.g202
  | .t216 l => optK (fun m => .t216 (l ++ m)) y.g216
  | .t223 l => optK (fun m => .t223 (l ++ m)) y.g223
  | .t226 l => optK (fun m => .t226 (l ++ m)) y.g226
  | .t246 l => optK (fun m => .t246 (l ++ m)) y.g246
  | .t248 l => optK (fun m => .t248 (l ++ m)) y.g248
def LX.sub (x : LX) (a b : Nat) : LX := match x with
  | .t3 l => .t3 ((l.take b).drop a)
  | .t4 l => .t4 ((l.take b).drop a)
  | .t9 l => .t9 ((l.take b).drop a)
  | .t25 l => .t25 ((l.take b).drop a)
  | .t34 l => .t34 ((l.take b).drop a)
  | .t43 l => .t43 ((l.take b).drop a)
  | .t47 l => .t47 ((l.take b).drop a)
  | .t68 l => .t68 ((l.take b).drop a)
  | .t77 l => .t77 ((l.take b).drop a)
  | .t83 l => .t83 ((l.take b).drop a)
  | .t85 l => .t85 ((l.take b).drop a)
  | .t134 l => .t134 ((l.take b).drop a)
  | .t159 l => .t159 ((l.take b).drop a)
  | .t164 l => .t164 ((l.take b).drop a)
  | .t168 l => .t168 ((l.take b).drop a)
  | .t195 l => .t195 ((l.take b).drop a)
  | .t201 l => .t201 ((l.take b).drop a)
  | .t202 l => .t202 ((l.take b).drop a)
  | .t216 l => .t216 ((l.take b).drop a)
  | .t223 l => .t223 ((l.take b).drop a)
  | .t226 l => .t226 ((l.take b).drop a)
  | .t246 l => .t246 ((l.take b).drop a)
  | .t248 l => .t248 ((l.take b).drop a)
def LX.rep (x : LX) (n : Nat) : LX := match x with
  | .t3 l => .t3 (List.replicate n (l.getD 0 default))
  | .t4 l => .t4 (List.replicate n (l.getD 0 default))
  | .t9 l => .t9 (List.replicate n (l.getD 0 default))
  | .t25 l => .t25 (List.replicate n (l.getD 0 default))
  | .t34 l => .t34 (List.replicate n (l.getD 0 default))
  | .t43 l => .t43 (List.replicate n (l.getD 0 default))
  | .t47 l => .t47 (List.replicate n (l.getD 0 default))
  | .t68 l => .t68 (List.replicate n (l.getD 0 default))
  | .t77 l => .t77 (List.replicate n (l.getD 0 default))
  | .t83 l => .t83 (List.replicate n (l.getD 0 default))
  | .t85 l => .t85 (List.replicate n (l.getD 0 default))
  | .t134 l => .t134 (List.replicate n (l.getD 0 default))
  | .t159 l => .t159 (List.replicate n (l.getD 0 default))
  | .t164 l => .t164 (List.replicate n (l.getD 0 default))
  | .t168 l => .t168 (List.replicate n (l.getD 0 default))
  | .t195 l => .t195 (List.replicate n (l.getD 0 default))
  | .t201 l => .t201 (List.replicate n (l.getD 0 default))
  | .t202 l => .t202 (List.replicate n (l.getD 0 default))
  | .t216 l => .t216 (List.replicate n (l.getD 0 default))
  | .t223 l => .t223 (List.replicate n (l.getD 0 default))
  | .t226 l => .t226 (List.replicate n (l.getD 0 default))
  | .t246 l => .t246 (List.replicate n (l.getD 0 default))
  | .t248 l => .t248 (List.replicate n (l.getD 0 default))
def LX.nil (e : Nat) : Option LX := match Nat.beq e 3 with
  | true => some (.t3 [])
  | false => match Nat.beq e 4 with
  | true => some (.t4 [])
  | false => match Nat.beq e 9 with
  | true => some (.t9 [])
  | false => match Nat.beq e 25 with
  | true => some (.t25 [])
  | false => match Nat.beq e 34 with
  | true => some (.t34 [])
  | false => match Nat.beq e 43 with
  | true => some (.t43 [])
  | false => match Nat.beq e 47 with
  | true => some (.t47 [])
  | false => match Nat.beq e 68 with
  | true => some (.t68 [])
  | false => match Nat.beq e 77 with
  | true => some (.t77 [])
  | false => match Nat.beq e 83 with
  | true => some (.t83 [])
  | false => match Nat.beq e 85 with
  | true => some (.t85 [])
  | false => match Nat.beq e 134 with
  | true => some (.t134 [])
  | false => match Nat.beq e 159 with
  | true => some (.t159 [])
  | false => match Nat.beq e 164 with
  | true => some (.t164 [])
  | false => match Nat.beq e 168 with
  | true => some (.t168 [])
  | false => match Nat.beq e 195 with
  | true => some (.t195 [])
  | false => match Nat.beq e 201 with
  | true => some (.t201 [])
  | false => match Nat.beq e 202 with
  | true => some (.t202 [])
  | false => match Nat.beq e 216 with
  | true => some (.t216 [])
  | false => match Nat.beq e 223 with
  | true => some (.t223 [])
  | false => match Nat.beq e 226 with
  | true => some (.t226 [])
  | false => match Nat.beq e 246 with
  | true => some (.t246 [])
  | false => match Nat.beq e 248 with
  | true => some (.t248 [])
  | false => none
end Go.Proofs.YtonfmpiikdmndaaGreat.Ev
