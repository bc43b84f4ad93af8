/-  The types of the data, and of rows of them. -/
import Derived.Test.YtpdlcbmnmeihoaaGreatDoorRows
import Derived.WalkKit
import Derived.LoopN
import Derived.Great.BuildSlice
import Derived.Deep.Draws
import Derived.Laws.BytesArg
set_option linter.unusedVariables false
set_option linter.unusedSimpArgs false
set_option linter.unnecessarySimpa false
namespace Go.Proofs.YtpdlcbmnmeihoaaGreatDoor.Ev
open Go
structure Arr2_ByteArray where
  a0 : ByteArray
  a1 : ByteArray
  deriving Inhabited
structure Arr2_Int where
  a0 : Int
  a1 : Int
  deriving Inhabited
structure Arr3_Int where
  a0 : Int
  a1 : Int
  a2 : Int
  deriving Inhabited
structure R17_Form where
  Word : ByteArray
  A : ByteArray
  B : ByteArray
  C : Bool
  E : Bool
  F : Bool
  Flag : Bool
  Args : Bool
  Dist : Bool
  deriving Inhabited
inductive api_Expr where
  | mk (Op : Int) (Name : ByteArray) (N : Int) (Kids : (List api_Expr))
instance : Inhabited api_Expr := ⟨.mk 0 ByteArray.empty 0 []⟩
def api_Expr.Op : api_Expr → Int | .mk x _ _ _ => x
def api_Expr.Name : api_Expr → ByteArray | .mk _ x _ _ => x
def api_Expr.N : api_Expr → Int | .mk _ _ x _ => x
def api_Expr.Kids : api_Expr → (List api_Expr) | .mk _ _ _ x => x
def api_Expr.cp (x : api_Expr) : api_Expr := .mk x.Op x.Name x.N x.Kids
theorem api_Expr.cp_eq (x : api_Expr) : api_Expr.cp x = x := by cases x; rfl
theorem api_Expr.eta (x : api_Expr) : api_Expr.mk x.Op x.Name x.N x.Kids = x := by cases x; rfl
structure St_is_e where
  u_is : Bool
  u_e : api_Expr
  deriving Inhabited
structure St_is_name where
  u_is : Bool
  u_name : ByteArray
  deriving Inhabited
structure api_Arc where
  From : Int
  To : Int
  Delay : Int
  deriving Inhabited
structure api_Rider where
  Proc : Int
  Entry : Int
  Exit : Int
  deriving Inhabited
structure api_Belt where
  Length : Int
  Step : Int
  Riders : (List api_Rider)
  Last : Int
  deriving Inhabited
structure api_BeltDecl where
  Name : ByteArray
  Length : Int
  Step : Int
  deriving Inhabited
structure api_Change where
  At : Int
  Units : Int
  deriving Inhabited
structure api_Claim where
  Proc : Int
  Units : Int
  Prio : Int
  Seq : Int
  Preempt : Bool
  deriving Inhabited
structure api_Dist where
  Op : Int
  A : Int
  B : Int
  N : Int
  Values : (List Int)
  Weights : (List Int)
  deriving Inhabited
structure api_Instr where
  Op : Int
  A : Int
  B : Int
  C : Int
  E : api_Expr
  F : api_Expr
  Args : (List api_Expr)
  Dist : api_Dist
  Flag : Bool
  deriving Inhabited
structure api_Code where
  Name : ByteArray
  Params : Int
  Slots : Int
  Instrs : (List api_Instr)
  deriving Inhabited
structure api_Event where
  Time : Int
  Prio : Int
  From : Int
  Seq : Int
  Site : Int
  Kind : Int
  A : Int
  B : Int
  Args : (List Int)
  deriving Inhabited
structure api_Fault where
  Stream : ByteArray
  Up : api_Dist
  Down : api_Dist
  deriving Inhabited
structure api_Field where
  Name : ByteArray
  Type_ : Int
  deriving Inhabited
structure api_Term where
  Coef : Int
  What : ByteArray
  Name : ByteArray
  deriving Inhabited
structure api_Law where
  Name : ByteArray
  Terms : (List api_Term)
  Total : Int
  deriving Inhabited
structure api_Level where
  Value : Int
  Since : Int
  Begin : Int
  Area : Int
  Min : Int
  Max : Int
  deriving Inhabited
structure api_Link where
  From : ByteArray
  To : ByteArray
  Delay : Int
  deriving Inhabited
structure api_ResourceDecl where
  Name : ByteArray
  Units : Int
  Shift : (List api_Change)
  Cycle : Int
  Fault : api_Fault
  deriving Inhabited
inductive api_Stmt where
  | mk (Op : Int) (Name : ByteArray) (Of : ByteArray) (E : api_Expr) (F : api_Expr) (Args : (List api_Expr)) (Dist : api_Dist) (Flag : Bool) (Body : (List api_Stmt)) (Else : (List api_Stmt))
instance : Inhabited api_Stmt := ⟨.mk 0 ByteArray.empty ByteArray.empty default default [] default false [] []⟩
def api_Stmt.Op : api_Stmt → Int | .mk x _ _ _ _ _ _ _ _ _ => x
def api_Stmt.Name : api_Stmt → ByteArray | .mk _ x _ _ _ _ _ _ _ _ => x
def api_Stmt.Of : api_Stmt → ByteArray | .mk _ _ x _ _ _ _ _ _ _ => x
def api_Stmt.E : api_Stmt → api_Expr | .mk _ _ _ x _ _ _ _ _ _ => x
def api_Stmt.F : api_Stmt → api_Expr | .mk _ _ _ _ x _ _ _ _ _ => x
def api_Stmt.Args : api_Stmt → (List api_Expr) | .mk _ _ _ _ _ x _ _ _ _ => x
def api_Stmt.Dist : api_Stmt → api_Dist | .mk _ _ _ _ _ _ x _ _ _ => x
def api_Stmt.Flag : api_Stmt → Bool | .mk _ _ _ _ _ _ _ x _ _ => x
def api_Stmt.Body : api_Stmt → (List api_Stmt) | .mk _ _ _ _ _ _ _ _ x _ => x
def api_Stmt.Else : api_Stmt → (List api_Stmt) | .mk _ _ _ _ _ _ _ _ _ x => x
def api_Stmt.cp (x : api_Stmt) : api_Stmt := .mk x.Op x.Name x.Of (api_Expr.cp x.E) (api_Expr.cp x.F) x.Args x.Dist x.Flag x.Body x.Else
theorem api_Stmt.cp_eq (x : api_Stmt) : api_Stmt.cp x = x := by cases x; simp only [api_Stmt.cp, api_Expr.cp_eq, api_Stmt.Op, api_Stmt.Name, api_Stmt.Of, api_Stmt.E, api_Stmt.F, api_Stmt.Args, api_Stmt.Dist, api_Stmt.Flag, api_Stmt.Body, api_Stmt.Else]
theorem api_Stmt.eta (x : api_Stmt) : api_Stmt.mk x.Op x.Name x.Of x.E x.F x.Args x.Dist x.Flag x.Body x.Else = x := by cases x; rfl
structure api_Routine where
  Name : ByteArray
  Params : (List api_Field)
  Locals : (List api_Field)
  Body : (List api_Stmt)
  deriving Inhabited
structure api_Start where
  Routine : ByteArray
  Args : (List Int)
  At : Int
  Every : Int
  Until : Int
  deriving Inhabited
structure api_StoreDecl where
  Name : ByteArray
  Room : Int
  Policy : Int
  deriving Inhabited
structure api_Value where
  Name : ByteArray
  Type_ : Int
  N : Int
  deriving Inhabited
structure api_SiteDecl where
  Name : ByteArray
  Vars : (List api_Value)
  Resources : (List api_ResourceDecl)
  Stores : (List api_StoreDecl)
  Belts : (List api_BeltDecl)
  Queues : (List ByteArray)
  Streams : (List ByteArray)
  Tallies : (List ByteArray)
  Levels : (List ByteArray)
  Counts : (List ByteArray)
  Routines : (List api_Routine)
  Starts : (List api_Start)
  Laws : (List api_Law)
  deriving Inhabited
structure api_Proc where
  Id : Int
  Routine : Int
  Pc : Int
  Slots : (List Int)
  Status : Int
  Born : Int
  Left : Int
  deriving Inhabited
structure api_SiteCode where
  Decl : api_SiteDecl
  Routines : (List api_Code)
  deriving Inhabited
structure api_Program where
  Name : ByteArray
  Sites : (List api_SiteCode)
  Links : (List api_Arc)
  deriving Inhabited
structure api_Ready where
  Proc : Int
  Item : Int
  deriving Inhabited
structure api_Resource where
  Units : Int
  Down : Bool
  Holders : (List api_Claim)
  Queue : (List api_Claim)
  Next : Int
  deriving Inhabited
structure api_Store where
  Room : Int
  Policy : Int
  Items : (List Int)
  Putters : (List api_Ready)
  Getters : (List Int)
  In : Int
  Out : Int
  deriving Inhabited
structure api_Stream where
  Key : Int
  Pos : Int
  Anti : Bool
  deriving Inhabited
structure api_Tally where
  N : Int
  Sum : Int
  Squares : Int
  Min : Int
  Max : Int
  deriving Inhabited
structure api_State where
  Site : Int
  Now : Int
  Seq : Int
  Agenda : (List api_Event)
  Procs : (List api_Proc)
  NextProc : Int
  Vars : (List Int)
  Resources : (List api_Resource)
  Stores : (List api_Store)
  Belts : (List api_Belt)
  Queues : (List (List Int))
  Streams : (List api_Stream)
  Tallies : (List api_Tally)
  Levels : (List api_Level)
  Counts : (List Int)
  Created : (List Int)
  Ended : (List Int)
  Dropped : Int
  deriving Inhabited
structure api_World where
  Sites : (List api_State)
  deriving Inhabited
structure checkpoint_reader where
  u_b : (List Int)
  u_bad : Bool
  deriving Inhabited
structure checkpoint_writer where
  u_b : (List Int)
  deriving Inhabited
structure code_form where
  u_word : ByteArray
  u_a : Int
  u_b : Int
  u_c : Bool
  u_e : Bool
  u_f : Bool
  u_args : Bool
  u_dist : Bool
  u_preempt : Bool
  deriving Inhabited
/-- a row of data of one type -/
inductive LX where
  | t3 (l : List Int)
  | t4 (l : List Bool)
  | t5 (l : List Int)
  | t9 (l : List ByteArray)
  | t29 (l : List (List Int))
  | t38 (l : List api_State)
  | t40 (l : List Int)
  | t59 (l : List (List api_Claim))
  | t61 (l : List api_Resource)
  | t65 (l : List api_Store)
  | t68 (l : List api_Belt)
  | t75 (l : List (List ByteArray))
  | t80 (l : List api_SiteDecl)
  | t83 (l : List api_SiteCode)
  | t86 (l : List api_Code)
  | t115 (l : List api_Expr)
  | t120 (l : List api_Instr)
  | t125 (l : List api_Event)
  | t131 (l : List api_Proc)
  | t149 (l : List api_Stream)
  | t154 (l : List api_Tally)
  | t159 (l : List api_Level)
  | t179 (l : List api_Ready)
  | t181 (l : List api_Rider)
  | t190 (l : List api_Claim)
  | t219 (l : List api_Value)
  | t222 (l : List (List api_Field))
  | t225 (l : List api_Routine)
  | t227 (l : List api_Arc)
  | t241 (l : List Arr2_Int)
  | t250 (l : List api_StoreDecl)
  | t253 (l : List api_BeltDecl)
  | t266 (l : List api_Start)
  | t270 (l : List api_Law)
  | t272 (l : List api_Link)
  | t296 (l : List api_ResourceDecl)
  | t309 (l : List Arr2_ByteArray)
  | t313 (l : List code_form)
  | t344 (l : List api_Field)
  | t347 (l : List api_Term)
  | t349 (l : List R17_Form)
  | t367 (l : List api_Change)
  | t408 (l : List api_Stmt)
  | t417 (l : List St_is_name)
  | t419 (l : List St_is_e)
  deriving Inhabited
def LX.e : LX → Nat
  | .t3 l => 3
  | .t4 l => 4
  | .t5 l => 5
  | .t9 l => 9
  | .t29 l => 29
  | .t38 l => 38
  | .t40 l => 40
  | .t59 l => 59
  | .t61 l => 61
  | .t65 l => 65
  | .t68 l => 68
  | .t75 l => 75
  | .t80 l => 80
  | .t83 l => 83
  | .t86 l => 86
  | .t115 l => 115
  | .t120 l => 120
  | .t125 l => 125
  | .t131 l => 131
  | .t149 l => 149
  | .t154 l => 154
  | .t159 l => 159
  | .t179 l => 179
  | .t181 l => 181
  | .t190 l => 190
  | .t219 l => 219
  | .t222 l => 222
  | .t225 l => 225
  | .t227 l => 227
  | .t241 l => 241
  | .t250 l => 250
  | .t253 l => 253
  | .t266 l => 266
  | .t270 l => 270
  | .t272 l => 272
  | .t296 l => 296
  | .t309 l => 309
  | .t313 l => 313
  | .t344 l => 344
  | .t347 l => 347
  | .t349 l => 349
  | .t367 l => 367
  | .t408 l => 408
  | .t417 l => 417
  | .t419 l => 419
def LX.sz : LX → Nat
  | .t3 l => 1
  | .t4 l => 1
  | .t5 l => 1
  | .t9 l => 1
  | .t29 l => 1
  | .t38 l => 18
  | .t40 l => 1
  | .t59 l => 1
  | .t61 l => 5
  | .t65 l => 7
  | .t68 l => 4
  | .t75 l => 1
  | .t80 l => 13
  | .t83 l => 14
  | .t86 l => 4
  | .t115 l => 4
  | .t120 l => 20
  | .t125 l => 9
  | .t131 l => 7
  | .t149 l => 3
  | .t154 l => 5
  | .t159 l => 6
  | .t179 l => 2
  | .t181 l => 3
  | .t190 l => 5
  | .t219 l => 3
  | .t222 l => 1
  | .t225 l => 4
  | .t227 l => 3
  | .t241 l => 2
  | .t250 l => 3
  | .t253 l => 3
  | .t266 l => 5
  | .t270 l => 3
  | .t272 l => 3
  | .t296 l => 17
  | .t309 l => 2
  | .t313 l => 9
  | .t344 l => 2
  | .t347 l => 3
  | .t349 l => 9
  | .t367 l => 2
  | .t408 l => 21
  | .t417 l => 2
  | .t419 l => 5
def LX.len : LX → Nat
  | .t3 l => l.length
  | .t4 l => l.length
  | .t5 l => l.length
  | .t9 l => l.length
  | .t29 l => l.length
  | .t38 l => l.length
  | .t40 l => l.length
  | .t59 l => l.length
  | .t61 l => l.length
  | .t65 l => l.length
  | .t68 l => l.length
  | .t75 l => l.length
  | .t80 l => l.length
  | .t83 l => l.length
  | .t86 l => l.length
  | .t115 l => l.length
  | .t120 l => l.length
  | .t125 l => l.length
  | .t131 l => l.length
  | .t149 l => l.length
  | .t154 l => l.length
  | .t159 l => l.length
  | .t179 l => l.length
  | .t181 l => l.length
  | .t190 l => l.length
  | .t219 l => l.length
  | .t222 l => l.length
  | .t225 l => l.length
  | .t227 l => l.length
  | .t241 l => l.length
  | .t250 l => l.length
  | .t253 l => l.length
  | .t266 l => l.length
  | .t270 l => l.length
  | .t272 l => l.length
  | .t296 l => l.length
  | .t309 l => l.length
  | .t313 l => l.length
  | .t344 l => l.length
  | .t347 l => l.length
  | .t349 l => l.length
  | .t367 l => l.length
  | .t408 l => l.length
  | .t417 l => l.length
  | .t419 l => l.length
def LX.g3 : LX → Option (List Int)
  | .t3 l => some l
  | _ => none
def LX.g4 : LX → Option (List Bool)
  | .t4 l => some l
  | _ => none
def LX.g5 : LX → Option (List Int)
  | .t5 l => some l
  | _ => none
def LX.g9 : LX → Option (List ByteArray)
  | .t9 l => some l
  | _ => none
def LX.g29 : LX → Option (List (List Int))
  | .t29 l => some l
  | _ => none
def LX.g38 : LX → Option (List api_State)
  | .t38 l => some l
  | _ => none
def LX.g40 : LX → Option (List Int)
  | .t40 l => some l
  | _ => none
def LX.g59 : LX → Option (List (List api_Claim))
  | .t59 l => some l
  | _ => none
def LX.g61 : LX → Option (List api_Resource)
  | .t61 l => some l
  | _ => none
def LX.g65 : LX → Option (List api_Store)
  | .t65 l => some l
  | _ => none
def LX.g68 : LX → Option (List api_Belt)
  | .t68 l => some l
  | _ => none
def LX.g75 : LX → Option (List (List ByteArray))
  | .t75 l => some l
  | _ => none
def LX.g80 : LX → Option (List api_SiteDecl)
  | .t80 l => some l
  | _ => none
def LX.g83 : LX → Option (List api_SiteCode)
  | .t83 l => some l
  | _ => none
def LX.g86 : LX → Option (List api_Code)
  | .t86 l => some l
  | _ => none
def LX.g115 : LX → Option (List api_Expr)
  | .t115 l => some l
  | _ => none
def LX.g120 : LX → Option (List api_Instr)
  | .t120 l => some l
  | _ => none
def LX.g125 : LX → Option (List api_Event)
  | .t125 l => some l
  | _ => none
def LX.g131 : LX → Option (List api_Proc)
  | .t131 l => some l
  | _ => none
def LX.g149 : LX → Option (List api_Stream)
  | .t149 l => some l
  | _ => none
def LX.g154 : LX → Option (List api_Tally)
  | .t154 l => some l
  | _ => none
def LX.g159 : LX → Option (List api_Level)
  | .t159 l => some l
  | _ => none
def LX.g179 : LX → Option (List api_Ready)
  | .t179 l => some l
  | _ => none
def LX.g181 : LX → Option (List api_Rider)
  | .t181 l => some l
  | _ => none
def LX.g190 : LX → Option (List api_Claim)
  | .t190 l => some l
  | _ => none
def LX.g219 : LX → Option (List api_Value)
  | .t219 l => some l
  | _ => none
def LX.g222 : LX → Option (List (List api_Field))
  | .t222 l => some l
  | _ => none
def LX.g225 : LX → Option (List api_Routine)
  | .t225 l => some l
  | _ => none
def LX.g227 : LX → Option (List api_Arc)
  | .t227 l => some l
  | _ => none
def LX.g241 : LX → Option (List Arr2_Int)
  | .t241 l => some l
  | _ => none
def LX.g250 : LX → Option (List api_StoreDecl)
  | .t250 l => some l
  | _ => none
def LX.g253 : LX → Option (List api_BeltDecl)
  | .t253 l => some l
  | _ => none
def LX.g266 : LX → Option (List api_Start)
  | .t266 l => some l
  | _ => none
def LX.g270 : LX → Option (List api_Law)
  | .t270 l => some l
  | _ => none
def LX.g272 : LX → Option (List api_Link)
  | .t272 l => some l
  | _ => none
def LX.g296 : LX → Option (List api_ResourceDecl)
  | .t296 l => some l
  | _ => none
def LX.g309 : LX → Option (List Arr2_ByteArray)
  | .t309 l => some l
  | _ => none
def LX.g313 : LX → Option (List code_form)
  | .t313 l => some l
  | _ => none
def LX.g344 : LX → Option (List api_Field)
  | .t344 l => some l
  | _ => none
def LX.g347 : LX → Option (List api_Term)
  | .t347 l => some l
  | _ => none
def LX.g349 : LX → Option (List R17_Form)
  | .t349 l => some l
  | _ => none
def LX.g367 : LX → Option (List api_Change)
  | .t367 l => some l
  | _ => none
def LX.g408 : LX → Option (List api_Stmt)
  | .t408 l => some l
  | _ => none
def LX.g417 : LX → Option (List St_is_name)
  | .t417 l => some l
  | _ => none
def LX.g419 : LX → Option (List St_is_e)
  | .t419 l => some l
  | _ => none
def optK {α : Type} (K : α → LX) (o : Option α) : Option LX := match o with
  | some l => some (K l)
  | none => none
def optS {α : Type} (b : Bool) (K : α → LX) (o : Option α) : Option LX := match b, o with
  | true, some l => some (K l)
  | _, _ => none
def LX.cat (x y : LX) : Option LX := match x with
  | .t3 l => optK (fun m => .t3 (l ++ m)) y.g3
  | .t4 l => optK (fun m => .t4 (l ++ m)) y.g4
  | .t5 l => optK (fun m => .t5 (l ++ m)) y.g5
  | .t9 l => optK (fun m => .t9 (l ++ m)) y.g9
  | .t29 l => optK (fun m => .t29 (l ++ m)) y.g29
  | .t38 l => optK (fun m => .t38 (l ++ m)) y.g38
  | .t40 l => optK (fun m => .t40 (l ++ m)) y.g40
  | .t59 l => optK (fun m => .t59 (l ++ m)) y.g59
  | .t61 l => optK (fun m => .t61 (l ++ m)) y.g61
  | .t65 l => optK (fun m => .t65 (l ++ m)) y.g65
  | .t68 l => optK (fun m => .t68 (l ++ m)) y.g68
  | .t75 l => optK (fun m => .t75 (l ++ m)) y.g75
  | .t80 l => optK (fun m => .t80 (l ++ m)) y.g80
  | .t83 l => optK (fun m => .t83 (l ++ m)) y.g83
  | .t86 l => optK (fun m => .t86 (l ++ m)) y.g86
  | .t115 l => optK (fun m => .t115 (l ++ m)) y.g115
  | .t120 l => optK (fun m => .t120 (l ++ m)) y.g120
  | .t125 l => optK (fun m => .t125 (l ++ m)) y.g125
  | .t131 l => optK (fun m => .t131 (l ++ m)) y.g131
  | .t149 l => optK (fun m => .t149 (l ++ m)) y.g149
  | .t154 l => optK (fun m => .t154 (l ++ m)) y.g154
  | .t159 l => optK (fun m => .t159 (l ++ m)) y.g159
  | .t179 l => optK (fun m => .t179 (l ++ m)) y.g179
  | .t181 l => optK (fun m => .t181 (l ++ m)) y.g181
  | .t190 l => optK (fun m => .t190 (l ++ m)) y.g190
  | .t219 l => optK (fun m => .t219 (l ++ m)) y.g219
  | .t222 l => optK (fun m => .t222 (l ++ m)) y.g222
  | .t225 l => optK (fun m => .t225 (l ++ m)) y.g225
  | .t227 l => optK (fun m => .t227 (l ++ m)) y.g227
  | .t241 l => optK (fun m => .t241 (l ++ m)) y.g241
  | .t250 l => optK (fun m => .t250 (l ++ m)) y.g250
  | .t253 l => optK (fun m => .t253 (l ++ m)) y.g253
  | .t266 l => optK (fun m => .t266 (l ++ m)) y.g266
  | .t270 l => optK (fun m => .t270 (l ++ m)) y.g270
  | .t272 l => optK (fun m => .t272 (l ++ m)) y.g272
  | .t296 l => optK (fun m => .t296 (l ++ m)) y.g296
  | .t309 l => optK (fun m => .t309 (l ++ m)) y.g309
  | .t313 l => optK (fun m => .t313 (l ++ m)) y.g313
  | .t344 l => optK (fun m => .t344 (l ++ m)) y.g344
  | .t347 l => optK (fun m => .t347 (l ++ m)) y.g347
  | .t349 l => optK (fun m => .t349 (l ++ m)) y.g349
  | .t367 l => optK (fun m => .t367 (l ++ m)) y.g367
  | .t408 l => optK (fun m => .t408 (l ++ m)) y.g408
  | .t417 l => optK (fun m => .t417 (l ++ m)) y.g417
  | .t419 l => optK (fun m => .t419 (l ++ m)) y.g419
def LX.sub (x : LX) (a b : Nat) : LX := match x with
  | .t3 l => .t3 ((l.take b).drop a)
  | .t4 l => .t4 ((l.take b).drop a)
  | .t5 l => .t5 ((l.take b).drop a)
  | .t9 l => .t9 ((l.take b).drop a)
  | .t29 l => .t29 ((l.take b).drop a)
  | .t38 l => .t38 ((l.take b).drop a)
  | .t40 l => .t40 ((l.take b).drop a)
  | .t59 l => .t59 ((l.take b).drop a)
  | .t61 l => .t61 ((l.take b).drop a)
  | .t65 l => .t65 ((l.take b).drop a)
  | .t68 l => .t68 ((l.take b).drop a)
  | .t75 l => .t75 ((l.take b).drop a)
  | .t80 l => .t80 ((l.take b).drop a)
  | .t83 l => .t83 ((l.take b).drop a)
  | .t86 l => .t86 ((l.take b).drop a)
  | .t115 l => .t115 ((l.take b).drop a)
  | .t120 l => .t120 ((l.take b).drop a)
  | .t125 l => .t125 ((l.take b).drop a)
  | .t131 l => .t131 ((l.take b).drop a)
  | .t149 l => .t149 ((l.take b).drop a)
  | .t154 l => .t154 ((l.take b).drop a)
  | .t159 l => .t159 ((l.take b).drop a)
  | .t179 l => .t179 ((l.take b).drop a)
  | .t181 l => .t181 ((l.take b).drop a)
  | .t190 l => .t190 ((l.take b).drop a)
  | .t219 l => .t219 ((l.take b).drop a)
  | .t222 l => .t222 ((l.take b).drop a)
  | .t225 l => .t225 ((l.take b).drop a)
  | .t227 l => .t227 ((l.take b).drop a)
  | .t241 l => .t241 ((l.take b).drop a)
  | .t250 l => .t250 ((l.take b).drop a)
  | .t253 l => .t253 ((l.take b).drop a)
  | .t266 l => .t266 ((l.take b).drop a)
  | .t270 l => .t270 ((l.take b).drop a)
  | .t272 l => .t272 ((l.take b).drop a)
  | .t296 l => .t296 ((l.take b).drop a)
  | .t309 l => .t309 ((l.take b).drop a)
  | .t313 l => .t313 ((l.take b).drop a)
  | .t344 l => .t344 ((l.take b).drop a)
  | .t347 l => .t347 ((l.take b).drop a)
  | .t349 l => .t349 ((l.take b).drop a)
  | .t367 l => .t367 ((l.take b).drop a)
  | .t408 l => .t408 ((l.take b).drop a)
  | .t417 l => .t417 ((l.take b).drop a)
  | .t419 l => .t419 ((l.take b).drop a)
def LX.rep (x : LX) (n : Nat) : LX := match x with
  | .t3 l => .t3 (List.replicate n (l.getD 0 default))
  | .t4 l => .t4 (List.replicate n (l.getD 0 default))
  | .t5 l => .t5 (List.replicate n (l.getD 0 default))
  | .t9 l => .t9 (List.replicate n (l.getD 0 default))
  | .t29 l => .t29 (List.replicate n (l.getD 0 default))
  | .t38 l => .t38 (List.replicate n (l.getD 0 default))
  | .t40 l => .t40 (List.replicate n (l.getD 0 default))
  | .t59 l => .t59 (List.replicate n (l.getD 0 default))
  | .t61 l => .t61 (List.replicate n (l.getD 0 default))
  | .t65 l => .t65 (List.replicate n (l.getD 0 default))
  | .t68 l => .t68 (List.replicate n (l.getD 0 default))
  | .t75 l => .t75 (List.replicate n (l.getD 0 default))
  | .t80 l => .t80 (List.replicate n (l.getD 0 default))
  | .t83 l => .t83 (List.replicate n (l.getD 0 default))
  | .t86 l => .t86 (List.replicate n (l.getD 0 default))
  | .t115 l => .t115 (List.replicate n (l.getD 0 default))
  | .t120 l => .t120 (List.replicate n (l.getD 0 default))
  | .t125 l => .t125 (List.replicate n (l.getD 0 default))
  | .t131 l => .t131 (List.replicate n (l.getD 0 default))
  | .t149 l => .t149 (List.replicate n (l.getD 0 default))
  | .t154 l => .t154 (List.replicate n (l.getD 0 default))
  | .t159 l => .t159 (List.replicate n (l.getD 0 default))
  | .t179 l => .t179 (List.replicate n (l.getD 0 default))
  | .t181 l => .t181 (List.replicate n (l.getD 0 default))
  | .t190 l => .t190 (List.replicate n (l.getD 0 default))
  | .t219 l => .t219 (List.replicate n (l.getD 0 default))
  | .t222 l => .t222 (List.replicate n (l.getD 0 default))
  | .t225 l => .t225 (List.replicate n (l.getD 0 default))
  | .t227 l => .t227 (List.replicate n (l.getD 0 default))
  | .t241 l => .t241 (List.replicate n (l.getD 0 default))
  | .t250 l => .t250 (List.replicate n (l.getD 0 default))
  | .t253 l => .t253 (List.replicate n (l.getD 0 default))
  | .t266 l => .t266 (List.replicate n (l.getD 0 default))
  | .t270 l => .t270 (List.replicate n (l.getD 0 default))
  | .t272 l => .t272 (List.replicate n (l.getD 0 default))
  | .t296 l => .t296 (List.replicate n (l.getD 0 default))
  | .t309 l => .t309 (List.replicate n (l.getD 0 default))
  | .t313 l => .t313 (List.replicate n (l.getD 0 default))
  | .t344 l => .t344 (List.replicate n (l.getD 0 default))
  | .t347 l => .t347 (List.replicate n (l.getD 0 default))
  | .t349 l => .t349 (List.replicate n (l.getD 0 default))
  | .t367 l => .t367 (List.replicate n (l.getD 0 default))
  | .t408 l => .t408 (List.replicate n (l.getD 0 default))
  | .t417 l => .t417 (List.replicate n (l.getD 0 default))
  | .t419 l => .t419 (List.replicate n (l.getD 0 default))
end Go.Proofs.YtpdlcbmnmeihoaaGreatDoor.Ev
namespace Go.Proofs.YtpdlcbmnmeihoaaGreatDoor.Ev
open Go
/-- What a slot holds. ('arrO', 'mapO': what a row of ours, a map of ours holds; never in a slot.) -/
inductive PV where
  | any
  | val (v : Value)
  | agg (l : List PV)
  | tup (l : List PV)
  | sl (own : Bool) (e sz : Nat) (es : List (List PV))
  | lst (own : Bool) (x : LX)
  | ref (l : List PV)
  | loc (d off : Nat)
  | el (d sz i off : Nat)
  | vw (c : Bool) (d e sz n : Nat)
  | mp (d : Nat)
  | clo (f n : Nat) (caps : List PV)
  | arrO (x : LX)
  | mapO (gk gv : Bool) (ks vs : LX)
  | mapE (es : Array MapEntry) (clock : Nat) (gk gv : Bool) (ks vs : LX)
  deriving Inhabited
def PV.view : PV → PV
  | .sl _ e sz es => .sl false e sz es
  | .lst _ x => .lst false x
  | p => p
/-- data that mention no variable of ours -/
def PV.flat : PV → Bool
  | .any => true
  | .val _ => true
  | .lst _ _ => true
  | _ => false
/-- 'q' says no more than 'p' -/
inductive PV.Le : PV → PV → Prop
  | view (p : PV) : PV.Le p p.view
  | nil (own : Bool) (y : LX) (h : y.len = 0) : PV.Le (.val (.slice none 0 0)) (.lst own y)
def setN (l : List PV) (off : Nat) (new : List PV) : List PV := match l, off, new with
  | [], _, _ => []
  | l, _, [] => l
  | _ :: r, 0, q :: new => q :: setN r 0 new
  | p :: r, n + 1, new => p :: setN r n new
/-- are two keys alike? -/
def same1 : PV → PV → Option Bool
  | .val (.int k a), .val (.int k' b) => match decide (k = k') with
    | true => some (a == b)
    | false => none
  | .val (.string a), .val (.string b) => some (a == b)
  | .val (.bool a), .val (.bool b) => some (a == b)
  | _, _ => none
def sameL : PV → List PV → PV → List PV → Option Bool
  | a, [], b, [] => same1 a b
  | a, a' :: l, b, b' :: m => match same1 a b, sameL a' l b' m with
    | some x, some y => some (x && y)
    | _, _ => none
  | _, _, _, _ => none
def sameV : List PV → List PV → Option Bool
  | a :: l, b :: m => sameL a l b m
  | _, _ => none
end Go.Proofs.YtpdlcbmnmeihoaaGreatDoor.Ev
namespace Go.Proofs.YtpdlcbmnmeihoaaGreatDoor.Ev
open Go
def lenGe0 (l : List PV) (n : Nat) : Bool := match l, n with
  | _, 0 => true
  | _ :: r, n + 1 => lenGe0 r n
  | _, _ => false
def dInt (k : IntKind) : PV → Option Int
  | .val (.int k' a) => match decide (k' = k) with
    | true => some a
    | false => none
  | _ => none
def dBool : PV → Option Bool
  | .val (.bool a) => some a
  | _ => none
def dStr : PV → Option ByteArray
  | .val (.string a) => some a
  | _ => none
inductive RowLe : List PV → List PV → Prop
  | nil : RowLe [] []
  | cons {p q : PV} {r s : List PV} (h : PV.Le p q) (hr : RowLe r s) : RowLe (p :: r) (q :: s)
theorem dInt_le {k : IntKind} {p : PV} {a : Int} (h : dInt k p = some a) : PV.Le p (.val (.int k a)) := by
  unfold dInt at h
  split at h
  · split at h
    · rename_i hk
      have := of_decide_eq_true hk
      subst this
      injection h with h; subst h; exact .view _
    · cases h
  · cases h
theorem dBool_le {p : PV} {a : Bool} (h : dBool p = some a) : PV.Le p (.val (.bool a)) := by
  unfold dBool at h
  split at h
  · injection h with h; subst h; exact .view _
  · cases h
theorem dStr_le {p : PV} {a : ByteArray} (h : dStr p = some a) : PV.Le p (.val (.string a)) := by
  unfold dStr at h
  split at h
  · injection h with h; subst h; exact .view _
  · cases h
def decs {α : Type} (d : List PV → Option α) : List (List PV) → Option (List α)
  | [] => some []
  | r :: rs => match d r, decs d rs with
    | some a, some l => some (a :: l)
    | _, _ => none
theorem decs_spec {α : Type} [Inhabited α] {d : List PV → Option α} {row : α → List PV} (hd : ∀ r a, d r = some a → RowLe r (row a)) : ∀ (rs : List (List PV)) (l : List α), decs d rs = some l →
    l.length = rs.length ∧ ∀ (i : Nat) (r : List PV), rs[i]? = some r → RowLe r (row (l.getD i default))
  | [], l, h => by
    simp only [decs, Option.some.injEq] at h
    subst h
    exact ⟨rfl, fun i r hr => by simp at hr⟩
  | r :: rs, l, h => by
    simp only [decs] at h
    split at h
    · rename_i a m h1 h2
      injection h with h
      subst h
      obtain ⟨q1, q2⟩ := decs_spec hd rs m h2
      refine ⟨by simp [q1], fun i x hx => ?_⟩
      cases i with
      | zero => simp at hx; subst hx; simpa using hd _ _ h1
      | succ i => simpa using q2 i x (by simpa using hx)
    · cases h
def flats : List PV → Bool
  | [] => true
  | p :: r => match p.flat with
    | true => flats r
    | false => false
theorem flats_mem : ∀ (l : List PV), flats l = true → ∀ p ∈ l, p.flat = true
  | [], _, p, h => by cases h
  | q :: r, h, p, hp => by
    simp only [flats] at h
    cases hq : q.flat with
    | false => rw [hq] at h; cases h
    | true =>
      rw [hq] at h
      rcases List.mem_cons.1 hp with e | e
      · subst e; exact hq
      · exact flats_mem r h p e
/-- one cell, read -/
structure CD (α : Type) where
  d : PV → Option α
  w : α → PV
  le : ∀ {p a}, d p = some a → PV.Le p (w a)
  fl : ∀ a, (w a).flat = true
def oI (k : IntKind) : CD Int := ⟨dInt k, fun x => .val (.int k x), dInt_le, fun _ => rfl⟩
def oB : CD Bool := ⟨dBool, fun x => .val (.bool x), dBool_le, fun _ => rfl⟩
def oT : CD ByteArray := ⟨dStr, fun x => .val (.string x), dStr_le, fun _ => rfl⟩
/-- rows of one type -/
class TL {α : Type} (K : List α → LX) (g : outParam (LX → Option (List α))) (u z : outParam Nat) : Prop where
  e : ∀ l, (K l).e = u := by intro l; rfl
  sz : ∀ l, (K l).sz = z := by intro l; rfl
  len : ∀ l, (K l).len = l.length := by intro l; rfl
  gk : ∀ y m, g y = some m → y = K m := by intro y m h; cases y <;> first | (injection h with h; subst h; rfl) | cases h
  of : ∀ x, x.e = u → ∃ l, x = K l := by intro x h; cases x <;> first | exact ⟨_, rfl⟩ | (simp [LX.e] at h)
def dL {α : Type} (g : LX → Option (List α)) : PV → Option (List α)
  | .lst _ x => g x
  | .val (.slice none 0 0) => some []
  | _ => none
def oW {α : Type} (K : List α → LX) {g : LX → Option (List α)} {e sz : Nat} [k : TL K g e sz] : CD (List α) := ⟨dL g, fun x => .lst false (K x), fun {p a} h => (by
  unfold dL at h
  split at h
  · rw [k.gk _ _ h]; exact .view _
  · injection h with h; subst h; exact .nil false _ (k.len _)
  · cases h), fun _ => rfl⟩
/-- a row of cells, read -/
structure RF (α : Type) where
  d : List PV → Option α
  w : α → List PV
  le : ∀ r a, d r = some a → RowLe r (w a)
  fl : ∀ a, flats (w a) = true
def CD.o {α : Type} (c : CD α) : RF α := ⟨fun
  | [p] => c.d p
  | _ => none, fun a => [c.w a], fun r a h => (by
  split at h
  · exact .cons (c.le h) .nil
  · cases h), fun a => by simp only [flats, c.fl]⟩
def CD.c {α β : Type} (c : CD α) (f : RF β) : RF (α × β) := ⟨fun
  | p :: r => match c.d p, f.d r with
    | some a, some b => some (a, b)
    | _, _ => none
  | _ => none, fun a => c.w a.1 :: f.w a.2, fun r a h => (by
  split at h
  · split at h
    · rename_i h1 h2
      injection h with h; subst h
      exact .cons (c.le h1) (f.le _ _ h2)
    · cases h
  · cases h), fun a => by simp only [flats, c.fl, f.fl]⟩
def RF.to {α β : Type} (f : RF α) (g : α → β) (w : β → List PV) (h : ∀ a, w (g a) = f.w a := by intro a; rfl) (h2 : ∀ a, flats (w a) = true := by intro a; rfl) : RF β := ⟨fun r => match f.d r with
  | some a => some (g a)
  | none => none, w, fun r a hh => (by
  split at hh
  · rename_i h1
    injection hh with hh; subst hh
    rw [h]; exact f.le _ _ h1
  · cases hh), h2⟩
instance : TL LX.t3 LX.g3 3 1 := {}
instance : TL LX.t4 LX.g4 4 1 := {}
instance : TL LX.t5 LX.g5 5 1 := {}
instance : TL LX.t9 LX.g9 9 1 := {}
instance : TL LX.t29 LX.g29 29 1 := {}
instance : TL LX.t38 LX.g38 38 18 := {}
instance : TL LX.t40 LX.g40 40 1 := {}
instance : TL LX.t59 LX.g59 59 1 := {}
instance : TL LX.t61 LX.g61 61 5 := {}
instance : TL LX.t65 LX.g65 65 7 := {}
instance : TL LX.t68 LX.g68 68 4 := {}
instance : TL LX.t75 LX.g75 75 1 := {}
instance : TL LX.t80 LX.g80 80 13 := {}
instance : TL LX.t83 LX.g83 83 14 := {}
instance : TL LX.t86 LX.g86 86 4 := {}
instance : TL LX.t115 LX.g115 115 4 := {}
instance : TL LX.t120 LX.g120 120 20 := {}
instance : TL LX.t125 LX.g125 125 9 := {}
instance : TL LX.t131 LX.g131 131 7 := {}
instance : TL LX.t149 LX.g149 149 3 := {}
instance : TL LX.t154 LX.g154 154 5 := {}
instance : TL LX.t159 LX.g159 159 6 := {}
instance : TL LX.t179 LX.g179 179 2 := {}
instance : TL LX.t181 LX.g181 181 3 := {}
instance : TL LX.t190 LX.g190 190 5 := {}
instance : TL LX.t219 LX.g219 219 3 := {}
instance : TL LX.t222 LX.g222 222 1 := {}
instance : TL LX.t225 LX.g225 225 4 := {}
instance : TL LX.t227 LX.g227 227 3 := {}
instance : TL LX.t241 LX.g241 241 2 := {}
instance : TL LX.t250 LX.g250 250 3 := {}
instance : TL LX.t253 LX.g253 253 3 := {}
instance : TL LX.t266 LX.g266 266 5 := {}
instance : TL LX.t270 LX.g270 270 3 := {}
instance : TL LX.t272 LX.g272 272 3 := {}
instance : TL LX.t296 LX.g296 296 17 := {}
instance : TL LX.t309 LX.g309 309 2 := {}
instance : TL LX.t313 LX.g313 313 9 := {}
instance : TL LX.t344 LX.g344 344 2 := {}
instance : TL LX.t347 LX.g347 347 3 := {}
instance : TL LX.t349 LX.g349 349 9 := {}
instance : TL LX.t367 LX.g367 367 2 := {}
instance : TL LX.t408 LX.g408 408 21 := {}
instance : TL LX.t417 LX.g417 417 2 := {}
instance : TL LX.t419 LX.g419 419 5 := {}
def enapi_World (x : api_World) : List PV := [.lst false (.t38 x.Sites)]
def rd_api_World : RF api_World := RF.to ((oW LX.t38).o) (fun a0 => .mk a0) enapi_World
def enapi_State (x : api_State) : List PV := [.val (.int .i64 x.Site), .val (.int .i64 x.Now), .val (.int .i64 x.Seq), .lst false (.t125 x.Agenda), .lst false (.t131 x.Procs), .val (.int .i64 x.NextProc), .lst false (.t3 x.Vars), .lst false (.t61 x.Resources), .lst false (.t65 x.Stores), .lst false (.t68 x.Belts), .lst false (.t29 x.Queues), .lst false (.t149 x.Streams), .lst false (.t154 x.Tallies), .lst false (.t159 x.Levels), .lst false (.t3 x.Counts), .lst false (.t3 x.Created), .lst false (.t3 x.Ended), .val (.int .i64 x.Dropped)]
def rd_api_State : RF api_State := RF.to ((oI .i64).c ((oI .i64).c ((oI .i64).c ((oW LX.t125).c ((oW LX.t131).c ((oI .i64).c ((oW LX.t3).c ((oW LX.t61).c ((oW LX.t65).c ((oW LX.t68).c ((oW LX.t29).c ((oW LX.t149).c ((oW LX.t154).c ((oW LX.t159).c ((oW LX.t3).c ((oW LX.t3).c ((oW LX.t3).c ((oI .i64).o)))))))))))))))))) (fun (a0, a1, a2, a3, a4, a5, a6, a7, a8, a9, a10, a11, a12, a13, a14, a15, a16, a17) => .mk a0 a1 a2 a3 a4 a5 a6 a7 a8 a9 a10 a11 a12 a13 a14 a15 a16 a17) enapi_State
def enapi_Program (x : api_Program) : List PV := [.val (.string x.Name), .lst false (.t83 x.Sites), .lst false (.t227 x.Links)]
def rd_api_Program : RF api_Program := RF.to (oT.c ((oW LX.t83).c ((oW LX.t227).o))) (fun (a0, a1, a2) => .mk a0 a1 a2) enapi_Program
def enArr3_Int (x : Arr3_Int) : List PV := [.val (.int .u8 x.a0), .val (.int .u8 x.a1), .val (.int .u8 x.a2)]
def enapi_Resource (x : api_Resource) : List PV := [.val (.int .i64 x.Units), .val (.bool x.Down), .lst false (.t190 x.Holders), .lst false (.t190 x.Queue), .val (.int .i64 x.Next)]
def rd_api_Resource : RF api_Resource := RF.to ((oI .i64).c (oB.c ((oW LX.t190).c ((oW LX.t190).c ((oI .i64).o))))) (fun (a0, a1, a2, a3, a4) => .mk a0 a1 a2 a3 a4) enapi_Resource
def enapi_Store (x : api_Store) : List PV := [.val (.int .i64 x.Room), .val (.int .i64 x.Policy), .lst false (.t3 x.Items), .lst false (.t179 x.Putters), .lst false (.t3 x.Getters), .val (.int .i64 x.In), .val (.int .i64 x.Out)]
def rd_api_Store : RF api_Store := RF.to ((oI .i64).c ((oI .i64).c ((oW LX.t3).c ((oW LX.t179).c ((oW LX.t3).c ((oI .i64).c ((oI .i64).o))))))) (fun (a0, a1, a2, a3, a4, a5, a6) => .mk a0 a1 a2 a3 a4 a5 a6) enapi_Store
def enapi_Belt (x : api_Belt) : List PV := [.val (.int .i64 x.Length), .val (.int .i64 x.Step), .lst false (.t181 x.Riders), .val (.int .i64 x.Last)]
def rd_api_Belt : RF api_Belt := RF.to ((oI .i64).c ((oI .i64).c ((oW LX.t181).c ((oI .i64).o)))) (fun (a0, a1, a2, a3) => .mk a0 a1 a2 a3) enapi_Belt
def enapi_SiteDecl (x : api_SiteDecl) : List PV := [.val (.string x.Name), .lst false (.t219 x.Vars), .lst false (.t296 x.Resources), .lst false (.t250 x.Stores), .lst false (.t253 x.Belts), .lst false (.t9 x.Queues), .lst false (.t9 x.Streams), .lst false (.t9 x.Tallies), .lst false (.t9 x.Levels), .lst false (.t9 x.Counts), .lst false (.t225 x.Routines), .lst false (.t266 x.Starts), .lst false (.t270 x.Laws)]
def rd_api_SiteDecl : RF api_SiteDecl := RF.to (oT.c ((oW LX.t219).c ((oW LX.t296).c ((oW LX.t250).c ((oW LX.t253).c ((oW LX.t9).c ((oW LX.t9).c ((oW LX.t9).c ((oW LX.t9).c ((oW LX.t9).c ((oW LX.t225).c ((oW LX.t266).c ((oW LX.t270).o))))))))))))) (fun (a0, a1, a2, a3, a4, a5, a6, a7, a8, a9, a10, a11, a12) => .mk a0 a1 a2 a3 a4 a5 a6 a7 a8 a9 a10 a11 a12) enapi_SiteDecl
def enapi_SiteCode (x : api_SiteCode) : List PV := [.val (.string x.Decl.Name), .lst false (.t219 x.Decl.Vars), .lst false (.t296 x.Decl.Resources), .lst false (.t250 x.Decl.Stores), .lst false (.t253 x.Decl.Belts), .lst false (.t9 x.Decl.Queues), .lst false (.t9 x.Decl.Streams), .lst false (.t9 x.Decl.Tallies), .lst false (.t9 x.Decl.Levels), .lst false (.t9 x.Decl.Counts), .lst false (.t225 x.Decl.Routines), .lst false (.t266 x.Decl.Starts), .lst false (.t270 x.Decl.Laws), .lst false (.t86 x.Routines)]
def rd_api_SiteCode : RF api_SiteCode := RF.to (oT.c ((oW LX.t219).c ((oW LX.t296).c ((oW LX.t250).c ((oW LX.t253).c ((oW LX.t9).c ((oW LX.t9).c ((oW LX.t9).c ((oW LX.t9).c ((oW LX.t9).c ((oW LX.t225).c ((oW LX.t266).c ((oW LX.t270).c ((oW LX.t86).o)))))))))))))) (fun (a0, a1, a2, a3, a4, a5, a6, a7, a8, a9, a10, a11, a12, a13) => .mk (.mk a0 a1 a2 a3 a4 a5 a6 a7 a8 a9 a10 a11 a12) a13) enapi_SiteCode
def enapi_Code (x : api_Code) : List PV := [.val (.string x.Name), .val (.int .i64 x.Params), .val (.int .i64 x.Slots), .lst false (.t120 x.Instrs)]
def rd_api_Code : RF api_Code := RF.to (oT.c ((oI .i64).c ((oI .i64).c ((oW LX.t120).o)))) (fun (a0, a1, a2, a3) => .mk a0 a1 a2 a3) enapi_Code
def encheckpoint_reader (x : checkpoint_reader) : List PV := [.lst false (.t5 x.u_b), .val (.bool x.u_bad)]
def rd_checkpoint_reader : RF checkpoint_reader := RF.to ((oW LX.t5).c oB.o) (fun (a0, a1) => .mk a0 a1) encheckpoint_reader
def enapi_Expr (x : api_Expr) : List PV := [.val (.int .i64 x.Op), .val (.string x.Name), .val (.int .i64 x.N), .lst false (.t115 x.Kids)]
def rd_api_Expr : RF api_Expr := RF.to ((oI .i64).c (oT.c ((oI .i64).c ((oW LX.t115).o)))) (fun (a0, a1, a2, a3) => .mk a0 a1 a2 a3) enapi_Expr
def enapi_Dist (x : api_Dist) : List PV := [.val (.int .i64 x.Op), .val (.int .i64 x.A), .val (.int .i64 x.B), .val (.int .i64 x.N), .lst false (.t3 x.Values), .lst false (.t3 x.Weights)]
def enapi_Instr (x : api_Instr) : List PV := [.val (.int .i64 x.Op), .val (.int .i64 x.A), .val (.int .i64 x.B), .val (.int .i64 x.C), .val (.int .i64 x.E.Op), .val (.string x.E.Name), .val (.int .i64 x.E.N), .lst false (.t115 x.E.Kids), .val (.int .i64 x.F.Op), .val (.string x.F.Name), .val (.int .i64 x.F.N), .lst false (.t115 x.F.Kids), .lst false (.t115 x.Args), .val (.int .i64 x.Dist.Op), .val (.int .i64 x.Dist.A), .val (.int .i64 x.Dist.B), .val (.int .i64 x.Dist.N), .lst false (.t3 x.Dist.Values), .lst false (.t3 x.Dist.Weights), .val (.bool x.Flag)]
def rd_api_Instr : RF api_Instr := RF.to ((oI .i64).c ((oI .i64).c ((oI .i64).c ((oI .i64).c ((oI .i64).c (oT.c ((oI .i64).c ((oW LX.t115).c ((oI .i64).c (oT.c ((oI .i64).c ((oW LX.t115).c ((oW LX.t115).c ((oI .i64).c ((oI .i64).c ((oI .i64).c ((oI .i64).c ((oW LX.t3).c ((oW LX.t3).c oB.o))))))))))))))))))) (fun (a0, a1, a2, a3, a4, a5, a6, a7, a8, a9, a10, a11, a12, a13, a14, a15, a16, a17, a18, a19) => .mk a0 a1 a2 a3 (.mk a4 a5 a6 a7) (.mk a8 a9 a10 a11) a12 (.mk a13 a14 a15 a16 a17 a18) a19) enapi_Instr
def enapi_Event (x : api_Event) : List PV := [.val (.int .i64 x.Time), .val (.int .i64 x.Prio), .val (.int .i64 x.From), .val (.int .i64 x.Seq), .val (.int .i64 x.Site), .val (.int .i64 x.Kind), .val (.int .i64 x.A), .val (.int .i64 x.B), .lst false (.t3 x.Args)]
def rd_api_Event : RF api_Event := RF.to ((oI .i64).c ((oI .i64).c ((oI .i64).c ((oI .i64).c ((oI .i64).c ((oI .i64).c ((oI .i64).c ((oI .i64).c ((oW LX.t3).o))))))))) (fun (a0, a1, a2, a3, a4, a5, a6, a7, a8) => .mk a0 a1 a2 a3 a4 a5 a6 a7 a8) enapi_Event
def enapi_Proc (x : api_Proc) : List PV := [.val (.int .i64 x.Id), .val (.int .i64 x.Routine), .val (.int .i64 x.Pc), .lst false (.t3 x.Slots), .val (.int .i64 x.Status), .val (.int .i64 x.Born), .val (.int .i64 x.Left)]
def rd_api_Proc : RF api_Proc := RF.to ((oI .i64).c ((oI .i64).c ((oI .i64).c ((oW LX.t3).c ((oI .i64).c ((oI .i64).c ((oI .i64).o))))))) (fun (a0, a1, a2, a3, a4, a5, a6) => .mk a0 a1 a2 a3 a4 a5 a6) enapi_Proc
def enapi_Stream (x : api_Stream) : List PV := [.val (.int .u64 x.Key), .val (.int .i64 x.Pos), .val (.bool x.Anti)]
def rd_api_Stream : RF api_Stream := RF.to ((oI .u64).c ((oI .i64).c oB.o)) (fun (a0, a1, a2) => .mk a0 a1 a2) enapi_Stream
def enapi_Tally (x : api_Tally) : List PV := [.val (.int .i64 x.N), .val (.int .i64 x.Sum), .val (.int .i64 x.Squares), .val (.int .i64 x.Min), .val (.int .i64 x.Max)]
def rd_api_Tally : RF api_Tally := RF.to ((oI .i64).c ((oI .i64).c ((oI .i64).c ((oI .i64).c ((oI .i64).o))))) (fun (a0, a1, a2, a3, a4) => .mk a0 a1 a2 a3 a4) enapi_Tally
def enapi_Level (x : api_Level) : List PV := [.val (.int .i64 x.Value), .val (.int .i64 x.Since), .val (.int .i64 x.Begin), .val (.int .i64 x.Area), .val (.int .i64 x.Min), .val (.int .i64 x.Max)]
def rd_api_Level : RF api_Level := RF.to ((oI .i64).c ((oI .i64).c ((oI .i64).c ((oI .i64).c ((oI .i64).c ((oI .i64).o)))))) (fun (a0, a1, a2, a3, a4, a5) => .mk a0 a1 a2 a3 a4 a5) enapi_Level
def enapi_Ready (x : api_Ready) : List PV := [.val (.int .i64 x.Proc), .val (.int .i64 x.Item)]
def rd_api_Ready : RF api_Ready := RF.to ((oI .i64).c ((oI .i64).o)) (fun (a0, a1) => .mk a0 a1) enapi_Ready
def enapi_Rider (x : api_Rider) : List PV := [.val (.int .i64 x.Proc), .val (.int .i64 x.Entry), .val (.int .i64 x.Exit)]
def rd_api_Rider : RF api_Rider := RF.to ((oI .i64).c ((oI .i64).c ((oI .i64).o))) (fun (a0, a1, a2) => .mk a0 a1 a2) enapi_Rider
def enapi_Claim (x : api_Claim) : List PV := [.val (.int .i64 x.Proc), .val (.int .i64 x.Units), .val (.int .i64 x.Prio), .val (.int .i64 x.Seq), .val (.bool x.Preempt)]
def rd_api_Claim : RF api_Claim := RF.to ((oI .i64).c ((oI .i64).c ((oI .i64).c ((oI .i64).c oB.o)))) (fun (a0, a1, a2, a3, a4) => .mk a0 a1 a2 a3 a4) enapi_Claim
def enapi_Value (x : api_Value) : List PV := [.val (.string x.Name), .val (.int .i64 x.Type_), .val (.int .i64 x.N)]
def rd_api_Value : RF api_Value := RF.to (oT.c ((oI .i64).c ((oI .i64).o))) (fun (a0, a1, a2) => .mk a0 a1 a2) enapi_Value
def enapi_Routine (x : api_Routine) : List PV := [.val (.string x.Name), .lst false (.t344 x.Params), .lst false (.t344 x.Locals), .lst false (.t408 x.Body)]
def rd_api_Routine : RF api_Routine := RF.to (oT.c ((oW LX.t344).c ((oW LX.t344).c ((oW LX.t408).o)))) (fun (a0, a1, a2, a3) => .mk a0 a1 a2 a3) enapi_Routine
def enapi_Arc (x : api_Arc) : List PV := [.val (.int .i64 x.From), .val (.int .i64 x.To), .val (.int .i64 x.Delay)]
def rd_api_Arc : RF api_Arc := RF.to ((oI .i64).c ((oI .i64).c ((oI .i64).o))) (fun (a0, a1, a2) => .mk a0 a1 a2) enapi_Arc
def enArr2_Int (x : Arr2_Int) : List PV := [.val (.int .i64 x.a0), .val (.int .i64 x.a1)]
def rd_Arr2_Int : RF Arr2_Int := RF.to ((oI .i64).c ((oI .i64).o)) (fun (a0, a1) => .mk a0 a1) enArr2_Int
def enapi_StoreDecl (x : api_StoreDecl) : List PV := [.val (.string x.Name), .val (.int .i64 x.Room), .val (.int .i64 x.Policy)]
def rd_api_StoreDecl : RF api_StoreDecl := RF.to (oT.c ((oI .i64).c ((oI .i64).o))) (fun (a0, a1, a2) => .mk a0 a1 a2) enapi_StoreDecl
def enapi_BeltDecl (x : api_BeltDecl) : List PV := [.val (.string x.Name), .val (.int .i64 x.Length), .val (.int .i64 x.Step)]
def rd_api_BeltDecl : RF api_BeltDecl := RF.to (oT.c ((oI .i64).c ((oI .i64).o))) (fun (a0, a1, a2) => .mk a0 a1 a2) enapi_BeltDecl
def enapi_Start (x : api_Start) : List PV := [.val (.string x.Routine), .lst false (.t3 x.Args), .val (.int .i64 x.At), .val (.int .i64 x.Every), .val (.int .i64 x.Until)]
def rd_api_Start : RF api_Start := RF.to (oT.c ((oW LX.t3).c ((oI .i64).c ((oI .i64).c ((oI .i64).o))))) (fun (a0, a1, a2, a3, a4) => .mk a0 a1 a2 a3 a4) enapi_Start
def enapi_Law (x : api_Law) : List PV := [.val (.string x.Name), .lst false (.t347 x.Terms), .val (.int .i64 x.Total)]
def rd_api_Law : RF api_Law := RF.to (oT.c ((oW LX.t347).c ((oI .i64).o))) (fun (a0, a1, a2) => .mk a0 a1 a2) enapi_Law
def enapi_Link (x : api_Link) : List PV := [.val (.string x.From), .val (.string x.To), .val (.int .i64 x.Delay)]
def rd_api_Link : RF api_Link := RF.to (oT.c (oT.c ((oI .i64).o))) (fun (a0, a1, a2) => .mk a0 a1 a2) enapi_Link
def enapi_Fault (x : api_Fault) : List PV := [.val (.string x.Stream), .val (.int .i64 x.Up.Op), .val (.int .i64 x.Up.A), .val (.int .i64 x.Up.B), .val (.int .i64 x.Up.N), .lst false (.t3 x.Up.Values), .lst false (.t3 x.Up.Weights), .val (.int .i64 x.Down.Op), .val (.int .i64 x.Down.A), .val (.int .i64 x.Down.B), .val (.int .i64 x.Down.N), .lst false (.t3 x.Down.Values), .lst false (.t3 x.Down.Weights)]
def enapi_ResourceDecl (x : api_ResourceDecl) : List PV := [.val (.string x.Name), .val (.int .i64 x.Units), .lst false (.t367 x.Shift), .val (.int .i64 x.Cycle), .val (.string x.Fault.Stream), .val (.int .i64 x.Fault.Up.Op), .val (.int .i64 x.Fault.Up.A), .val (.int .i64 x.Fault.Up.B), .val (.int .i64 x.Fault.Up.N), .lst false (.t3 x.Fault.Up.Values), .lst false (.t3 x.Fault.Up.Weights), .val (.int .i64 x.Fault.Down.Op), .val (.int .i64 x.Fault.Down.A), .val (.int .i64 x.Fault.Down.B), .val (.int .i64 x.Fault.Down.N), .lst false (.t3 x.Fault.Down.Values), .lst false (.t3 x.Fault.Down.Weights)]
def rd_api_ResourceDecl : RF api_ResourceDecl := RF.to (oT.c ((oI .i64).c ((oW LX.t367).c ((oI .i64).c (oT.c ((oI .i64).c ((oI .i64).c ((oI .i64).c ((oI .i64).c ((oW LX.t3).c ((oW LX.t3).c ((oI .i64).c ((oI .i64).c ((oI .i64).c ((oI .i64).c ((oW LX.t3).c ((oW LX.t3).o))))))))))))))))) (fun (a0, a1, a2, a3, a4, a5, a6, a7, a8, a9, a10, a11, a12, a13, a14, a15, a16) => .mk a0 a1 a2 a3 (.mk a4 (.mk a5 a6 a7 a8 a9 a10) (.mk a11 a12 a13 a14 a15 a16))) enapi_ResourceDecl
def enArr2_ByteArray (x : Arr2_ByteArray) : List PV := [.val (.string x.a0), .val (.string x.a1)]
def rd_Arr2_ByteArray : RF Arr2_ByteArray := RF.to (oT.c oT.o) (fun (a0, a1) => .mk a0 a1) enArr2_ByteArray
def encode_form (x : code_form) : List PV := [.val (.string x.u_word), .val (.int .i64 x.u_a), .val (.int .i64 x.u_b), .val (.bool x.u_c), .val (.bool x.u_e), .val (.bool x.u_f), .val (.bool x.u_args), .val (.bool x.u_dist), .val (.bool x.u_preempt)]
def rd_code_form : RF code_form := RF.to (oT.c ((oI .i64).c ((oI .i64).c (oB.c (oB.c (oB.c (oB.c (oB.c oB.o)))))))) (fun (a0, a1, a2, a3, a4, a5, a6, a7, a8) => .mk a0 a1 a2 a3 a4 a5 a6 a7 a8) encode_form
def enapi_Field (x : api_Field) : List PV := [.val (.string x.Name), .val (.int .i64 x.Type_)]
def rd_api_Field : RF api_Field := RF.to (oT.c ((oI .i64).o)) (fun (a0, a1) => .mk a0 a1) enapi_Field
def enapi_Term (x : api_Term) : List PV := [.val (.int .i64 x.Coef), .val (.string x.What), .val (.string x.Name)]
def rd_api_Term : RF api_Term := RF.to ((oI .i64).c (oT.c oT.o)) (fun (a0, a1, a2) => .mk a0 a1 a2) enapi_Term
def enR17_Form (x : R17_Form) : List PV := [.val (.string x.Word), .val (.string x.A), .val (.string x.B), .val (.bool x.C), .val (.bool x.E), .val (.bool x.F), .val (.bool x.Flag), .val (.bool x.Args), .val (.bool x.Dist)]
def rd_R17_Form : RF R17_Form := RF.to (oT.c (oT.c (oT.c (oB.c (oB.c (oB.c (oB.c (oB.c oB.o)))))))) (fun (a0, a1, a2, a3, a4, a5, a6, a7, a8) => .mk a0 a1 a2 a3 a4 a5 a6 a7 a8) enR17_Form
def enapi_Change (x : api_Change) : List PV := [.val (.int .i64 x.At), .val (.int .i64 x.Units)]
def rd_api_Change : RF api_Change := RF.to ((oI .i64).c ((oI .i64).o)) (fun (a0, a1) => .mk a0 a1) enapi_Change
def enapi_Stmt (x : api_Stmt) : List PV := [.val (.int .i64 x.Op), .val (.string x.Name), .val (.string x.Of), .val (.int .i64 x.E.Op), .val (.string x.E.Name), .val (.int .i64 x.E.N), .lst false (.t115 x.E.Kids), .val (.int .i64 x.F.Op), .val (.string x.F.Name), .val (.int .i64 x.F.N), .lst false (.t115 x.F.Kids), .lst false (.t115 x.Args), .val (.int .i64 x.Dist.Op), .val (.int .i64 x.Dist.A), .val (.int .i64 x.Dist.B), .val (.int .i64 x.Dist.N), .lst false (.t3 x.Dist.Values), .lst false (.t3 x.Dist.Weights), .val (.bool x.Flag), .lst false (.t408 x.Body), .lst false (.t408 x.Else)]
def rd_api_Stmt : RF api_Stmt := RF.to ((oI .i64).c (oT.c (oT.c ((oI .i64).c (oT.c ((oI .i64).c ((oW LX.t115).c ((oI .i64).c (oT.c ((oI .i64).c ((oW LX.t115).c ((oW LX.t115).c ((oI .i64).c ((oI .i64).c ((oI .i64).c ((oI .i64).c ((oW LX.t3).c ((oW LX.t3).c (oB.c ((oW LX.t408).c ((oW LX.t408).o))))))))))))))))))))) (fun (a0, a1, a2, a3, a4, a5, a6, a7, a8, a9, a10, a11, a12, a13, a14, a15, a16, a17, a18, a19, a20) => .mk a0 a1 a2 (.mk a3 a4 a5 a6) (.mk a7 a8 a9 a10) a11 (.mk a12 a13 a14 a15 a16 a17) a18 a19 a20) enapi_Stmt
def enSt_is_name (x : St_is_name) : List PV := [.val (.bool x.u_is), .val (.string x.u_name)]
def rd_St_is_name : RF St_is_name := RF.to (oB.c oT.o) (fun (a0, a1) => .mk a0 a1) enSt_is_name
def enSt_is_e (x : St_is_e) : List PV := [.val (.bool x.u_is), .val (.int .i64 x.u_e.Op), .val (.string x.u_e.Name), .val (.int .i64 x.u_e.N), .lst false (.t115 x.u_e.Kids)]
def rd_St_is_e : RF St_is_e := RF.to (oB.c ((oI .i64).c (oT.c ((oI .i64).c ((oW LX.t115).o))))) (fun (a0, a1, a2, a3, a4) => .mk a0 (.mk a1 a2 a3 a4)) enSt_is_e
def lT {α : Type} (K : List α → LX) (f : RF α) (rs : List (List PV)) : Option LX := optK K (decs f.d rs)
def sT {α : Type} [Inhabited α] (K : List α → LX) (f : RF α) (l : List α) (i off : Nat) (c : List PV) : Option LX := optS (lenGe0 (f.w (l.getD i default)) (off + c.length)) (fun a => K (l.set i a)) (f.d (setN (f.w (l.getD i default)) off c))
def RF.r {α : Type} [Inhabited α] (f : RF α) (l : List α) (i : Nat) : List PV := f.w (l.getD i default)
def LX.row (x : LX) (i : Nat) : List PV := match x with
  | .t3 l => (oI .i64).o.r l i
  | .t4 l => oB.o.r l i
  | .t5 l => (oI .u8).o.r l i
  | .t9 l => oT.o.r l i
  | .t29 l => (oW LX.t3).o.r l i
  | .t38 l => rd_api_State.r l i
  | .t40 l => (oI .i64).o.r l i
  | .t59 l => (oW LX.t190).o.r l i
  | .t61 l => rd_api_Resource.r l i
  | .t65 l => rd_api_Store.r l i
  | .t68 l => rd_api_Belt.r l i
  | .t75 l => (oW LX.t9).o.r l i
  | .t80 l => rd_api_SiteDecl.r l i
  | .t83 l => rd_api_SiteCode.r l i
  | .t86 l => rd_api_Code.r l i
  | .t115 l => rd_api_Expr.r l i
  | .t120 l => rd_api_Instr.r l i
  | .t125 l => rd_api_Event.r l i
  | .t131 l => rd_api_Proc.r l i
  | .t149 l => rd_api_Stream.r l i
  | .t154 l => rd_api_Tally.r l i
  | .t159 l => rd_api_Level.r l i
  | .t179 l => rd_api_Ready.r l i
  | .t181 l => rd_api_Rider.r l i
  | .t190 l => rd_api_Claim.r l i
  | .t219 l => rd_api_Value.r l i
  | .t222 l => (oW LX.t344).o.r l i
  | .t225 l => rd_api_Routine.r l i
  | .t227 l => rd_api_Arc.r l i
  | .t241 l => rd_Arr2_Int.r l i
  | .t250 l => rd_api_StoreDecl.r l i
  | .t253 l => rd_api_BeltDecl.r l i
  | .t266 l => rd_api_Start.r l i
  | .t270 l => rd_api_Law.r l i
  | .t272 l => rd_api_Link.r l i
  | .t296 l => rd_api_ResourceDecl.r l i
  | .t309 l => rd_Arr2_ByteArray.r l i
  | .t313 l => rd_code_form.r l i
  | .t344 l => rd_api_Field.r l i
  | .t347 l => rd_api_Term.r l i
  | .t349 l => rd_R17_Form.r l i
  | .t367 l => rd_api_Change.r l i
  | .t408 l => rd_api_Stmt.r l i
  | .t417 l => rd_St_is_name.r l i
  | .t419 l => rd_St_is_e.r l i
def LX.set (x : LX) (i off : Nat) (c : List PV) : Option LX := match x with
  | .t3 l => sT .t3 (oI .i64).o l i off c
  | .t4 l => sT .t4 oB.o l i off c
  | .t5 l => sT .t5 (oI .u8).o l i off c
  | .t9 l => sT .t9 oT.o l i off c
  | .t29 l => sT .t29 (oW LX.t3).o l i off c
  | .t38 l => sT .t38 rd_api_State l i off c
  | .t40 l => sT .t40 (oI .i64).o l i off c
  | .t59 l => sT .t59 (oW LX.t190).o l i off c
  | .t61 l => sT .t61 rd_api_Resource l i off c
  | .t65 l => sT .t65 rd_api_Store l i off c
  | .t68 l => sT .t68 rd_api_Belt l i off c
  | .t75 l => sT .t75 (oW LX.t9).o l i off c
  | .t80 l => sT .t80 rd_api_SiteDecl l i off c
  | .t83 l => sT .t83 rd_api_SiteCode l i off c
  | .t86 l => sT .t86 rd_api_Code l i off c
  | .t115 l => sT .t115 rd_api_Expr l i off c
  | .t120 l => sT .t120 rd_api_Instr l i off c
  | .t125 l => sT .t125 rd_api_Event l i off c
  | .t131 l => sT .t131 rd_api_Proc l i off c
  | .t149 l => sT .t149 rd_api_Stream l i off c
  | .t154 l => sT .t154 rd_api_Tally l i off c
  | .t159 l => sT .t159 rd_api_Level l i off c
  | .t179 l => sT .t179 rd_api_Ready l i off c
  | .t181 l => sT .t181 rd_api_Rider l i off c
  | .t190 l => sT .t190 rd_api_Claim l i off c
  | .t219 l => sT .t219 rd_api_Value l i off c
  | .t222 l => sT .t222 (oW LX.t344).o l i off c
  | .t225 l => sT .t225 rd_api_Routine l i off c
  | .t227 l => sT .t227 rd_api_Arc l i off c
  | .t241 l => sT .t241 rd_Arr2_Int l i off c
  | .t250 l => sT .t250 rd_api_StoreDecl l i off c
  | .t253 l => sT .t253 rd_api_BeltDecl l i off c
  | .t266 l => sT .t266 rd_api_Start l i off c
  | .t270 l => sT .t270 rd_api_Law l i off c
  | .t272 l => sT .t272 rd_api_Link l i off c
  | .t296 l => sT .t296 rd_api_ResourceDecl l i off c
  | .t309 l => sT .t309 rd_Arr2_ByteArray l i off c
  | .t313 l => sT .t313 rd_code_form l i off c
  | .t344 l => sT .t344 rd_api_Field l i off c
  | .t347 l => sT .t347 rd_api_Term l i off c
  | .t349 l => sT .t349 rd_R17_Form l i off c
  | .t367 l => sT .t367 rd_api_Change l i off c
  | .t408 l => sT .t408 rd_api_Stmt l i off c
  | .t417 l => sT .t417 rd_St_is_name l i off c
  | .t419 l => sT .t419 rd_St_is_e l i off c
def tbl : List (Nat × (List (List PV) → Option LX)) := [(3, lT .t3 (oI .i64).o), (4, lT .t4 oB.o), (5, lT .t5 (oI .u8).o), (9, lT .t9 oT.o), (29, lT .t29 (oW LX.t3).o), (38, lT .t38 rd_api_State), (40, lT .t40 (oI .i64).o), (59, lT .t59 (oW LX.t190).o), (61, lT .t61 rd_api_Resource), (65, lT .t65 rd_api_Store), (68, lT .t68 rd_api_Belt), (75, lT .t75 (oW LX.t9).o), (80, lT .t80 rd_api_SiteDecl), (83, lT .t83 rd_api_SiteCode), (86, lT .t86 rd_api_Code), (115, lT .t115 rd_api_Expr), (120, lT .t120 rd_api_Instr), (125, lT .t125 rd_api_Event), (131, lT .t131 rd_api_Proc), (149, lT .t149 rd_api_Stream), (154, lT .t154 rd_api_Tally), (159, lT .t159 rd_api_Level), (179, lT .t179 rd_api_Ready), (181, lT .t181 rd_api_Rider), (190, lT .t190 rd_api_Claim), (219, lT .t219 rd_api_Value), (222, lT .t222 (oW LX.t344).o), (225, lT .t225 rd_api_Routine), (227, lT .t227 rd_api_Arc), (241, lT .t241 rd_Arr2_Int), (250, lT .t250 rd_api_StoreDecl), (253, lT .t253 rd_api_BeltDecl), (266, lT .t266 rd_api_Start), (270, lT .t270 rd_api_Law), (272, lT .t272 rd_api_Link), (296, lT .t296 rd_api_ResourceDecl), (309, lT .t309 rd_Arr2_ByteArray), (313, lT .t313 rd_code_form), (344, lT .t344 rd_api_Field), (347, lT .t347 rd_api_Term), (349, lT .t349 rd_R17_Form), (367, lT .t367 rd_api_Change), (408, lT .t408 rd_api_Stmt), (417, lT .t417 rd_St_is_name), (419, lT .t419 rd_St_is_e)]
def lkT : List (Nat × (List (List PV) → Option LX)) → Nat → List (List PV) → Option LX
  | [], _, _ => none
  | (a, f) :: r, e, rs => match Nat.beq e a with
    | true => f rs
    | false => lkT r e rs
def LX.lit (e : Nat) (rs : List (List PV)) : Option LX := lkT tbl e rs
def LX.nil (e : Nat) : Option LX := lkT tbl e []
class TG {α : Type} [Inhabited α] (K : List α → LX) (f : outParam (RF α)) : Prop where
  row : ∀ l i, (K l).row i = f.w (l.getD i default) := by intro l i; rfl
  sz : ∀ a l, (f.w a).length = (K l).sz := by intro a l; rfl
instance : TG LX.t3 (oI .i64).o := {}
instance : TG LX.t4 oB.o := {}
instance : TG LX.t5 (oI .u8).o := {}
instance : TG LX.t9 oT.o := {}
instance : TG LX.t29 (oW LX.t3).o := {}
instance : TG LX.t38 rd_api_State := {}
instance : TG LX.t40 (oI .i64).o := {}
instance : TG LX.t59 (oW LX.t190).o := {}
instance : TG LX.t61 rd_api_Resource := {}
instance : TG LX.t65 rd_api_Store := {}
instance : TG LX.t68 rd_api_Belt := {}
instance : TG LX.t75 (oW LX.t9).o := {}
instance : TG LX.t80 rd_api_SiteDecl := {}
instance : TG LX.t83 rd_api_SiteCode := {}
instance : TG LX.t86 rd_api_Code := {}
instance : TG LX.t115 rd_api_Expr := {}
instance : TG LX.t120 rd_api_Instr := {}
instance : TG LX.t125 rd_api_Event := {}
instance : TG LX.t131 rd_api_Proc := {}
instance : TG LX.t149 rd_api_Stream := {}
instance : TG LX.t154 rd_api_Tally := {}
instance : TG LX.t159 rd_api_Level := {}
instance : TG LX.t179 rd_api_Ready := {}
instance : TG LX.t181 rd_api_Rider := {}
instance : TG LX.t190 rd_api_Claim := {}
instance : TG LX.t219 rd_api_Value := {}
instance : TG LX.t222 (oW LX.t344).o := {}
instance : TG LX.t225 rd_api_Routine := {}
instance : TG LX.t227 rd_api_Arc := {}
instance : TG LX.t241 rd_Arr2_Int := {}
instance : TG LX.t250 rd_api_StoreDecl := {}
instance : TG LX.t253 rd_api_BeltDecl := {}
instance : TG LX.t266 rd_api_Start := {}
instance : TG LX.t270 rd_api_Law := {}
instance : TG LX.t272 rd_api_Link := {}
instance : TG LX.t296 rd_api_ResourceDecl := {}
instance : TG LX.t309 rd_Arr2_ByteArray := {}
instance : TG LX.t313 rd_code_form := {}
instance : TG LX.t344 rd_api_Field := {}
instance : TG LX.t347 rd_api_Term := {}
instance : TG LX.t349 rd_R17_Form := {}
instance : TG LX.t367 rd_api_Change := {}
instance : TG LX.t408 rd_api_Stmt := {}
instance : TG LX.t417 rd_St_is_name := {}
instance : TG LX.t419 rd_St_is_e := {}
def LX.find (x : LX) (c : List PV) : Option (Option Nat) := match x, c with
  | .t3 l, [.val (.int k0 a0)] => match decide (k0 = .i64) with
    | true => some (l.findIdx? fun b => a0 == b)
    | _ => none
  | .t4 l, [.val (.bool a0)] => some (l.findIdx? fun b => a0 == b)
  | .t5 l, [.val (.int k0 a0)] => match decide (k0 = .u8) with
    | true => some (l.findIdx? fun b => a0 == b)
    | _ => none
  | .t9 l, [.val (.string a0)] => some (l.findIdx? fun b => a0 == b)
  | .t40 l, [.val (.int k0 a0)] => match decide (k0 = .i64) with
    | true => some (l.findIdx? fun b => a0 == b)
    | _ => none
  | .t241 l, [.val (.int k0 a0), .val (.int k1 a1)] => match decide (k0 = .i64), decide (k1 = .i64) with
    | true, true => some (l.findIdx? fun b => (a0 == b.a0 && (a1 == b.a1)))
    | _, _ => none
  | .t309 l, [.val (.string a0), .val (.string a1)] => some (l.findIdx? fun b => (a0 == b.a0 && (a1 == b.a1)))
  | _, _ => none
def LX.push (x : LX) (c : List PV) : Option LX := match LX.lit x.e [c] with
  | some y => x.cat y
  | none => none
theorem getD_app_l {α : Type} [Inhabited α] (l m : List α) (i : Nat) (h : i < l.length) : (l ++ m).getD i default = l.getD i default := by
  simp [List.getD, List.getElem?_append_left h]
theorem getD_app_r {α : Type} [Inhabited α] (l m : List α) (i : Nat) : (l ++ m).getD (l.length + i) default = m.getD i default := by
  simp [List.getD, List.getElem?_append_right]
theorem getD_sub {α : Type} [Inhabited α] (l : List α) (a b i : Nat) (h1 : b ≤ l.length) (h2 : i < b - a) : ((l.take b).drop a).getD i default = l.getD (a + i) default := by
  simp only [List.getD_eq_getElem?_getD, List.getElem?_drop, List.getElem?_take]
  rw [if_pos (by omega)]
theorem getD_rep {α : Type} [Inhabited α] (n i : Nat) (a : α) (h : i < n) : (List.replicate n a).getD i default = a := by
  simp [List.getD_eq_getElem?_getD, List.getElem?_replicate, h]
theorem getD_set_eq {α : Type} [Inhabited α] (l : List α) (i : Nat) (a : α) (h : i < l.length) : (l.set i a).getD i default = a := by
  simp [List.getD_eq_getElem?_getD, h]
theorem getD_set_ne {α : Type} [Inhabited α] (l : List α) (i j : Nat) (a : α) (h : j ≠ i) : (l.set i a).getD j default = l.getD j default := by
  simp [List.getD_eq_getElem?_getD, List.getElem?_set_ne (fun e => h e.symm)]
theorem getD_eq {α : Type} [Inhabited α] (l : List α) (i : Nat) (h : i < l.length) : l.getD i default = l[i] := by
  simp [List.getD_eq_getElem?_getD, h]
theorem lenGe0_iff (l : List PV) : ∀ n, lenGe0 l n = true ↔ n ≤ l.length := by
  induction l with
  | nil => intro n; cases n <;> simp [lenGe0]
  | cons p r ih => intro n; cases n <;> simp [lenGe0, ih]
section
variable {α : Type} [Inhabited α] {K : List α → LX} {f : RF α} {g : LX → Option (List α)} {e sz : Nat}
theorem rowF [q : TG K f] (l : List α) (i : Nat) : ∀ p ∈ (K l).row i, p.flat = true := flats_mem _ (by rw [q.row]; exact f.fl _)
theorem rowL [q : TG K f] (l : List α) (i : Nat) : ((K l).row i).length = (K l).sz := by rw [q.row]; exact q.sz _ _
def LitOK (p : Nat × (List (List PV) → Option LX)) : Prop := ∀ rs x, p.2 rs = some x → x.e = p.1 ∧ x.len = rs.length ∧ ∀ (i : Nat) (r : List PV), rs[i]? = some r → RowLe r (x.row i)
theorem litT [k : TL K g e sz] [q : TG K f] : LitOK (e, lT K f) := by
  intro rs x h
  simp only [lT, optK] at h
  cases hl : decs f.d rs with
  | none => rw [hl] at h; cases h
  | some l =>
    rw [hl] at h
    injection h with h; subst h
    obtain ⟨q1, q2⟩ := decs_spec f.le rs l hl
    exact ⟨k.e _, by rw [k.len]; exact q1, fun i r hr => by rw [q.row]; exact q2 i r hr⟩
theorem catT [k : TL K g e sz] [q : TG K f] {y z : LX} {l : List α} (h : optK (fun m => K (l ++ m)) (g y) = some z) : y.e = (K l).e ∧ z.e = (K l).e ∧ y.sz = (K l).sz ∧ z.sz = (K l).sz ∧ z.len = (K l).len + y.len ∧ (∀ i, i < (K l).len → z.row i = (K l).row i) ∧ (∀ i, z.row ((K l).len + i) = y.row i) := by
  cases hg : g y with
  | none => rw [hg] at h; cases h
  | some m =>
    rw [hg] at h
    injection h with h; subst h
    rw [k.gk y m hg]
    simp only [k.e, k.sz, k.len, q.row, List.length_append, true_and]
    exact ⟨fun i hi => by rw [getD_app_l l m i hi], fun i => by rw [getD_app_r]⟩
theorem subT [k : TL K g e sz] [q : TG K f] (l : List α) (a b : Nat) (h : b ≤ (K l).len) : (K ((l.take b).drop a)).e = (K l).e ∧ (K ((l.take b).drop a)).sz = (K l).sz ∧ (K ((l.take b).drop a)).len = b - a ∧ ∀ i, i < b - a → (K ((l.take b).drop a)).row i = (K l).row (a + i) := by
  simp only [k.e, k.sz, k.len, q.row, true_and] at h ⊢
  exact ⟨by simp; omega, fun i hi => by rw [getD_sub l a b i h hi]⟩
theorem repT [k : TL K g e sz] [q : TG K f] (l : List α) (n : Nat) : (K (List.replicate n (l.getD 0 default))).e = (K l).e ∧ (K (List.replicate n (l.getD 0 default))).sz = (K l).sz ∧ (K (List.replicate n (l.getD 0 default))).len = n ∧ ∀ i, i < n → (K (List.replicate n (l.getD 0 default))).row i = (K l).row 0 := by
  simp only [k.e, k.sz, k.len, q.row, true_and]
  exact ⟨List.length_replicate, fun i hi => by rw [getD_rep n i _ hi]⟩
theorem setT [k : TL K g e sz] [q : TG K f] {i off : Nat} {c : List PV} {l : List α} {y : LX} (h : sT K f l i off c = some y) : y.e = (K l).e ∧ y.sz = (K l).sz ∧ y.len = (K l).len ∧ off + c.length ≤ (K l).sz ∧ (i < (K l).len → RowLe (setN ((K l).row i) off c) (y.row i)) ∧ ∀ j, j ≠ i → y.row j = (K l).row j := by
  unfold sT optS at h
  split at h
  · rename_i a h1 h2
    injection h with h; subst h
    simp only [k.e, k.sz, k.len, q.row, true_and]
    refine ⟨List.length_set, by rw [← k.sz l, ← q.sz (l.getD i default) l]; exact (lenGe0_iff _ _).1 h1, fun hi => ?_, fun j hj => ?_⟩
    · rw [getD_set_eq l i a hi]
      exact f.le _ _ h2
    · rw [getD_set_ne l i j a hj]
  · cases h
end
theorem LX.row_len (x : LX) (i : Nat) : (x.row i).length = x.sz := by cases x <;> exact rowL _ _
theorem LX.row_flat (x : LX) (i : Nat) : ∀ p ∈ x.row i, p.flat = true := by cases x <;> exact rowF _ _
def AllT : List (Nat × (List (List PV) → Option LX)) → Prop
  | [] => True
  | p :: r => LitOK p ∧ AllT r
theorem tblOK : AllT tbl := by
  unfold tbl
  repeat (first | exact trivial | refine ⟨litT, ?_⟩)
theorem lkT_ok : ∀ (l : List (Nat × (List (List PV) → Option LX))), AllT l → ∀ e, LitOK (e, lkT l e)
  | [], _, e, rs, x, h => by cases h
  | (a, f) :: r, hl, e, rs, x, h => by
    change (match Nat.beq e a with
      | true => f rs
      | false => lkT r e rs) = some x at h
    cases hb : Nat.beq e a with
    | true =>
      rw [hb] at h
      rw [Nat.eq_of_beq_eq_true hb]
      exact hl.1 rs x h
    | false =>
      rw [hb] at h
      exact lkT_ok r hl.2 e rs x h
theorem LX.lit_spec (e : Nat) (rs : List (List PV)) (x : LX) (h : LX.lit e rs = some x) : x.e = e ∧ x.len = rs.length ∧ ∀ (i : Nat) (r : List PV), rs[i]? = some r → RowLe r (x.row i) := lkT_ok tbl tblOK e rs x h
theorem LX.nil_spec (e : Nat) (x : LX) (h : LX.nil e = some x) : x.e = e ∧ x.len = 0 := ⟨(LX.lit_spec e [] x h).1, (LX.lit_spec e [] x h).2.1⟩
theorem LX.cat_spec (x y z : LX) (h : x.cat y = some z) : y.e = x.e ∧ z.e = x.e ∧ y.sz = x.sz ∧ z.sz = x.sz ∧ z.len = x.len + y.len ∧ (∀ i, i < x.len → z.row i = x.row i) ∧ (∀ i, z.row (x.len + i) = y.row i) := by cases x <;> exact catT h
theorem LX.sub_spec (x : LX) (a b : Nat) (h : b ≤ x.len) : (x.sub a b).e = x.e ∧ (x.sub a b).sz = x.sz ∧ (x.sub a b).len = b - a ∧ ∀ i, i < b - a → (x.sub a b).row i = x.row (a + i) := by cases x <;> exact subT _ a b h
theorem LX.rep_spec (x : LX) (n : Nat) : (x.rep n).e = x.e ∧ (x.rep n).sz = x.sz ∧ (x.rep n).len = n ∧ ∀ i, i < n → (x.rep n).row i = x.row 0 := by cases x <;> exact repT _ n
theorem LX.set_spec (x : LX) (i off : Nat) (c : List PV) (y : LX) (h : LX.set x i off c = some y) : y.e = x.e ∧ y.sz = x.sz ∧ y.len = x.len ∧ off + c.length ≤ x.sz ∧ (i < x.len → RowLe (setN (x.row i) off c) (y.row i)) ∧ ∀ j, j ≠ i → y.row j = x.row j := by cases x <;> exact setT h
theorem find_spec0 {α : Type} [Inhabited α] {l : List α} {p : α → Bool} {r : Option Nat} (h : l.findIdx? p = r) :
    (r = none → ∀ i, i < l.length → p (l.getD i default) = false) ∧ (∀ i, r = some i → i < l.length ∧ p (l.getD i default) = true ∧ ∀ j, j < i → p (l.getD j default) = false) := by
  subst h
  refine ⟨fun h i hi => ?_, fun i h => ?_⟩
  · have := List.findIdx?_eq_none_iff.1 h (l.getD i default) (by rw [getD_eq l i hi]; exact List.getElem_mem hi)
    simpa using this
  · obtain ⟨h1, h2, h3⟩ := List.findIdx?_eq_some_iff_getElem.1 h
    refine ⟨h1, by rw [getD_eq l i h1]; exact h2, fun j hj => ?_⟩
    rw [getD_eq l j (by omega)]
    simpa using h3 j hj
theorem LX.find_spec (x : LX) (c : List PV) (r : Option Nat) (h : LX.find x c = some r) : (r = none → ∀ i, i < x.len → sameV c (x.row i) = some false) ∧ (∀ i, r = some i → i < x.len ∧ sameV c (x.row i) = some true ∧ ∀ j, j < i → sameV c (x.row j) = some false) := by
  unfold LX.find at h
  split at h
  · rename_i l k0 a0
    split at h
    · rename_i hk0
      have e0 := of_decide_eq_true hk0
      subst e0
      injection h with h; subst h
      obtain ⟨s1, s2⟩ := find_spec0 (rfl : l.findIdx? (fun b => a0 == b) = _)
      have key : ∀ i b, (a0 == (l.getD i default)) = b → sameV [.val (.int .i64 a0)] ((LX.t3 l).row i) = some b := fun i b hb => congrArg some hb
      exact ⟨fun hr i hi => key _ _ (s1 hr i hi), fun i hr => ⟨(s2 i hr).1, key _ _ (s2 i hr).2.1, fun j hj => key _ _ ((s2 i hr).2.2 j hj)⟩⟩
    · cases h
  · rename_i l a0
    injection h with h; subst h
    obtain ⟨s1, s2⟩ := find_spec0 (rfl : l.findIdx? (fun b => a0 == b) = _)
    have key : ∀ i b, (a0 == (l.getD i default)) = b → sameV [.val (.bool a0)] ((LX.t4 l).row i) = some b := fun i b hb => congrArg some hb
    exact ⟨fun hr i hi => key _ _ (s1 hr i hi), fun i hr => ⟨(s2 i hr).1, key _ _ (s2 i hr).2.1, fun j hj => key _ _ ((s2 i hr).2.2 j hj)⟩⟩
  · rename_i l k0 a0
    split at h
    · rename_i hk0
      have e0 := of_decide_eq_true hk0
      subst e0
      injection h with h; subst h
      obtain ⟨s1, s2⟩ := find_spec0 (rfl : l.findIdx? (fun b => a0 == b) = _)
      have key : ∀ i b, (a0 == (l.getD i default)) = b → sameV [.val (.int .u8 a0)] ((LX.t5 l).row i) = some b := fun i b hb => congrArg some hb
      exact ⟨fun hr i hi => key _ _ (s1 hr i hi), fun i hr => ⟨(s2 i hr).1, key _ _ (s2 i hr).2.1, fun j hj => key _ _ ((s2 i hr).2.2 j hj)⟩⟩
    · cases h
  · rename_i l a0
    injection h with h; subst h
    obtain ⟨s1, s2⟩ := find_spec0 (rfl : l.findIdx? (fun b => a0 == b) = _)
    have key : ∀ i b, (a0 == (l.getD i default)) = b → sameV [.val (.string a0)] ((LX.t9 l).row i) = some b := fun i b hb => congrArg some hb
    exact ⟨fun hr i hi => key _ _ (s1 hr i hi), fun i hr => ⟨(s2 i hr).1, key _ _ (s2 i hr).2.1, fun j hj => key _ _ ((s2 i hr).2.2 j hj)⟩⟩
  · rename_i l k0 a0
    split at h
    · rename_i hk0
      have e0 := of_decide_eq_true hk0
      subst e0
      injection h with h; subst h
      obtain ⟨s1, s2⟩ := find_spec0 (rfl : l.findIdx? (fun b => a0 == b) = _)
      have key : ∀ i b, (a0 == (l.getD i default)) = b → sameV [.val (.int .i64 a0)] ((LX.t40 l).row i) = some b := fun i b hb => congrArg some hb
      exact ⟨fun hr i hi => key _ _ (s1 hr i hi), fun i hr => ⟨(s2 i hr).1, key _ _ (s2 i hr).2.1, fun j hj => key _ _ ((s2 i hr).2.2 j hj)⟩⟩
    · cases h
  · rename_i l k0 a0 k1 a1
    split at h
    · rename_i hk0 hk1
      have e0 := of_decide_eq_true hk0
      subst e0
      have e1 := of_decide_eq_true hk1
      subst e1
      injection h with h; subst h
      obtain ⟨s1, s2⟩ := find_spec0 (rfl : l.findIdx? (fun b => (a0 == b.a0 && (a1 == b.a1))) = _)
      have key : ∀ i b, ((a0 == (l.getD i default).a0 && (a1 == (l.getD i default).a1))) = b → sameV [.val (.int .i64 a0), .val (.int .i64 a1)] ((LX.t241 l).row i) = some b := fun i b hb => congrArg some hb
      exact ⟨fun hr i hi => key _ _ (s1 hr i hi), fun i hr => ⟨(s2 i hr).1, key _ _ (s2 i hr).2.1, fun j hj => key _ _ ((s2 i hr).2.2 j hj)⟩⟩
    · cases h
  · rename_i l a0 a1
    injection h with h; subst h
    obtain ⟨s1, s2⟩ := find_spec0 (rfl : l.findIdx? (fun b => (a0 == b.a0 && (a1 == b.a1))) = _)
    have key : ∀ i b, ((a0 == (l.getD i default).a0 && (a1 == (l.getD i default).a1))) = b → sameV [.val (.string a0), .val (.string a1)] ((LX.t309 l).row i) = some b := fun i b hb => congrArg some hb
    exact ⟨fun hr i hi => key _ _ (s1 hr i hi), fun i hr => ⟨(s2 i hr).1, key _ _ (s2 i hr).2.1, fun j hj => key _ _ ((s2 i hr).2.2 j hj)⟩⟩
  · cases h
/-- a row of bytes, as a string -/
def LX.str (x : LX) : Option ByteArray := match x with
  | .t5 l => some (strOfNums l)
  | _ => none
theorem LX.str_spec {y : LX} {s : ByteArray} (h : y.str = some s) : ∃ l : List Int, s = strOfNums l ∧ y.len = l.length ∧ y.sz = 1 ∧ ∀ i, i < l.length → y.row i = [.val (.int .u8 (l.getD i 0))] := by
  cases y <;> first
    | (injection h with h; subst h; exact ⟨_, rfl, rfl, rfl, fun i _ => rfl⟩)
    | cases h
def gl0 : List code_form := [⟨⟨#[]⟩, 0, 0, false, false, false, false, false, false⟩, ⟨⟨#[115, 108, 111, 116]⟩, 1, 0, false, true, false, false, false, false⟩, ⟨⟨#[118, 97, 114]⟩, 2, 0, false, true, false, false, false, false⟩, ⟨⟨#[100, 114, 97, 119]⟩, 1, 3, false, false, false, false, true, false⟩, ⟨⟨#[106, 117, 109, 112]⟩, 4, 0, false, false, false, false, false, false⟩, ⟨⟨#[98, 114, 97, 110, 99, 104]⟩, 4, 0, false, true, false, false, false, false⟩, ⟨⟨#[104, 111, 108, 100]⟩, 0, 0, false, true, false, false, false, false⟩, ⟨⟨#[115, 101, 105, 122, 101]⟩, 5, 0, false, true, true, false, false, true⟩, ⟨⟨#[114, 101, 108, 101, 97, 115, 101]⟩, 5, 0, false, true, false, false, false, false⟩, ⟨⟨#[112, 117, 116]⟩, 6, 0, false, true, false, false, false, false⟩, ⟨⟨#[103, 101, 116]⟩, 6, 1, false, false, false, false, false, false⟩, ⟨⟨#[114, 105, 100, 101]⟩, 7, 0, false, false, false, false, false, false⟩, ⟨⟨#[119, 97, 105, 116]⟩, 8, 0, false, false, false, false, false, false⟩, ⟨⟨#[115, 105, 103, 110, 97, 108]⟩, 8, 0, false, true, false, false, false, false⟩, ⟨⟨#[115, 101, 110, 100]⟩, 9, 10, true, true, false, true, false, false⟩, ⟨⟨#[115, 112, 97, 119, 110]⟩, 0, 10, false, true, false, true, false, false⟩, ⟨⟨#[111, 98, 115, 101, 114, 118, 101]⟩, 11, 0, false, true, false, false, false, false⟩, ⟨⟨#[108, 101, 118, 101, 108]⟩, 12, 0, false, true, false, false, false, false⟩, ⟨⟨#[99, 111, 117, 110, 116]⟩, 13, 0, false, true, false, false, false, false⟩, ⟨⟨#[101, 110, 100]⟩, 0, 0, false, false, false, false, false, false⟩]
/-- package variables that are laid -/
def GL : List (Nat × LX) := [(0, .t313 gl0)]
/-- arrays that are laid: their cells -/
def GA : List (Nat × List Value) := []
end Go.Proofs.YtpdlcbmnmeihoaaGreatDoor.Ev
