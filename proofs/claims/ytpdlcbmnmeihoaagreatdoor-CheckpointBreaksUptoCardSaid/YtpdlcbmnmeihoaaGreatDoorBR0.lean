/-  What is read, and its bulk. -/
import Derived.Test.YtpdlcbmnmeihoaaGreatDoorBG0
import Derived.Test.YtpdlcbmnmeihoaaGreatDoorBFz
set_option maxRecDepth 100000
set_option maxHeartbeats 4000000
set_option linter.unusedVariables false
set_option linter.unusedSimpArgs false
set_option linter.unnecessarySimpa false
namespace Go.Proofs.YtpdlcbmnmeihoaaGreatDoor.Ev
open Go An
def Ok_Arr3_Int (x : Arr3_Int) : Prop := okI .u8 x.a0 ∧ okI .u8 x.a1 ∧ okI .u8 x.a2
def bk_Arr3_Int (x : Arr3_Int) : Nat := (1 + (1 + 1)) + 1
inductive Ok_api_Expr : api_Expr → Prop
  | mk (a0 : Int) (a1 : ByteArray) (a2 : Int) (a3 : (List api_Expr)) (h0_0 : okI .i64 a0) (h1_0 : okS a1) (h2_0 : okI .i64 a2) (h3_0 : a3.length ≤ maxLen) (h3_1 : ∀ y ∈ a3, Ok_api_Expr y) : Ok_api_Expr (.mk a0 a1 a2 a3)
mutual
def bk_api_Expr : api_Expr → Nat
  | .mk a0 a1 a2 a3 => (1 + ((a1.size + 1) + (1 + ((bkL_api_Expr a3 + 1))))) + 1
def bkL_api_Expr : List api_Expr → Nat
  | [] => 0
  | x :: k => bk_api_Expr x + bkL_api_Expr k
end
theorem bkL_api_Expr_eq (l : List api_Expr) : bkL_api_Expr l = sumL bk_api_Expr l := by
  induction l with
  | nil => rw [bkL_api_Expr]; rfl
  | cons x k ih => rw [bkL_api_Expr, ih]; rfl
theorem bk_api_Expr_eq (x : api_Expr) : bk_api_Expr x = (1 + ((x.Name.size + 1) + (1 + ((sumL bk_api_Expr x.Kids + 1))))) + 1 := by
  cases x with | mk a0 a1 a2 a3 => simp only [bk_api_Expr, bkL_api_Expr_eq, api_Expr.Op, api_Expr.Name, api_Expr.N, api_Expr.Kids]
def Ok_api_Arc (x : api_Arc) : Prop := okI .i64 x.From ∧ okI .i64 x.To ∧ okI .i64 x.Delay
def bk_api_Arc (x : api_Arc) : Nat := (1 + (1 + 1)) + 1
def Ok_api_Rider (x : api_Rider) : Prop := okI .i64 x.Proc ∧ okI .i64 x.Entry ∧ okI .i64 x.Exit
def bk_api_Rider (x : api_Rider) : Nat := (1 + (1 + 1)) + 1
def Ok_api_Belt (x : api_Belt) : Prop := okI .i64 x.Length ∧ okI .i64 x.Step ∧ (x.Riders.length ≤ maxLen ∧ ∀ y ∈ x.Riders, Ok_api_Rider y) ∧ okI .i64 x.Last
def bk_api_Belt (x : api_Belt) : Nat := (1 + (1 + ((sumL bk_api_Rider x.Riders + 1) + 1))) + 1
def Ok_api_BeltDecl (x : api_BeltDecl) : Prop := okS x.Name ∧ okI .i64 x.Length ∧ okI .i64 x.Step
def bk_api_BeltDecl (x : api_BeltDecl) : Nat := ((x.Name.size + 1) + (1 + 1)) + 1
def Ok_api_Change (x : api_Change) : Prop := okI .i64 x.At ∧ okI .i64 x.Units
def bk_api_Change (x : api_Change) : Nat := (1 + 1) + 1
def Ok_api_Claim (x : api_Claim) : Prop := okI .i64 x.Proc ∧ okI .i64 x.Units ∧ okI .i64 x.Prio ∧ okI .i64 x.Seq ∧ True
def bk_api_Claim (x : api_Claim) : Nat := (1 + (1 + (1 + (1 + 1)))) + 1
def Ok_api_Dist (x : api_Dist) : Prop := okI .i64 x.Op ∧ okI .i64 x.A ∧ okI .i64 x.B ∧ okI .i64 x.N ∧ (x.Values.length ≤ maxLen ∧ ∀ y ∈ x.Values, okI .i64 y) ∧ (x.Weights.length ≤ maxLen ∧ ∀ y ∈ x.Weights, okI .i64 y)
def bk_api_Dist (x : api_Dist) : Nat := (1 + (1 + (1 + (1 + ((sumL (fun (z : Int) => 1) x.Values + 1) + ((sumL (fun (z : Int) => 1) x.Weights + 1))))))) + 1
def Ok_api_Instr (x : api_Instr) : Prop := okI .i64 x.Op ∧ okI .i64 x.A ∧ okI .i64 x.B ∧ okI .i64 x.C ∧ Ok_api_Expr x.E ∧ Ok_api_Expr x.F ∧ (x.Args.length ≤ maxLen ∧ ∀ y ∈ x.Args, Ok_api_Expr y) ∧ Ok_api_Dist x.Dist ∧ True
def bk_api_Instr (x : api_Instr) : Nat := (1 + (1 + (1 + (1 + (bk_api_Expr x.E + (bk_api_Expr x.F + ((sumL bk_api_Expr x.Args + 1) + (bk_api_Dist x.Dist + 1)))))))) + 1
def Ok_api_Code (x : api_Code) : Prop := okS x.Name ∧ okI .i64 x.Params ∧ okI .i64 x.Slots ∧ (x.Instrs.length ≤ maxLen ∧ ∀ y ∈ x.Instrs, Ok_api_Instr y)
def bk_api_Code (x : api_Code) : Nat := ((x.Name.size + 1) + (1 + (1 + ((sumL bk_api_Instr x.Instrs + 1))))) + 1
def Ok_api_Event (x : api_Event) : Prop := okI .i64 x.Time ∧ okI .i64 x.Prio ∧ okI .i64 x.From ∧ okI .i64 x.Seq ∧ okI .i64 x.Site ∧ okI .i64 x.Kind ∧ okI .i64 x.A ∧ okI .i64 x.B ∧ (x.Args.length ≤ maxLen ∧ ∀ y ∈ x.Args, okI .i64 y)
def bk_api_Event (x : api_Event) : Nat := (1 + (1 + (1 + (1 + (1 + (1 + (1 + (1 + ((sumL (fun (z : Int) => 1) x.Args + 1)))))))))) + 1
def Ok_api_Fault (x : api_Fault) : Prop := okS x.Stream ∧ Ok_api_Dist x.Up ∧ Ok_api_Dist x.Down
def bk_api_Fault (x : api_Fault) : Nat := ((x.Stream.size + 1) + (bk_api_Dist x.Up + bk_api_Dist x.Down)) + 1
def Ok_api_Field (x : api_Field) : Prop := okS x.Name ∧ okI .i64 x.Type_
def bk_api_Field (x : api_Field) : Nat := ((x.Name.size + 1) + 1) + 1
def Ok_api_Term (x : api_Term) : Prop := okI .i64 x.Coef ∧ okS x.What ∧ okS x.Name
def bk_api_Term (x : api_Term) : Nat := (1 + ((x.What.size + 1) + ((x.Name.size + 1)))) + 1
def Ok_api_Law (x : api_Law) : Prop := okS x.Name ∧ (x.Terms.length ≤ maxLen ∧ ∀ y ∈ x.Terms, Ok_api_Term y) ∧ okI .i64 x.Total
def bk_api_Law (x : api_Law) : Nat := ((x.Name.size + 1) + ((sumL bk_api_Term x.Terms + 1) + 1)) + 1
def Ok_api_Level (x : api_Level) : Prop := okI .i64 x.Value ∧ okI .i64 x.Since ∧ okI .i64 x.Begin ∧ okI .i64 x.Area ∧ okI .i64 x.Min ∧ okI .i64 x.Max
def bk_api_Level (x : api_Level) : Nat := (1 + (1 + (1 + (1 + (1 + 1))))) + 1
def Ok_api_ResourceDecl (x : api_ResourceDecl) : Prop := okS x.Name ∧ okI .i64 x.Units ∧ (x.Shift.length ≤ maxLen ∧ ∀ y ∈ x.Shift, Ok_api_Change y) ∧ okI .i64 x.Cycle ∧ Ok_api_Fault x.Fault
def bk_api_ResourceDecl (x : api_ResourceDecl) : Nat := ((x.Name.size + 1) + (1 + ((sumL bk_api_Change x.Shift + 1) + (1 + bk_api_Fault x.Fault)))) + 1
inductive Ok_api_Stmt : api_Stmt → Prop
  | mk (a0 : Int) (a1 : ByteArray) (a2 : ByteArray) (a3 : api_Expr) (a4 : api_Expr) (a5 : (List api_Expr)) (a6 : api_Dist) (a7 : Bool) (a8 : (List api_Stmt)) (a9 : (List api_Stmt)) (h0_0 : okI .i64 a0) (h1_0 : okS a1) (h2_0 : okS a2) (h3_0 : Ok_api_Expr a3) (h4_0 : Ok_api_Expr a4) (h5_0 : a5.length ≤ maxLen) (h5_1 : ∀ y ∈ a5, Ok_api_Expr y) (h6_0 : Ok_api_Dist a6) (h7_0 : True) (h8_0 : a8.length ≤ maxLen) (h8_1 : ∀ y ∈ a8, Ok_api_Stmt y) (h9_0 : a9.length ≤ maxLen) (h9_1 : ∀ y ∈ a9, Ok_api_Stmt y) : Ok_api_Stmt (.mk a0 a1 a2 a3 a4 a5 a6 a7 a8 a9)
mutual
def bk_api_Stmt : api_Stmt → Nat
  | .mk a0 a1 a2 a3 a4 a5 a6 a7 a8 a9 => (1 + ((a1.size + 1) + ((a2.size + 1) + (bk_api_Expr a3 + (bk_api_Expr a4 + ((sumL bk_api_Expr a5 + 1) + (bk_api_Dist a6 + (1 + ((bkL_api_Stmt a8 + 1) + ((bkL_api_Stmt a9 + 1))))))))))) + 1
def bkL_api_Stmt : List api_Stmt → Nat
  | [] => 0
  | x :: k => bk_api_Stmt x + bkL_api_Stmt k
end
theorem bkL_api_Stmt_eq (l : List api_Stmt) : bkL_api_Stmt l = sumL bk_api_Stmt l := by
  induction l with
  | nil => rw [bkL_api_Stmt]; rfl
  | cons x k ih => rw [bkL_api_Stmt, ih]; rfl
theorem bk_api_Stmt_eq (x : api_Stmt) : bk_api_Stmt x = (1 + ((x.Name.size + 1) + ((x.Of.size + 1) + (bk_api_Expr x.E + (bk_api_Expr x.F + ((sumL bk_api_Expr x.Args + 1) + (bk_api_Dist x.Dist + (1 + ((sumL bk_api_Stmt x.Body + 1) + ((sumL bk_api_Stmt x.Else + 1))))))))))) + 1 := by
  cases x with | mk a0 a1 a2 a3 a4 a5 a6 a7 a8 a9 => simp only [bk_api_Stmt, bkL_api_Stmt_eq, api_Stmt.Op, api_Stmt.Name, api_Stmt.Of, api_Stmt.E, api_Stmt.F, api_Stmt.Args, api_Stmt.Dist, api_Stmt.Flag, api_Stmt.Body, api_Stmt.Else]
def Ok_api_Routine (x : api_Routine) : Prop := okS x.Name ∧ (x.Params.length ≤ maxLen ∧ ∀ y ∈ x.Params, Ok_api_Field y) ∧ (x.Locals.length ≤ maxLen ∧ ∀ y ∈ x.Locals, Ok_api_Field y) ∧ (x.Body.length ≤ maxLen ∧ ∀ y ∈ x.Body, Ok_api_Stmt y)
def bk_api_Routine (x : api_Routine) : Nat := ((x.Name.size + 1) + ((sumL bk_api_Field x.Params + 1) + ((sumL bk_api_Field x.Locals + 1) + ((sumL bk_api_Stmt x.Body + 1))))) + 1
def Ok_api_Start (x : api_Start) : Prop := okS x.Routine ∧ (x.Args.length ≤ maxLen ∧ ∀ y ∈ x.Args, okI .i64 y) ∧ okI .i64 x.At ∧ okI .i64 x.Every ∧ okI .i64 x.Until
def bk_api_Start (x : api_Start) : Nat := ((x.Routine.size + 1) + ((sumL (fun (z : Int) => 1) x.Args + 1) + (1 + (1 + 1)))) + 1
def Ok_api_StoreDecl (x : api_StoreDecl) : Prop := okS x.Name ∧ okI .i64 x.Room ∧ okI .i64 x.Policy
def bk_api_StoreDecl (x : api_StoreDecl) : Nat := ((x.Name.size + 1) + (1 + 1)) + 1
def Ok_api_Value (x : api_Value) : Prop := okS x.Name ∧ okI .i64 x.Type_ ∧ okI .i64 x.N
def bk_api_Value (x : api_Value) : Nat := ((x.Name.size + 1) + (1 + 1)) + 1
def Ok_api_SiteDecl (x : api_SiteDecl) : Prop := okS x.Name ∧ (x.Vars.length ≤ maxLen ∧ ∀ y ∈ x.Vars, Ok_api_Value y) ∧ (x.Resources.length ≤ maxLen ∧ ∀ y ∈ x.Resources, Ok_api_ResourceDecl y) ∧ (x.Stores.length ≤ maxLen ∧ ∀ y ∈ x.Stores, Ok_api_StoreDecl y) ∧ (x.Belts.length ≤ maxLen ∧ ∀ y ∈ x.Belts, Ok_api_BeltDecl y) ∧ (x.Queues.length ≤ maxLen ∧ ∀ y ∈ x.Queues, okS y) ∧ (x.Streams.length ≤ maxLen ∧ ∀ y ∈ x.Streams, okS y) ∧ (x.Tallies.length ≤ maxLen ∧ ∀ y ∈ x.Tallies, okS y) ∧ (x.Levels.length ≤ maxLen ∧ ∀ y ∈ x.Levels, okS y) ∧ (x.Counts.length ≤ maxLen ∧ ∀ y ∈ x.Counts, okS y) ∧ (x.Routines.length ≤ maxLen ∧ ∀ y ∈ x.Routines, Ok_api_Routine y) ∧ (x.Starts.length ≤ maxLen ∧ ∀ y ∈ x.Starts, Ok_api_Start y) ∧ (x.Laws.length ≤ maxLen ∧ ∀ y ∈ x.Laws, Ok_api_Law y)
def bk_api_SiteDecl (x : api_SiteDecl) : Nat := ((x.Name.size + 1) + ((sumL bk_api_Value x.Vars + 1) + ((sumL bk_api_ResourceDecl x.Resources + 1) + ((sumL bk_api_StoreDecl x.Stores + 1) + ((sumL bk_api_BeltDecl x.Belts + 1) + ((sumL (fun (z : ByteArray) => (z.size + 1)) x.Queues + 1) + ((sumL (fun (z : ByteArray) => (z.size + 1)) x.Streams + 1) + ((sumL (fun (z : ByteArray) => (z.size + 1)) x.Tallies + 1) + ((sumL (fun (z : ByteArray) => (z.size + 1)) x.Levels + 1) + ((sumL (fun (z : ByteArray) => (z.size + 1)) x.Counts + 1) + ((sumL bk_api_Routine x.Routines + 1) + ((sumL bk_api_Start x.Starts + 1) + ((sumL bk_api_Law x.Laws + 1)))))))))))))) + 1
def Ok_api_Proc (x : api_Proc) : Prop := okI .i64 x.Id ∧ okI .i64 x.Routine ∧ okI .i64 x.Pc ∧ (x.Slots.length ≤ maxLen ∧ ∀ y ∈ x.Slots, okI .i64 y) ∧ okI .i64 x.Status ∧ okI .i64 x.Born ∧ okI .i64 x.Left
def bk_api_Proc (x : api_Proc) : Nat := (1 + (1 + (1 + ((sumL (fun (z : Int) => 1) x.Slots + 1) + (1 + (1 + 1)))))) + 1
def Ok_api_SiteCode (x : api_SiteCode) : Prop := Ok_api_SiteDecl x.Decl ∧ (x.Routines.length ≤ maxLen ∧ ∀ y ∈ x.Routines, Ok_api_Code y)
def bk_api_SiteCode (x : api_SiteCode) : Nat := (bk_api_SiteDecl x.Decl + ((sumL bk_api_Code x.Routines + 1))) + 1
def Ok_api_Program (x : api_Program) : Prop := okS x.Name ∧ (x.Sites.length ≤ maxLen ∧ ∀ y ∈ x.Sites, Ok_api_SiteCode y) ∧ (x.Links.length ≤ maxLen ∧ ∀ y ∈ x.Links, Ok_api_Arc y)
def bk_api_Program (x : api_Program) : Nat := ((x.Name.size + 1) + ((sumL bk_api_SiteCode x.Sites + 1) + ((sumL bk_api_Arc x.Links + 1)))) + 1
def Ok_api_Ready (x : api_Ready) : Prop := okI .i64 x.Proc ∧ okI .i64 x.Item
def bk_api_Ready (x : api_Ready) : Nat := (1 + 1) + 1
def Ok_api_Resource (x : api_Resource) : Prop := okI .i64 x.Units ∧ True ∧ (x.Holders.length ≤ maxLen ∧ ∀ y ∈ x.Holders, Ok_api_Claim y) ∧ (x.Queue.length ≤ maxLen ∧ ∀ y ∈ x.Queue, Ok_api_Claim y) ∧ okI .i64 x.Next
def bk_api_Resource (x : api_Resource) : Nat := (1 + (1 + ((sumL bk_api_Claim x.Holders + 1) + ((sumL bk_api_Claim x.Queue + 1) + 1)))) + 1
def Ok_api_Store (x : api_Store) : Prop := okI .i64 x.Room ∧ okI .i64 x.Policy ∧ (x.Items.length ≤ maxLen ∧ ∀ y ∈ x.Items, okI .i64 y) ∧ (x.Putters.length ≤ maxLen ∧ ∀ y ∈ x.Putters, Ok_api_Ready y) ∧ (x.Getters.length ≤ maxLen ∧ ∀ y ∈ x.Getters, okI .i64 y) ∧ okI .i64 x.In ∧ okI .i64 x.Out
def bk_api_Store (x : api_Store) : Nat := (1 + (1 + ((sumL (fun (z : Int) => 1) x.Items + 1) + ((sumL bk_api_Ready x.Putters + 1) + ((sumL (fun (z : Int) => 1) x.Getters + 1) + (1 + 1)))))) + 1
def Ok_api_Stream (x : api_Stream) : Prop := okI .u64 x.Key ∧ okI .i64 x.Pos ∧ True
def bk_api_Stream (x : api_Stream) : Nat := (1 + (1 + 1)) + 1
def Ok_api_Tally (x : api_Tally) : Prop := okI .i64 x.N ∧ okI .i64 x.Sum ∧ okI .i64 x.Squares ∧ okI .i64 x.Min ∧ okI .i64 x.Max
def bk_api_Tally (x : api_Tally) : Nat := (1 + (1 + (1 + (1 + 1)))) + 1
def Ok_api_State (x : api_State) : Prop := okI .i64 x.Site ∧ okI .i64 x.Now ∧ okI .i64 x.Seq ∧ (x.Agenda.length ≤ maxLen ∧ ∀ y ∈ x.Agenda, Ok_api_Event y) ∧ (x.Procs.length ≤ maxLen ∧ ∀ y ∈ x.Procs, Ok_api_Proc y) ∧ okI .i64 x.NextProc ∧ (x.Vars.length ≤ maxLen ∧ ∀ y ∈ x.Vars, okI .i64 y) ∧ (x.Resources.length ≤ maxLen ∧ ∀ y ∈ x.Resources, Ok_api_Resource y) ∧ (x.Stores.length ≤ maxLen ∧ ∀ y ∈ x.Stores, Ok_api_Store y) ∧ (x.Belts.length ≤ maxLen ∧ ∀ y ∈ x.Belts, Ok_api_Belt y) ∧ (x.Queues.length ≤ maxLen ∧ ∀ y ∈ x.Queues, (y.length ≤ maxLen ∧ ∀ z ∈ y, okI .i64 z)) ∧ (x.Streams.length ≤ maxLen ∧ ∀ y ∈ x.Streams, Ok_api_Stream y) ∧ (x.Tallies.length ≤ maxLen ∧ ∀ y ∈ x.Tallies, Ok_api_Tally y) ∧ (x.Levels.length ≤ maxLen ∧ ∀ y ∈ x.Levels, Ok_api_Level y) ∧ (x.Counts.length ≤ maxLen ∧ ∀ y ∈ x.Counts, okI .i64 y) ∧ (x.Created.length ≤ maxLen ∧ ∀ y ∈ x.Created, okI .i64 y) ∧ (x.Ended.length ≤ maxLen ∧ ∀ y ∈ x.Ended, okI .i64 y) ∧ okI .i64 x.Dropped
def bk_api_State (x : api_State) : Nat := (1 + (1 + (1 + ((sumL bk_api_Event x.Agenda + 1) + ((sumL bk_api_Proc x.Procs + 1) + (1 + ((sumL (fun (z : Int) => 1) x.Vars + 1) + ((sumL bk_api_Resource x.Resources + 1) + ((sumL bk_api_Store x.Stores + 1) + ((sumL bk_api_Belt x.Belts + 1) + ((sumL (fun (z : (List Int)) => (sumL (fun (z : Int) => 1) z + 1)) x.Queues + 1) + ((sumL bk_api_Stream x.Streams + 1) + ((sumL bk_api_Tally x.Tallies + 1) + ((sumL bk_api_Level x.Levels + 1) + ((sumL (fun (z : Int) => 1) x.Counts + 1) + ((sumL (fun (z : Int) => 1) x.Created + 1) + ((sumL (fun (z : Int) => 1) x.Ended + 1) + 1))))))))))))))))) + 1
def Ok_api_World (x : api_World) : Prop := (x.Sites.length ≤ maxLen ∧ ∀ y ∈ x.Sites, Ok_api_State y)
def bk_api_World (x : api_World) : Nat := (sumL bk_api_State x.Sites + 1) + 1
theorem rt3 : RTi Tryz.prog 3 .i64 := RT.int Tryz.underlying3
theorem rt4 : RTb Tryz.prog 4 := RT.bool Tryz.underlying4
theorem rt5 : RTi Tryz.prog 5 .u8 := RT.int Tryz.underlying5
theorem rt9 : RTt Tryz.prog 9 := RT.str Tryz.underlying9
theorem rt123 : RTi Tryz.prog 123 .i64 := RT.int Tryz.underlying123
theorem rt29 : RTs Tryz.prog 29 LX.t3 (okI .i64) (fun _ => 1) := fun N => RT.dn (RT.sl Tryz.underlying29 (rt3 N))
theorem rt125 (N : Nat) : RT Tryz.prog N 125 9 enapi_Event Ok_api_Event bk_api_Event := RT.dn (RY.st Tryz.underlying125 ((rt3 N).a ((rt3 N).a ((rt3 N).a ((rt3 N).a ((rt3 N).a ((rt123 N).a ((rt3 N).a ((rt3 N).a ((rt29 N).o))))))))) (fun (a0, a1, a2, a3, a4, a5, a6, a7, a8) => .mk a0 a1 a2 a3 a4 a5 a6 a7 a8) (fun y => (y.Time, y.Prio, y.From, y.Seq, y.Site, y.Kind, y.A, y.B, y.Args)))
theorem rt27 : RTs Tryz.prog 27 LX.t125 Ok_api_Event bk_api_Event := fun N => RT.dn (RT.sl Tryz.underlying27 (rt125 N))
theorem rt129 : RTi Tryz.prog 129 .i64 := RT.int Tryz.underlying129
theorem rt131 (N : Nat) : RT Tryz.prog N 131 7 enapi_Proc Ok_api_Proc bk_api_Proc := RT.dn (RY.st Tryz.underlying131 ((rt3 N).a ((rt3 N).a ((rt3 N).a ((rt29 N).a ((rt129 N).a ((rt3 N).a ((rt3 N).o))))))) (fun (a0, a1, a2, a3, a4, a5, a6) => .mk a0 a1 a2 a3 a4 a5 a6) (fun y => (y.Id, y.Routine, y.Pc, y.Slots, y.Status, y.Born, y.Left)))
theorem rt28 : RTs Tryz.prog 28 LX.t131 Ok_api_Proc bk_api_Proc := fun N => RT.dn (RT.sl Tryz.underlying28 (rt131 N))
theorem rt190 (N : Nat) : RT Tryz.prog N 190 5 enapi_Claim Ok_api_Claim bk_api_Claim := RT.dn (RY.st Tryz.underlying190 ((rt3 N).a ((rt3 N).a ((rt3 N).a ((rt3 N).a ((rt4 N).o))))) (fun (a0, a1, a2, a3, a4) => .mk a0 a1 a2 a3 a4) (fun y => (y.Proc, y.Units, y.Prio, y.Seq, y.Preempt)))
theorem rt59 : RTs Tryz.prog 59 LX.t190 Ok_api_Claim bk_api_Claim := fun N => RT.dn (RT.sl Tryz.underlying59 (rt190 N))
theorem rt61 (N : Nat) : RT Tryz.prog N 61 5 enapi_Resource Ok_api_Resource bk_api_Resource := RT.dn (RY.st Tryz.underlying61 ((rt3 N).a ((rt4 N).a ((rt59 N).a ((rt59 N).a ((rt3 N).o))))) (fun (a0, a1, a2, a3, a4) => .mk a0 a1 a2 a3 a4) (fun y => (y.Units, y.Down, y.Holders, y.Queue, y.Next)))
theorem rt30 : RTs Tryz.prog 30 LX.t61 Ok_api_Resource bk_api_Resource := fun N => RT.dn (RT.sl Tryz.underlying30 (rt61 N))
theorem rt62 : RTi Tryz.prog 62 .i64 := RT.int Tryz.underlying62
theorem rt179 (N : Nat) : RT Tryz.prog N 179 2 enapi_Ready Ok_api_Ready bk_api_Ready := RT.dn (RY.st Tryz.underlying179 ((rt3 N).a ((rt3 N).o)) (fun (a0, a1) => .mk a0 a1) (fun y => (y.Proc, y.Item)))
theorem rt63 : RTs Tryz.prog 63 LX.t179 Ok_api_Ready bk_api_Ready := fun N => RT.dn (RT.sl Tryz.underlying63 (rt179 N))
theorem rt65 (N : Nat) : RT Tryz.prog N 65 7 enapi_Store Ok_api_Store bk_api_Store := RT.dn (RY.st Tryz.underlying65 ((rt3 N).a ((rt62 N).a ((rt29 N).a ((rt63 N).a ((rt29 N).a ((rt3 N).a ((rt3 N).o))))))) (fun (a0, a1, a2, a3, a4, a5, a6) => .mk a0 a1 a2 a3 a4 a5 a6) (fun y => (y.Room, y.Policy, y.Items, y.Putters, y.Getters, y.In, y.Out)))
theorem rt31 : RTs Tryz.prog 31 LX.t65 Ok_api_Store bk_api_Store := fun N => RT.dn (RT.sl Tryz.underlying31 (rt65 N))
theorem rt181 (N : Nat) : RT Tryz.prog N 181 3 enapi_Rider Ok_api_Rider bk_api_Rider := RT.dn (RY.st Tryz.underlying181 ((rt3 N).a ((rt3 N).a ((rt3 N).o))) (fun (a0, a1, a2) => .mk a0 a1 a2) (fun y => (y.Proc, y.Entry, y.Exit)))
theorem rt66 : RTs Tryz.prog 66 LX.t181 Ok_api_Rider bk_api_Rider := fun N => RT.dn (RT.sl Tryz.underlying66 (rt181 N))
theorem rt68 (N : Nat) : RT Tryz.prog N 68 4 enapi_Belt Ok_api_Belt bk_api_Belt := RT.dn (RY.st Tryz.underlying68 ((rt3 N).a ((rt3 N).a ((rt66 N).a ((rt3 N).o)))) (fun (a0, a1, a2, a3) => .mk a0 a1 a2 a3) (fun y => (y.Length, y.Step, y.Riders, y.Last)))
theorem rt32 : RTs Tryz.prog 32 LX.t68 Ok_api_Belt bk_api_Belt := fun N => RT.dn (RT.sl Tryz.underlying32 (rt68 N))
theorem rt33 : RTs Tryz.prog 33 LX.t29 (fun x => (x.length ≤ maxLen ∧ ∀ y ∈ x, okI .i64 y)) (fun x => sumL (fun (z : Int) => 1) x + 1) := fun N => RT.dn (RT.sl Tryz.underlying33 (rt29 N))
theorem rt147 : RTi Tryz.prog 147 .u64 := RT.int Tryz.underlying147
theorem rt149 (N : Nat) : RT Tryz.prog N 149 3 enapi_Stream Ok_api_Stream bk_api_Stream := RT.dn (RY.st Tryz.underlying149 ((rt147 N).a ((rt3 N).a ((rt4 N).o))) (fun (a0, a1, a2) => .mk a0 a1 a2) (fun y => (y.Key, y.Pos, y.Anti)))
theorem rt34 : RTs Tryz.prog 34 LX.t149 Ok_api_Stream bk_api_Stream := fun N => RT.dn (RT.sl Tryz.underlying34 (rt149 N))
theorem rt154 (N : Nat) : RT Tryz.prog N 154 5 enapi_Tally Ok_api_Tally bk_api_Tally := RT.dn (RY.st Tryz.underlying154 ((rt3 N).a ((rt3 N).a ((rt3 N).a ((rt3 N).a ((rt3 N).o))))) (fun (a0, a1, a2, a3, a4) => .mk a0 a1 a2 a3 a4) (fun y => (y.N, y.Sum, y.Squares, y.Min, y.Max)))
theorem rt35 : RTs Tryz.prog 35 LX.t154 Ok_api_Tally bk_api_Tally := fun N => RT.dn (RT.sl Tryz.underlying35 (rt154 N))
theorem rt159 (N : Nat) : RT Tryz.prog N 159 6 enapi_Level Ok_api_Level bk_api_Level := RT.dn (RY.st Tryz.underlying159 ((rt3 N).a ((rt3 N).a ((rt3 N).a ((rt3 N).a ((rt3 N).a ((rt3 N).o)))))) (fun (a0, a1, a2, a3, a4, a5) => .mk a0 a1 a2 a3 a4 a5) (fun y => (y.Value, y.Since, y.Begin, y.Area, y.Min, y.Max)))
theorem rt36 : RTs Tryz.prog 36 LX.t159 Ok_api_Level bk_api_Level := fun N => RT.dn (RT.sl Tryz.underlying36 (rt159 N))
theorem rt38 (N : Nat) : RT Tryz.prog N 38 18 enapi_State Ok_api_State bk_api_State := RT.dn (RY.st Tryz.underlying38 ((rt3 N).a ((rt3 N).a ((rt3 N).a ((rt27 N).a ((rt28 N).a ((rt3 N).a ((rt29 N).a ((rt30 N).a ((rt31 N).a ((rt32 N).a ((rt33 N).a ((rt34 N).a ((rt35 N).a ((rt36 N).a ((rt29 N).a ((rt29 N).a ((rt29 N).a ((rt3 N).o)))))))))))))))))) (fun (a0, a1, a2, a3, a4, a5, a6, a7, a8, a9, a10, a11, a12, a13, a14, a15, a16, a17) => .mk a0 a1 a2 a3 a4 a5 a6 a7 a8 a9 a10 a11 a12 a13 a14 a15 a16 a17) (fun y => (y.Site, y.Now, y.Seq, y.Agenda, y.Procs, y.NextProc, y.Vars, y.Resources, y.Stores, y.Belts, y.Queues, y.Streams, y.Tallies, y.Levels, y.Counts, y.Created, y.Ended, y.Dropped)))
theorem rt22 : RTs Tryz.prog 22 LX.t38 Ok_api_State bk_api_State := fun N => RT.dn (RT.sl Tryz.underlying22 (rt38 N))
theorem rt24 (N : Nat) : RT Tryz.prog N 24 1 enapi_World Ok_api_World bk_api_World := RT.dn (RY.st Tryz.underlying24 ((rt22 N).o) (fun a0 => .mk a0) (fun y => y.Sites))
theorem rt217 : RTi Tryz.prog 217 .i64 := RT.int Tryz.underlying217
theorem rt219 (N : Nat) : RT Tryz.prog N 219 3 enapi_Value Ok_api_Value bk_api_Value := RT.dn (RY.st Tryz.underlying219 ((rt9 N).a ((rt217 N).a ((rt3 N).o))) (fun (a0, a1, a2) => .mk a0 a1 a2) (fun y => (y.Name, y.Type_, y.N)))
theorem rt71 : RTs Tryz.prog 71 LX.t219 Ok_api_Value bk_api_Value := fun N => RT.dn (RT.sl Tryz.underlying71 (rt219 N))
theorem rt367 (N : Nat) : RT Tryz.prog N 367 2 enapi_Change Ok_api_Change bk_api_Change := RT.dn (RY.st Tryz.underlying367 ((rt3 N).a ((rt3 N).o)) (fun (a0, a1) => .mk a0 a1) (fun y => (y.At, y.Units)))
theorem rt292 : RTs Tryz.prog 292 LX.t367 Ok_api_Change bk_api_Change := fun N => RT.dn (RT.sl Tryz.underlying292 (rt367 N))
theorem rt116 : RTi Tryz.prog 116 .i64 := RT.int Tryz.underlying116
theorem rt118 (N : Nat) : RT Tryz.prog N 118 6 enapi_Dist Ok_api_Dist bk_api_Dist := RT.dn (RY.st Tryz.underlying118 ((rt116 N).a ((rt3 N).a ((rt3 N).a ((rt3 N).a ((rt29 N).a ((rt29 N).o)))))) (fun (a0, a1, a2, a3, a4, a5) => .mk a0 a1 a2 a3 a4 a5) (fun y => (y.Op, y.A, y.B, y.N, y.Values, y.Weights)))
theorem rt294 (N : Nat) : RT Tryz.prog N 294 13 enapi_Fault Ok_api_Fault bk_api_Fault := RT.dn (RY.st Tryz.underlying294 ((rt9 N).a ((rt118 N).a ((rt118 N).o))) (fun (a0, a1, a2) => .mk a0 a1 a2) (fun y => (y.Stream, y.Up, y.Down)))
theorem rt296 (N : Nat) : RT Tryz.prog N 296 17 enapi_ResourceDecl Ok_api_ResourceDecl bk_api_ResourceDecl := RT.dn (RY.st Tryz.underlying296 ((rt9 N).a ((rt3 N).a ((rt292 N).a ((rt3 N).a ((rt294 N).o))))) (fun (a0, a1, a2, a3, a4) => .mk a0 a1 a2 a3 a4) (fun y => (y.Name, y.Units, y.Shift, y.Cycle, y.Fault)))
theorem rt72 : RTs Tryz.prog 72 LX.t296 Ok_api_ResourceDecl bk_api_ResourceDecl := fun N => RT.dn (RT.sl Tryz.underlying72 (rt296 N))
theorem rt250 (N : Nat) : RT Tryz.prog N 250 3 enapi_StoreDecl Ok_api_StoreDecl bk_api_StoreDecl := RT.dn (RY.st Tryz.underlying250 ((rt9 N).a ((rt3 N).a ((rt62 N).o))) (fun (a0, a1, a2) => .mk a0 a1 a2) (fun y => (y.Name, y.Room, y.Policy)))
theorem rt73 : RTs Tryz.prog 73 LX.t250 Ok_api_StoreDecl bk_api_StoreDecl := fun N => RT.dn (RT.sl Tryz.underlying73 (rt250 N))
theorem rt253 (N : Nat) : RT Tryz.prog N 253 3 enapi_BeltDecl Ok_api_BeltDecl bk_api_BeltDecl := RT.dn (RY.st Tryz.underlying253 ((rt9 N).a ((rt3 N).a ((rt3 N).o))) (fun (a0, a1, a2) => .mk a0 a1 a2) (fun y => (y.Name, y.Length, y.Step)))
theorem rt74 : RTs Tryz.prog 74 LX.t253 Ok_api_BeltDecl bk_api_BeltDecl := fun N => RT.dn (RT.sl Tryz.underlying74 (rt253 N))
theorem rt75 : RTs Tryz.prog 75 LX.t9 okS (fun x => x.size + 1) := fun N => RT.dn (RT.sl Tryz.underlying75 (rt9 N))
theorem rt344 (N : Nat) : RT Tryz.prog N 344 2 enapi_Field Ok_api_Field bk_api_Field := RT.dn (RY.st Tryz.underlying344 ((rt9 N).a ((rt217 N).o)) (fun (a0, a1) => .mk a0 a1) (fun y => (y.Name, y.Type_)))
theorem rt222 : RTs Tryz.prog 222 LX.t344 Ok_api_Field bk_api_Field := fun N => RT.dn (RT.sl Tryz.underlying222 (rt344 N))
theorem rt406 : RTi Tryz.prog 406 .i64 := RT.int Tryz.underlying406
theorem rt113 : RTi Tryz.prog 113 .i64 := RT.int Tryz.underlying113
theorem rg115 : ∀ N, RT Tryz.prog N 115 4 enapi_Expr Ok_api_Expr bk_api_Expr
  | 0 => .zero
  | N + 1 => have ih := rg115 N; RY.st Tryz.underlying115 ((rt113 N).a ((rt9 N).a ((rt3 N).a ((RT.sl (K := LX.t115) Tryz.underlying111 ih).dn.o)))) (fun (a0, a1, a2, a3) => .mk a0 a1 a2 a3) (fun y => (y.Op, y.Name, y.N, y.Kids)) (hok := fun y h => by cases y; obtain ⟨h0, h1, h2, ⟨h3, k3⟩⟩ := h; exact .mk _ _ _ _ h0 h1 h2 h3 k3) (hbk := bk_api_Expr_eq)
theorem rt115 (N : Nat) : RT Tryz.prog N 115 4 enapi_Expr Ok_api_Expr bk_api_Expr := rg115 N
theorem rt111 : RTs Tryz.prog 111 LX.t115 Ok_api_Expr bk_api_Expr := fun N => RT.dn (RT.sl Tryz.underlying111 (rt115 N))
theorem rg408 : ∀ N, RT Tryz.prog N 408 21 enapi_Stmt Ok_api_Stmt bk_api_Stmt
  | 0 => .zero
  | N + 1 => have ih := rg408 N; RY.st Tryz.underlying408 ((rt406 N).a ((rt9 N).a ((rt9 N).a ((rt115 N).a ((rt115 N).a ((rt111 N).a ((rt118 N).a ((rt4 N).a ((RT.sl (K := LX.t408) Tryz.underlying223 ih).dn.a ((RT.sl (K := LX.t408) Tryz.underlying223 ih).dn.o)))))))))) (fun (a0, a1, a2, a3, a4, a5, a6, a7, a8, a9) => .mk a0 a1 a2 a3 a4 a5 a6 a7 a8 a9) (fun y => (y.Op, y.Name, y.Of, y.E, y.F, y.Args, y.Dist, y.Flag, y.Body, y.Else)) (hok := fun y h => by cases y; obtain ⟨h0, h1, h2, h3, h4, ⟨h5, k5⟩, h6, h7, ⟨h8, k8⟩, ⟨h9, k9⟩⟩ := h; exact .mk _ _ _ _ _ _ _ _ _ _ h0 h1 h2 h3 h4 h5 k5 h6 h7 h8 k8 h9 k9) (hbk := bk_api_Stmt_eq)
theorem rt408 (N : Nat) : RT Tryz.prog N 408 21 enapi_Stmt Ok_api_Stmt bk_api_Stmt := rg408 N
theorem rt223 : RTs Tryz.prog 223 LX.t408 Ok_api_Stmt bk_api_Stmt := fun N => RT.dn (RT.sl Tryz.underlying223 (rt408 N))
theorem rt225 (N : Nat) : RT Tryz.prog N 225 4 enapi_Routine Ok_api_Routine bk_api_Routine := RT.dn (RY.st Tryz.underlying225 ((rt9 N).a ((rt222 N).a ((rt222 N).a ((rt223 N).o)))) (fun (a0, a1, a2, a3) => .mk a0 a1 a2 a3) (fun y => (y.Name, y.Params, y.Locals, y.Body)))
theorem rt76 : RTs Tryz.prog 76 LX.t225 Ok_api_Routine bk_api_Routine := fun N => RT.dn (RT.sl Tryz.underlying76 (rt225 N))
theorem rt266 (N : Nat) : RT Tryz.prog N 266 5 enapi_Start Ok_api_Start bk_api_Start := RT.dn (RY.st Tryz.underlying266 ((rt9 N).a ((rt29 N).a ((rt3 N).a ((rt3 N).a ((rt3 N).o))))) (fun (a0, a1, a2, a3, a4) => .mk a0 a1 a2 a3 a4) (fun y => (y.Routine, y.Args, y.At, y.Every, y.Until)))
theorem rt77 : RTs Tryz.prog 77 LX.t266 Ok_api_Start bk_api_Start := fun N => RT.dn (RT.sl Tryz.underlying77 (rt266 N))
theorem rt347 (N : Nat) : RT Tryz.prog N 347 3 enapi_Term Ok_api_Term bk_api_Term := RT.dn (RY.st Tryz.underlying347 ((rt3 N).a ((rt9 N).a ((rt9 N).o))) (fun (a0, a1, a2) => .mk a0 a1 a2) (fun y => (y.Coef, y.What, y.Name)))
theorem rt268 : RTs Tryz.prog 268 LX.t347 Ok_api_Term bk_api_Term := fun N => RT.dn (RT.sl Tryz.underlying268 (rt347 N))
theorem rt270 (N : Nat) : RT Tryz.prog N 270 3 enapi_Law Ok_api_Law bk_api_Law := RT.dn (RY.st Tryz.underlying270 ((rt9 N).a ((rt268 N).a ((rt3 N).o))) (fun (a0, a1, a2) => .mk a0 a1 a2) (fun y => (y.Name, y.Terms, y.Total)))
theorem rt78 : RTs Tryz.prog 78 LX.t270 Ok_api_Law bk_api_Law := fun N => RT.dn (RT.sl Tryz.underlying78 (rt270 N))
theorem rt80 (N : Nat) : RT Tryz.prog N 80 13 enapi_SiteDecl Ok_api_SiteDecl bk_api_SiteDecl := RT.dn (RY.st Tryz.underlying80 ((rt9 N).a ((rt71 N).a ((rt72 N).a ((rt73 N).a ((rt74 N).a ((rt75 N).a ((rt75 N).a ((rt75 N).a ((rt75 N).a ((rt75 N).a ((rt76 N).a ((rt77 N).a ((rt78 N).o))))))))))))) (fun (a0, a1, a2, a3, a4, a5, a6, a7, a8, a9, a10, a11, a12) => .mk a0 a1 a2 a3 a4 a5 a6 a7 a8 a9 a10 a11 a12) (fun y => (y.Name, y.Vars, y.Resources, y.Stores, y.Belts, y.Queues, y.Streams, y.Tallies, y.Levels, y.Counts, y.Routines, y.Starts, y.Laws)))
theorem rt112 : RTi Tryz.prog 112 .i64 := RT.int Tryz.underlying112
theorem rt120 (N : Nat) : RT Tryz.prog N 120 20 enapi_Instr Ok_api_Instr bk_api_Instr := RT.dn (RY.st Tryz.underlying120 ((rt112 N).a ((rt3 N).a ((rt3 N).a ((rt3 N).a ((rt115 N).a ((rt115 N).a ((rt111 N).a ((rt118 N).a ((rt4 N).o))))))))) (fun (a0, a1, a2, a3, a4, a5, a6, a7, a8) => .mk a0 a1 a2 a3 a4 a5 a6 a7 a8) (fun y => (y.Op, y.A, y.B, y.C, y.E, y.F, y.Args, y.Dist, y.Flag)))
theorem rt84 : RTs Tryz.prog 84 LX.t120 Ok_api_Instr bk_api_Instr := fun N => RT.dn (RT.sl Tryz.underlying84 (rt120 N))
theorem rt86 (N : Nat) : RT Tryz.prog N 86 4 enapi_Code Ok_api_Code bk_api_Code := RT.dn (RY.st Tryz.underlying86 ((rt9 N).a ((rt3 N).a ((rt3 N).a ((rt84 N).o)))) (fun (a0, a1, a2, a3) => .mk a0 a1 a2 a3) (fun y => (y.Name, y.Params, y.Slots, y.Instrs)))
theorem rt81 : RTs Tryz.prog 81 LX.t86 Ok_api_Code bk_api_Code := fun N => RT.dn (RT.sl Tryz.underlying81 (rt86 N))
theorem rt83 (N : Nat) : RT Tryz.prog N 83 14 enapi_SiteCode Ok_api_SiteCode bk_api_SiteCode := RT.dn (RY.st Tryz.underlying83 ((rt80 N).a ((rt81 N).o)) (fun (a0, a1) => .mk a0 a1) (fun y => (y.Decl, y.Routines)))
theorem rt45 : RTs Tryz.prog 45 LX.t83 Ok_api_SiteCode bk_api_SiteCode := fun N => RT.dn (RT.sl Tryz.underlying45 (rt83 N))
theorem rt227 (N : Nat) : RT Tryz.prog N 227 3 enapi_Arc Ok_api_Arc bk_api_Arc := RT.dn (RY.st Tryz.underlying227 ((rt3 N).a ((rt3 N).a ((rt3 N).o))) (fun (a0, a1, a2) => .mk a0 a1 a2) (fun y => (y.From, y.To, y.Delay)))
theorem rt46 : RTs Tryz.prog 46 LX.t227 Ok_api_Arc bk_api_Arc := fun N => RT.dn (RT.sl Tryz.underlying46 (rt227 N))
theorem rt48 (N : Nat) : RT Tryz.prog N 48 3 enapi_Program Ok_api_Program bk_api_Program := RT.dn (RY.st Tryz.underlying48 ((rt9 N).a ((rt45 N).a ((rt46 N).o))) (fun (a0, a1, a2) => .mk a0 a1 a2) (fun y => (y.Name, y.Sites, y.Links)))
theorem rt57 (N : Nat) : RT Tryz.prog N 57 3 enArr3_Int Ok_Arr3_Int bk_Arr3_Int := RT.dn (RY.ar Tryz.underlying57 ((rt5 N).a ((rt5 N).a ((rt5 N).o))) (fun (a0, a1, a2) => .mk a0 a1 a2) (fun y => (y.a0, y.a1, y.a2)))
def rdL : List Nat := [3, 4, 5, 9, 22, 24, 27, 28, 29, 30, 31, 32, 33, 34, 35, 36, 38, 45, 46, 48, 57, 59, 61, 62, 63, 65, 66, 68, 71, 72, 73, 74, 75, 76, 77, 78, 80, 81, 83, 84, 86, 111, 112, 113, 115, 116, 118, 120, 123, 125, 129, 131, 147, 149, 154, 159, 179, 181, 190, 217, 219, 222, 223, 225, 227, 250, 253, 266, 268, 270, 292, 294, 296, 344, 347, 367, 406, 408]
theorem rdMk : MkRows Tryz.prog rdL := by
  intro e n m f he hs hf
  simp only [rdL, List.mem_cons, List.not_mem_nil, or_false] at he
  rcases he with rfl | rfl | rfl | rfl | rfl | rfl | rfl | rfl | rfl | rfl | rfl | rfl | rfl | rfl | rfl | rfl | rfl | rfl | rfl | rfl | rfl | rfl | rfl | rfl | rfl | rfl | rfl | rfl | rfl | rfl | rfl | rfl | rfl | rfl | rfl | rfl | rfl | rfl | rfl | rfl | rfl | rfl | rfl | rfl | rfl | rfl | rfl | rfl | rfl | rfl | rfl | rfl | rfl | rfl | rfl | rfl | rfl | rfl | rfl | rfl | rfl | rfl | rfl | rfl | rfl | rfl | rfl | rfl | rfl | rfl | rfl | rfl | rfl | rfl | rfl | rfl | rfl | rfl
  · exact RT.rows (K := LX.t3) rt3 (hf := hf)
  · exact RT.rows (K := LX.t4) rt4 (hf := hf)
  · exact RT.rows (K := LX.t5) rt5 (hf := hf)
  · exact RT.rows (K := LX.t9) rt9 (hf := hf)
  · exact nomatch hs
  · exact nomatch hs
  · exact nomatch hs
  · exact nomatch hs
  · exact RT.rows (K := LX.t29) rt29 (hf := hf)
  · exact nomatch hs
  · exact nomatch hs
  · exact nomatch hs
  · exact nomatch hs
  · exact nomatch hs
  · exact nomatch hs
  · exact nomatch hs
  · exact RT.rows (K := LX.t38) rt38 (hf := hf)
  · exact nomatch hs
  · exact nomatch hs
  · exact nomatch hs
  · exact nomatch hs
  · exact RT.rows (K := LX.t59) rt59 (hf := hf)
  · exact RT.rows (K := LX.t61) rt61 (hf := hf)
  · exact nomatch hs
  · exact nomatch hs
  · exact RT.rows (K := LX.t65) rt65 (hf := hf)
  · exact nomatch hs
  · exact RT.rows (K := LX.t68) rt68 (hf := hf)
  · exact nomatch hs
  · exact nomatch hs
  · exact nomatch hs
  · exact nomatch hs
  · exact RT.rows (K := LX.t75) rt75 (hf := hf)
  · exact nomatch hs
  · exact nomatch hs
  · exact nomatch hs
  · exact RT.rows (K := LX.t80) rt80 (hf := hf)
  · exact nomatch hs
  · exact RT.rows (K := LX.t83) rt83 (hf := hf)
  · exact nomatch hs
  · exact RT.rows (K := LX.t86) rt86 (hf := hf)
  · exact nomatch hs
  · exact nomatch hs
  · exact nomatch hs
  · exact RT.rows (K := LX.t115) rt115 (hf := hf)
  · exact nomatch hs
  · exact nomatch hs
  · exact RT.rows (K := LX.t120) rt120 (hf := hf)
  · exact nomatch hs
  · exact RT.rows (K := LX.t125) rt125 (hf := hf)
  · exact nomatch hs
  · exact RT.rows (K := LX.t131) rt131 (hf := hf)
  · exact nomatch hs
  · exact RT.rows (K := LX.t149) rt149 (hf := hf)
  · exact RT.rows (K := LX.t154) rt154 (hf := hf)
  · exact RT.rows (K := LX.t159) rt159 (hf := hf)
  · exact RT.rows (K := LX.t179) rt179 (hf := hf)
  · exact RT.rows (K := LX.t181) rt181 (hf := hf)
  · exact RT.rows (K := LX.t190) rt190 (hf := hf)
  · exact nomatch hs
  · exact RT.rows (K := LX.t219) rt219 (hf := hf)
  · exact RT.rows (K := LX.t222) rt222 (hf := hf)
  · exact nomatch hs
  · exact RT.rows (K := LX.t225) rt225 (hf := hf)
  · exact RT.rows (K := LX.t227) rt227 (hf := hf)
  · exact RT.rows (K := LX.t250) rt250 (hf := hf)
  · exact RT.rows (K := LX.t253) rt253 (hf := hf)
  · exact RT.rows (K := LX.t266) rt266 (hf := hf)
  · exact nomatch hs
  · exact RT.rows (K := LX.t270) rt270 (hf := hf)
  · exact nomatch hs
  · exact nomatch hs
  · exact RT.rows (K := LX.t296) rt296 (hf := hf)
  · exact RT.rows (K := LX.t344) rt344 (hf := hf)
  · exact RT.rows (K := LX.t347) rt347 (hf := hf)
  · exact RT.rows (K := LX.t367) rt367 (hf := hf)
  · exact nomatch hs
  · exact RT.rows (K := LX.t408) rt408 (hf := hf)
theorem rdOk : okAll Tryz.prog rdL = true := by kernel_rfl
end Go.Proofs.YtpdlcbmnmeihoaaGreatDoor.Ev
