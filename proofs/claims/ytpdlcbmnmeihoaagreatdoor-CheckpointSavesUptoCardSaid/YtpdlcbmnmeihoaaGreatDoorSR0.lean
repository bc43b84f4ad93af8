/-  What is read, and its bulk. -/
import Derived.Test.YtpdlcbmnmeihoaaGreatDoorSG0
import Derived.Test.YtpdlcbmnmeihoaaGreatDoorSFz
set_option maxRecDepth 100000
set_option maxHeartbeats 4000000
set_option linter.unusedVariables false
set_option linter.unusedSimpArgs false
set_option linter.unnecessarySimpa false
namespace Go.Proofs.YtpdlcbmnmeihoaaGreatDoor.Ev
open Go An
def Ok_api_Rider (x : api_Rider) : Prop := okI .i64 x.Proc ∧ okI .i64 x.Entry ∧ okI .i64 x.Exit
def bk_api_Rider (x : api_Rider) : Nat := (1 + (1 + 1)) + 1
def Ok_api_Belt (x : api_Belt) : Prop := okI .i64 x.Length ∧ okI .i64 x.Step ∧ (x.Riders.length ≤ maxLen ∧ ∀ y ∈ x.Riders, Ok_api_Rider y) ∧ okI .i64 x.Last
def bk_api_Belt (x : api_Belt) : Nat := (1 + (1 + ((sumL bk_api_Rider x.Riders + 1) + 1))) + 1
def Ok_api_Claim (x : api_Claim) : Prop := okI .i64 x.Proc ∧ okI .i64 x.Units ∧ okI .i64 x.Prio ∧ okI .i64 x.Seq ∧ True
def bk_api_Claim (x : api_Claim) : Nat := (1 + (1 + (1 + (1 + 1)))) + 1
def Ok_api_Event (x : api_Event) : Prop := okI .i64 x.Time ∧ okI .i64 x.Prio ∧ okI .i64 x.From ∧ okI .i64 x.Seq ∧ okI .i64 x.Site ∧ okI .i64 x.Kind ∧ okI .i64 x.A ∧ okI .i64 x.B ∧ (x.Args.length ≤ maxLen ∧ ∀ y ∈ x.Args, okI .i64 y)
def bk_api_Event (x : api_Event) : Nat := (1 + (1 + (1 + (1 + (1 + (1 + (1 + (1 + ((sumL (fun (z : Int) => 1) x.Args + 1)))))))))) + 1
def Ok_api_Level (x : api_Level) : Prop := okI .i64 x.Value ∧ okI .i64 x.Since ∧ okI .i64 x.Begin ∧ okI .i64 x.Area ∧ okI .i64 x.Min ∧ okI .i64 x.Max
def bk_api_Level (x : api_Level) : Nat := (1 + (1 + (1 + (1 + (1 + 1))))) + 1
def Ok_api_Proc (x : api_Proc) : Prop := okI .i64 x.Id ∧ okI .i64 x.Routine ∧ okI .i64 x.Pc ∧ (x.Slots.length ≤ maxLen ∧ ∀ y ∈ x.Slots, okI .i64 y) ∧ okI .i64 x.Status ∧ okI .i64 x.Born ∧ okI .i64 x.Left
def bk_api_Proc (x : api_Proc) : Nat := (1 + (1 + (1 + ((sumL (fun (z : Int) => 1) x.Slots + 1) + (1 + (1 + 1)))))) + 1
def Ok_api_Ready (x : api_Ready) : Prop := okI .i64 x.Proc ∧ okI .i64 x.Item
def bk_api_Ready (x : api_Ready) : Nat := (1 + 1) + 1
def Ok_api_Resource (x : api_Resource) : Prop := okI .i64 x.Units ∧ True ∧ (x.Holders.length ≤ maxLen ∧ ∀ y ∈ x.Holders, Ok_api_Claim y) ∧ (x.Queue.length ≤ maxLen ∧ ∀ y ∈ x.Queue, Ok_api_Claim y) ∧ okI .i64 x.Next
def bk_api_Resource (x : api_Resource) : Nat := (1 + (1 + ((sumL bk_api_Claim x.Holders + 1) + ((sumL bk_api_Claim x.Queue + 1) + 1)))) + 1
def Ok_api_Store (x : api_Store) : Prop := okI .i64 x.Room ∧ okI .i64 x.Policy ∧ (x.Items.length ≤ maxLen ∧ ∀ y ∈ x.Items, okI .i64 y) ∧ (x.Putters.length ≤ maxLen ∧ ∀ y ∈ x.Putters, Ok_api_Ready y) ∧ (x.Getters.length ≤ maxLen ∧ ∀ y ∈ x.Getters, okI .i64 y) ∧ okI .i64 x.In ∧ okI .i64 x.Out
def bk_api_Store (x : api_Store) : Nat := (1 + (1 + ((sumL (fun (z : Int) => 1) x.Items + 1) + ((sumL bk_api_Ready x.Putters + 1) + ((sumL (fun (z : Int) => 1) x.Getters + 1) + (1 + 1)))))) + 1
def Ok_api_Stream (x : api_Stream) : Prop := okI .u64 x.Key ∧ okI .i64 x.Pos ∧ True
def bk_api_Stream (x : api_Stream) : Nat := (1 + (1 + 1)) + 1
def Ok_api_Tally (x : api_Tally) : Prop := okI .i64 x.N ∧ okI .i64 x.Sum ∧ okI .i64 x.Squares ∧ okI .i64 x.Min ∧ okI .i64 x.Max
def bk_api_Tally (x : api_Tally) : Nat := (1 + (1 + (1 + (1 + 1)))) + 1
def Ok_api_State (x : api_State) : Prop := okI .i64 x.Site ∧ okI .i64 x.Now ∧ okI .i64 x.Seq ∧ (x.Agenda.length ≤ maxLen ∧ ∀ y ∈ x.Agenda, Ok_api_Event y) ∧ (x.Procs.length ≤ maxLen ∧ ∀ y ∈ x.Procs, Ok_api_Proc y) ∧ okI .i64 x.NextProc ∧ (x.Vars.length ≤ maxLen ∧ ∀ y ∈ x.Vars, okI .i64 y) ∧ (x.Resources.length ≤ maxLen ∧ ∀ y ∈ x.Resources, Ok_api_Resource y) ∧ (x.Stores.length ≤ maxLen ∧ ∀ y ∈ x.Stores, Ok_api_Store y) ∧ (x.Belts.length ≤ maxLen ∧ ∀ y ∈ x.Belts, Ok_api_Belt y) ∧ (x.Queues.length ≤ maxLen ∧ ∀ y ∈ x.Queues, (y.length ≤ maxLen ∧ ∀ z ∈ y, okI .i64 z)) ∧ (x.Streams.length ≤ maxLen ∧ ∀ y ∈ x.Streams, Ok_api_Stream y) ∧ (x.Tallies.length ≤ maxLen ∧ ∀ y ∈ x.Tallies, Ok_api_Tally y) ∧ (x.Levels.length ≤ maxLen ∧ ∀ y ∈ x.Levels, Ok_api_Level y) ∧ (x.Counts.length ≤ maxLen ∧ ∀ y ∈ x.Counts, okI .i64 y) ∧ (x.Created.length ≤ maxLen ∧ ∀ y ∈ x.Created, okI .i64 y) ∧ (x.Ended.length ≤ maxLen ∧ ∀ y ∈ x.Ended, okI .i64 y) ∧ okI .i64 x.Dropped
def bk_api_State (x : api_State) : Nat := (1 + (1 + (1 + ((sumL bk_api_Event x.Agenda + 1) + ((sumL bk_api_Proc x.Procs + 1) + (1 + ((sumL (fun (z : Int) => 1) x.Vars + 1) + ((sumL bk_api_Resource x.Resources + 1) + ((sumL bk_api_Store x.Stores + 1) + ((sumL bk_api_Belt x.Belts + 1) + ((sumL (fun (z : (List Int)) => (sumL (fun (z : Int) => 1) z + 1)) x.Queues + 1) + ((sumL bk_api_Stream x.Streams + 1) + ((sumL bk_api_Tally x.Tallies + 1) + ((sumL bk_api_Level x.Levels + 1) + ((sumL (fun (z : Int) => 1) x.Counts + 1) + ((sumL (fun (z : Int) => 1) x.Created + 1) + ((sumL (fun (z : Int) => 1) x.Ended + 1) + 1))))))))))))))))) + 1
def Ok_api_World (x : api_World) : Prop := (x.Sites.length ≤ maxLen ∧ ∀ y ∈ x.Sites, Ok_api_State y)
def bk_api_World (x : api_World) : Nat := (sumL bk_api_State x.Sites + 1) + 1
theorem rt3 : RTi Tryz.prog 3 .i64 := RT.int Tryz.underlying3
theorem rt4 : RTb Tryz.prog 4 := RT.bool Tryz.underlying4
theorem rt123 : RTi Tryz.prog 123 .i64 := RT.int Tryz.underlying123
theorem rt29 : RTs Tryz.prog 29 LX.t3 (okI .i64) (fun _ => 1) := fun N => RT.dn (RT.sl Tryz.underlying29 (rt3 N))
theorem rt125 (N : Nat) : RT Tryz.prog N 125 9 enapi_Event Ok_api_Event bk_api_Event := RT.dn (RY.st Tryz.underlying125 ((rt3 N).a ((rt3 N).a ((rt3 N).a ((rt3 N).a ((rt3 N).a ((rt123 N).a ((rt3 N).a ((rt3 N).a ((rt29 N).o))))))))) (fun (a0, a1, a2, a3, a4, a5, a6, a7, a8) => .mk a0 a1 a2 a3 a4 a5 a6 a7 a8) (fun y => (y.Time, y.Prio, y.From, y.Seq, y.Site, y.Kind, y.A, y.B, y.Args)))
theorem rt27 : RTs Tryz.prog 27 LX.t125 Ok_api_Event bk_api_Event := fun N => RT.dn (RT.sl Tryz.underlying27 (rt125 N))
theorem rt129 : RTi Tryz.prog 129 .i64 := RT.int Tryz.underlying129
theorem rt131 (N : Nat) : RT Tryz.prog N 131 7 enapi_Proc Ok_api_Proc bk_api_Proc := RT.dn (RY.st Tryz.underlying131 ((rt3 N).a ((rt3 N).a ((rt3 N).a ((rt29 N).a ((rt129 N).a ((rt3 N).a ((rt3 N).o))))))) (fun (a0, a1, a2, a3, a4, a5, a6) => .mk a0 a1 a2 a3 a4 a5 a6) (fun y => (y.Id, y.Routine, y.Pc, y.Slots, y.Status, y.Born, y.Left)))
theorem rt28 : RTs Tryz.prog 28 LX.t131 Ok_api_Proc bk_api_Proc := fun N => RT.dn (RT.sl Tryz.underlying28 (rt131 N))
theorem rt190 (N : Nat) : RT Tryz.prog N 190 5 enapi_Claim Ok_api_Claim bk_api_Claim := RT.dn (RY.st Tryz.underlying190 ((rt3 N).a ((rt3 N).a ((rt3 N).a ((rt3 N).a ((rt4 N).o))))) (fun (a0, a1, a2, a3, a4) => .mk a0 a1 a2 a3 a4) (fun y => (y.Proc, y.Units, y.Prio, y.Seq, y.Preempt)))
theorem rt59 : RTs Tryz.prog 59 LX.t190 Ok_api_Claim bk_api_Claim := fun N => RT.dn (RT.sl Tryz.underlying59 (rt190 N))
theorem rt61 (N : Nat) : RT Tryz.prog N 61 5 enapi_Resource Ok_api_Resource bk_api_Resource := RT.dn (RY.st Tryz.underlying61 ((rt3 N).a ((rt4 N).a ((rt59 N).a ((rt59 N).a ((rt3 N).o))))) (fun (a0, a1, a2, a3, a4) => .mk a0 a1 a2 a3 a4) (fun y => (y.Units, y.Down, y.Holders, y.Queue, y.Next)))
theorem rt30 : RTs Tryz.prog 30 LX.t61 Ok_api_Resource bk_api_Resource := fun N => RT.dn (RT.sl Tryz.underlying30 (rt61 N))
theorem rt62 : RTi Tryz.prog 62 .i64 := RT.int Tryz.underlying62
theorem rt179 (N : Nat) : RT Tryz.prog N 179 2 enapi_Ready Ok_api_Ready bk_api_Ready := RT.dn (RY.st Tryz.underlying179 ((rt3 N).a ((rt3 N).o)) (fun (a0, a1) => .mk a0 a1) (fun y => (y.Proc, y.Item)))
theorem rt63 : RTs Tryz.prog 63 LX.t179 Ok_api_Ready bk_api_Ready := fun N => RT.dn (RT.sl Tryz.underlying63 (rt179 N))
theorem rt65 (N : Nat) : RT Tryz.prog N 65 7 enapi_Store Ok_api_Store bk_api_Store := RT.dn (RY.st Tryz.underlying65 ((rt3 N).a ((rt62 N).a ((rt29 N).a ((rt63 N).a ((rt29 N).a ((rt3 N).a ((rt3 N).o))))))) (fun (a0, a1, a2, a3, a4, a5, a6) => .mk a0 a1 a2 a3 a4 a5 a6) (fun y => (y.Room, y.Policy, y.Items, y.Putters, y.Getters, y.In, y.Out)))
theorem rt31 : RTs Tryz.prog 31 LX.t65 Ok_api_Store bk_api_Store := fun N => RT.dn (RT.sl Tryz.underlying31 (rt65 N))
theorem rt181 (N : Nat) : RT Tryz.prog N 181 3 enapi_Rider Ok_api_Rider bk_api_Rider := RT.dn (RY.st Tryz.underlying181 ((rt3 N).a ((rt3 N).a ((rt3 N).o))) (fun (a0, a1, a2) => .mk a0 a1 a2) (fun y => (y.Proc, y.Entry, y.Exit)))
theorem rt66 : RTs Tryz.prog 66 LX.t181 Ok_api_Rider bk_api_Rider := fun N => RT.dn (RT.sl Tryz.underlying66 (rt181 N))
theorem rt68 (N : Nat) : RT Tryz.prog N 68 4 enapi_Belt Ok_api_Belt bk_api_Belt := RT.dn (RY.st Tryz.underlying68 ((rt3 N).a ((rt3 N).a ((rt66 N).a ((rt3 N).o)))) (fun (a0, a1, a2, a3) => .mk a0 a1 a2 a3) (fun y => (y.Length, y.Step, y.Riders, y.Last)))
theorem rt32 : RTs Tryz.prog 32 LX.t68 Ok_api_Belt bk_api_Belt := fun N => RT.dn (RT.sl Tryz.underlying32 (rt68 N))
theorem rt33 : RTs Tryz.prog 33 LX.t29 (fun x => (x.length ≤ maxLen ∧ ∀ y ∈ x, okI .i64 y)) (fun x => sumL (fun (z : Int) => 1) x + 1) := fun N => RT.dn (RT.sl Tryz.underlying33 (rt29 N))
theorem rt147 : RTi Tryz.prog 147 .u64 := RT.int Tryz.underlying147
theorem rt149 (N : Nat) : RT Tryz.prog N 149 3 enapi_Stream Ok_api_Stream bk_api_Stream := RT.dn (RY.st Tryz.underlying149 ((rt147 N).a ((rt3 N).a ((rt4 N).o))) (fun (a0, a1, a2) => .mk a0 a1 a2) (fun y => (y.Key, y.Pos, y.Anti)))
theorem rt34 : RTs Tryz.prog 34 LX.t149 Ok_api_Stream bk_api_Stream := fun N => RT.dn (RT.sl Tryz.underlying34 (rt149 N))
theorem rt154 (N : Nat) : RT Tryz.prog N 154 5 enapi_Tally Ok_api_Tally bk_api_Tally := RT.dn (RY.st Tryz.underlying154 ((rt3 N).a ((rt3 N).a ((rt3 N).a ((rt3 N).a ((rt3 N).o))))) (fun (a0, a1, a2, a3, a4) => .mk a0 a1 a2 a3 a4) (fun y => (y.N, y.Sum, y.Squares, y.Min, y.Max)))
theorem rt35 : RTs Tryz.prog 35 LX.t154 Ok_api_Tally bk_api_Tally := fun N => RT.dn (RT.sl Tryz.underlying35 (rt154 N))
theorem rt159 (N : Nat) : RT Tryz.prog N 159 6 enapi_Level Ok_api_Level bk_api_Level := RT.dn (RY.st Tryz.underlying159 ((rt3 N).a ((rt3 N).a ((rt3 N).a ((rt3 N).a ((rt3 N).a ((rt3 N).o)))))) (fun (a0, a1, a2, a3, a4, a5) => .mk a0 a1 a2 a3 a4 a5) (fun y => (y.Value, y.Since, y.Begin, y.Area, y.Min, y.Max)))
theorem rt36 : RTs Tryz.prog 36 LX.t159 Ok_api_Level bk_api_Level := fun N => RT.dn (RT.sl Tryz.underlying36 (rt159 N))
theorem rt38 (N : Nat) : RT Tryz.prog N 38 18 enapi_State Ok_api_State bk_api_State := RT.dn (RY.st Tryz.underlying38 ((rt3 N).a ((rt3 N).a ((rt3 N).a ((rt27 N).a ((rt28 N).a ((rt3 N).a ((rt29 N).a ((rt30 N).a ((rt31 N).a ((rt32 N).a ((rt33 N).a ((rt34 N).a ((rt35 N).a ((rt36 N).a ((rt29 N).a ((rt29 N).a ((rt29 N).a ((rt3 N).o)))))))))))))))))) (fun (a0, a1, a2, a3, a4, a5, a6, a7, a8, a9, a10, a11, a12, a13, a14, a15, a16, a17) => .mk a0 a1 a2 a3 a4 a5 a6 a7 a8 a9 a10 a11 a12 a13 a14 a15 a16 a17) (fun y => (y.Site, y.Now, y.Seq, y.Agenda, y.Procs, y.NextProc, y.Vars, y.Resources, y.Stores, y.Belts, y.Queues, y.Streams, y.Tallies, y.Levels, y.Counts, y.Created, y.Ended, y.Dropped)))
theorem rt22 : RTs Tryz.prog 22 LX.t38 Ok_api_State bk_api_State := fun N => RT.dn (RT.sl Tryz.underlying22 (rt38 N))
theorem rt24 (N : Nat) : RT Tryz.prog N 24 1 enapi_World Ok_api_World bk_api_World := RT.dn (RY.st Tryz.underlying24 ((rt22 N).o) (fun a0 => .mk a0) (fun y => y.Sites))
def rdL : List Nat := [3, 4, 22, 24, 27, 28, 29, 30, 31, 32, 33, 34, 35, 36, 38, 59, 61, 62, 63, 65, 66, 68, 123, 125, 129, 131, 147, 149, 154, 159, 179, 181, 190]
theorem rdMk : MkRows Tryz.prog rdL := by
  intro e n m f he hs hf
  simp only [rdL, List.mem_cons, List.not_mem_nil, or_false] at he
  rcases he with rfl | rfl | rfl | rfl | rfl | rfl | rfl | rfl | rfl | rfl | rfl | rfl | rfl | rfl | rfl | rfl | rfl | rfl | rfl | rfl | rfl | rfl | rfl | rfl | rfl | rfl | rfl | rfl | rfl | rfl | rfl | rfl | rfl
  · exact RT.rows (K := LX.t3) rt3 (hf := hf)
  · exact RT.rows (K := LX.t4) rt4 (hf := hf)
  · exact nomatch hs
  · exact nomatch hs
  · exact nomatch hs
  · exact nomatch hs
  · exact RT.rows (K := LX.t29) rt29 (hf := hf)
  · exact nomatch hs
  · exact nomatch hs
  · exact nomatch hs
  · exact nomatch hs
  · exact nomatch hs
  · exact nomatch hs
  · exact nomatch hs
  · exact RT.rows (K := LX.t38) rt38 (hf := hf)
  · exact RT.rows (K := LX.t59) rt59 (hf := hf)
  · exact RT.rows (K := LX.t61) rt61 (hf := hf)
  · exact nomatch hs
  · exact nomatch hs
  · exact RT.rows (K := LX.t65) rt65 (hf := hf)
  · exact nomatch hs
  · exact RT.rows (K := LX.t68) rt68 (hf := hf)
  · exact nomatch hs
  · exact RT.rows (K := LX.t125) rt125 (hf := hf)
  · exact nomatch hs
  · exact RT.rows (K := LX.t131) rt131 (hf := hf)
  · exact nomatch hs
  · exact RT.rows (K := LX.t149) rt149 (hf := hf)
  · exact RT.rows (K := LX.t154) rt154 (hf := hf)
  · exact RT.rows (K := LX.t159) rt159 (hf := hf)
  · exact RT.rows (K := LX.t179) rt179 (hf := hf)
  · exact RT.rows (K := LX.t181) rt181 (hf := hf)
  · exact RT.rows (K := LX.t190) rt190 (hf := hf)
theorem rdOk : okAll Tryz.prog rdL = true := by kernel_rfl
end Go.Proofs.YtpdlcbmnmeihoaaGreatDoor.Ev
