/-  What is read, and its bulk. -/
import Derived.Test.YtckmlfboedljeaaDoorG0
import Derived.Test.YtckmlfboedljeaaDoorFz
namespace Go.Proofs.YtckmlfboedljeaaDoor.Ev
open Go An
set_option maxRecDepth 100000
set_option maxHeartbeats 4000000
set_option linter.unusedVariables false
set_option linter.unusedSimpArgs false
set_option linter.unnecessarySimpa false
def Oq(x:Aa):Prop:=okI .i64 x.N∧okI .i64 x.D
def Ug(x:Aa):Nat:=(1+1)+1
def J0(x:Ab):Prop:=okI .i64 x.Point∧(x.Seen.length≤maxLen∧∀y∈x.Seen,Oq y)∧okI .i64 x.Out
def Lt(x:Ab):Nat:=(1+((i9 Ug x.Seen+1)+1))+1
theorem rt3:RTi Tryd.prog 3 .i64:=RT.int Tryd.underlying3
theorem Aw1(N:Nat):RT Tryd.prog N 24 2 Al Oq Ug:=RT.dn (RY.st Tryd.underlying24 ((rt3 N).a ((rt3 N).o)) (fun(a0,a1)=> .mk a0 a1) (fun y=>(y.N,y.D)))
theorem A17:RTs Tryd.prog 37 LX.t24 Oq Ug:=fun N=>RT.dn (RT.sl Tryd.underlying37 (Aw1 N))
theorem Azh(N:Nat):RT Tryd.prog N 39 3 n9 J0 Lt:=RT.dn (RY.st Tryd.underlying39 ((rt3 N).a ((A17 N).a ((rt3 N).o))) (fun(a0,a1,a2)=> .mk a0 a1 a2) (fun y=>(y.Point,y.Seen,y.Out)))
theorem Ati:RTs Tryd.prog 22 LX.t39 J0 Lt:=fun N=>RT.dn (RT.sl Tryd.underlying22 (Azh N))
def rdL:List Nat:= [3,22,24,37,39]
theorem Atf:l5 Tryd.prog rdL:=by
 intro e n m f he hs hf
 simp only [rdL,List.mem_cons,List.not_mem_nil,or_false] at he
 rcases he with rfl|rfl|rfl|rfl|rfl
 ·exact RT.rows (K:=LX.t3) rt3 (hf:=hf)
 ·exact nomatch hs
 ·exact RT.rows (K:=LX.t24) Aw1 (hf:=hf)
 ·exact nomatch hs
 ·exact RT.rows (K:=LX.t39) Azh (hf:=hf)
theorem Atg:Aff Tryd.prog rdL=true:=by kernel_rfl
end Go.Proofs.YtckmlfboedljeaaDoor.Ev
