import Derived.Test.YthjhkpgonleelaaGreatDoorBG6
import Derived.Test.YthjhkpgonleelaaGreatDoorBG7
namespace Go.Proofs.YthjhkpgonleelaaGreatDoor.Ev
open Go An
set_option maxRecDepth 100000
set_option maxHeartbeats 4000000
set_option linter.unusedVariables false
set_option linter.unusedSimpArgs false
set_option linter.unnecessarySimpa false
noncomputable section
variable {A:Type} (L n:Nat) (kk:Ep) (K:Ci) (k:Bn)
def Abg [An A (Bc×Int)](a0:Ad)(a1:List Bo)(a2:Int)(a3:Int):A:=
 (bd (Nk L (⟨a0.Name,a0.Sites,a0.Links⟩:Ad)) fun r1=>
 (cn (r1 != 0)
 (lf ((⟨0,0,[],[],[],[]⟩:Bc),r1))
 (bd (L2 L (⟨a0.Name,a0.Sites,a0.Links⟩:Ad) a2 a3) fun r2=>
 (cn r2
 (lf ((⟨0,0,[],[],[],[]⟩:Bc),2))
 (bd (Gp L (⟨a0.Name,a0.Sites,a0.Links⟩:Ad) a1 a2 a3) fun r3=>
 (lf (r3,0)))))))
def Qj(a0:Ad)(a1:List Bo)(a2:Int)(a3:Int):Option (Bc×Int):=Abg L a0 a1 a2 a3
def X8:Qi:=E4 (fun(x:Bc×Int)=> .tup [.agg (Xm x.1),I x.2]) 8 H5 Bfa (cI .i64) (cI .i64) (Qj L) fun a0 a1 a2 a3 r h=>hF Tryz.func8 (oS [X20 L,X21 L,X22 L]) L (fun kk=>eE (Abg L a0 a1 a2 a3)) h
end
end Go.Proofs.YthjhkpgonleelaaGreatDoor.Ev
