import Derived.Test.YthjhkpgonleelaaGreatDoorAG6
import Derived.Test.YthjhkpgonleelaaGreatDoorAG7
namespace Go.Proofs.YthjhkpgonleelaaGreatDoor.Ev
open Go An
set_option maxRecDepth 100000
set_option maxHeartbeats 4000000
set_option linter.unusedVariables false
set_option linter.unusedSimpArgs false
set_option linter.unnecessarySimpa false
noncomputable section
variable {A:Type} (L n:Nat) (kk:Cc) (K:Bg) (k:Bu)
def Aiv [An A (Ak×Int)](a0:Ac)(a1:List Bl)(a2:Int)(a3:Int):A:=
 (bd (w5 L (⟨a0.Name,a0.Sites,a0.Links⟩:Ac)) fun r1=>
 (cn (r1 != 0)
 (lf ((⟨0,0,[],[],[],[]⟩:Ak),r1))
 (bd (Xn L (⟨a0.Name,a0.Sites,a0.Links⟩:Ac) a2 a3) fun r2=>
 (cn r2
 (lf ((⟨0,0,[],[],[],[]⟩:Ak),2))
 (bd (Mm L (⟨a0.Name,a0.Sites,a0.Links⟩:Ac) a1 a2 a3) fun r3=>
 (lf (r3,0)))))))
def Mk(a0:Ac)(a1:List Bl)(a2:Int)(a3:Int):Option (Ak×Int):=Aiv L a0 a1 a2 a3
def X8:Di:=E4 (fun(x:Ak×Int)=> .tup [.agg (Em x.1),I x.2]) 8 B6 A7y (cI .i64) (cI .i64) (Mk L) fun a0 a1 a2 a3 r h=>hF Tryz.func8 (oS [X20 L,X21 L,X22 L]) L (fun kk=>eE (Aiv L a0 a1 a2 a3)) h
end
end Go.Proofs.YthjhkpgonleelaaGreatDoor.Ev
