/-  The types of the data, and of rows of them. -/
import Derived.Test.YthjhkpgonleelaaGreatDoorRows
import Derived.WalkKit
import Derived.LoopN
import Derived.Great.BuildSlice
import Derived.Deep.Draws
set_option linter.unusedVariables false
set_option linter.unusedSimpArgs false
set_option linter.unnecessarySimpa false
namespace Go.Proofs.YthjhkpgonleelaaGreatDoor.Ev
open Go
abbrev Yb:=ByteArray
structure Bp where
 a0:Yb
 a1:Yb
 deriving Inhabited
structure Ec where
 a0:Int
 a1:Int
 deriving Inhabited
structure Dt where
 aV:Int
 To:Int
 bU:Int
 deriving Inhabited
structure Bk where
 Op:Int
 A:Int
 B:Int
 N:Int
 aW:(List Int)
 aU:(List Int)
 deriving Inhabited
inductive Ab where
 |mk (Op:Int) (aF:Yb) (N:Int) (aY:(List Ab))
instance:Inhabited Ab:=⟨.mk 0 ByteArray.empty 0 []⟩
def Ab.Op:Ab->Int| .mk x _ _ _=>x
def Ab.aF:Ab->Yb| .mk _ x _ _=>x
def Ab.N:Ab->Int| .mk _ _ x _=>x
def Ab.aY:Ab->(List Ab)| .mk _ _ _ x=>x
def Ab.cp(x:Ab):Ab:=.mk x.Op x.aF x.N x.aY
theorem Ab.cp_eq(x:Ab):Ab.cp x=x:=by cases x;rfl
theorem Ab.eta(x:Ab):Ab.mk x.Op x.aF x.N x.aY=x:=by cases x;rfl
structure Ar where
 Op:Int
 A:Int
 B:Int
 C:Int
 E:Ab
 F:Ab
 aP:(List Ab)
 bF:Bk
 bY:Bool
 deriving Inhabited
structure Aq where
 aF:Yb
 aJ:Int
 dD:Int
 aR:(List Ar)
 deriving Inhabited
structure Bg where
 aF:Yb
 Length:Int
 Step:Int
 deriving Inhabited
structure Bd where
 cZ:Int
 aO:Yb
 aF:Yb
 deriving Inhabited
structure Bh where
 aF:Yb
 bV:(List Bd)
 Total:Int
 deriving Inhabited
structure Eu where
 At:Int
 Units:Int
 deriving Inhabited
structure N7 where
 dG:Yb
 Up:Bk
 Down:Bk
 deriving Inhabited
structure Ak where
 aF:Yb
 Units:Int
 bA:(List Eu)
 dA:Int
 bS:N7
 deriving Inhabited
structure Ba where
 aF:Yb
 bO:Int
 deriving Inhabited
inductive Ad where
 |mk (Op:Int) (aF:Yb) (Of:Yb) (E:Ab) (F:Ab) (aP:(List Ab)) (bF:Bk) (bY:Bool) (bE:(List Ad)) (bN:(List Ad))
instance:Inhabited Ad:=⟨.mk 0 ByteArray.empty ByteArray.empty default default [] default false [] []⟩
def Ad.Op:Ad->Int| .mk x _ _ _ _ _ _ _ _ _=>x
def Ad.aF:Ad->Yb| .mk _ x _ _ _ _ _ _ _ _=>x
def Ad.Of:Ad->Yb| .mk _ _ x _ _ _ _ _ _ _=>x
def Ad.E:Ad->Ab| .mk _ _ _ x _ _ _ _ _ _=>x
def Ad.F:Ad->Ab| .mk _ _ _ _ x _ _ _ _ _=>x
def Ad.aP:Ad->(List Ab)| .mk _ _ _ _ _ x _ _ _ _=>x
def Ad.bF:Ad->Bk| .mk _ _ _ _ _ _ x _ _ _=>x
def Ad.bY:Ad->Bool| .mk _ _ _ _ _ _ _ x _ _=>x
def Ad.bE:Ad->(List Ad)| .mk _ _ _ _ _ _ _ _ x _=>x
def Ad.bN:Ad->(List Ad)| .mk _ _ _ _ _ _ _ _ _ x=>x
def Ad.cp(x:Ad):Ad:=.mk x.Op x.aF x.Of (Ab.cp x.E) (Ab.cp x.F) x.aP x.bF x.bY x.bE x.bN
theorem Ad.cp_eq(x:Ad):Ad.cp x=x:=by cases x;simp only[Ad.cp,Ab.cp_eq,Ad.Op,Ad.aF,Ad.Of,Ad.E,Ad.F,Ad.aP,Ad.bF,Ad.bY,Ad.bE,Ad.bN]
theorem Ad.eta(x:Ad):Ad.mk x.Op x.aF x.Of x.E x.F x.aP x.bF x.bY x.bE x.bN=x:=by cases x;rfl
structure Am where
 aF:Yb
 aJ:(List Ba)
 bC:(List Ba)
 bE:(List Ad)
 deriving Inhabited
structure Bv where
 dJ:Yb
 aP:(List Int)
 At:Int
 Every:Int
 Until:Int
 deriving Inhabited
structure Au where
 aF:Yb
 Room:Int
 dM:Int
 deriving Inhabited
structure Aw where
 aF:Yb
 bO:Int
 N:Int
 deriving Inhabited
structure Aa where
 aF:Yb
 bX:(List Aw)
 aG:(List Ak)
 aM:(List Au)
 bL:(List Bg)
 bJ:(List Yb)
 aZ:(List Yb)
 bH:(List Yb)
 bP:(List Yb)
 bD:(List Yb)
 aD:(List Am)
 bZ:(List Bv)
 Laws:(List Bh)
 deriving Inhabited
structure A9 where
 aL:Aa
 aD:(List Aq)
 deriving Inhabited
structure Ac where
 aF:Yb
 aA:(List A9)
 aH:(List Dt)
 deriving Inhabited
structure Ap where
 Time:Int
 bT:Int
 aO:Int
 bI:Int
 aI:Int
 Value:Int
 deriving Inhabited
structure Ie where
 P:Ac
 bQ:(List Ap)
 bT:Int
 T:Int
 Step:Int
 N:Int
 deriving Inhabited
structure C1 where
 aF:Bool
 Of:Bool
 E:Bool
 F:Bool
 aP:Bool
 bF:Bool
 bY:Bool
 bE:Bool
 bN:Bool
 deriving Inhabited
structure Ct where
 Word:Yb
 A:Yb
 B:Yb
 C:Bool
 E:Bool
 F:Bool
 bY:Bool
 aP:Bool
 bF:Bool
 deriving Inhabited
structure Ah where
 bG:Int
 aK:Int
 deriving Inhabited
structure Qw where
 gX:Bool
 fI:Ab
 deriving Inhabited
structure Hg where
 gX:Bool
 dP:Yb
 deriving Inhabited
structure Ao where
 Time:Int
 bT:Int
 dZ:(List Int)
 Held:(List Int)
 dB:(List Int)
 Items:(List Int)
 deriving Inhabited
structure B9 where
 aV:Yb
 To:Yb
 bU:Int
 deriving Inhabited
structure Aj where
 aF:Yb
 aJ:(List Aw)
 aA:(List Aa)
 aH:(List B9)
 deriving Inhabited
structure V7 where
 gQ:Yb
 gB:Int
 gF:Int
 u_c:Bool
 fI:Bool
 fP:Bool
 dF:Bool
 bR:Bool
 dV:Bool
 deriving Inhabited
structure Av where
 bM:Ac
 aS:Int
 u_c:Aq
 deriving Inhabited
structure Bm where
 bW:Bool
 deriving Inhabited
structure Bt where
 dP:Bool
 fT:Bool
 fI:Bool
 fP:Bool
 dF:Bool
 bR:Bool
 fA:Bool
 eZ:Bool
 dY:Bool
 deriving Inhabited
inductive LX where
 |t3 (l:List Int)
 |t4 (l:List Bool)
 |t5 (l:List Int)
 |t9 (l:List Yb)
 |t32 (l:List Ao)
 |t46 (l:List Ap)
 |t61 (l:List (List Yb))
 |t66 (l:List Aa)
 |t69 (l:List A9)
 |t78 (l:List Aq)
 |t86 (l:List Ak)
 |t89 (l:List Au)
 |gJ (l:List (List Ba))
 |t93 (l:List Am)
 |dU (l:List Ab)
 |eY (l:List Ar)
 |t109 (l:List Ah)
 |dN (l:List Ah)
 |dO (l:List Aw)
 |t127 (l:List Dt)
 |fG (l:List Ec)
 |eT (l:List Bv)
 |t154 (l:List Bh)
 |t156 (l:List B9)
 |eH (l:List Bg)
 |eU (l:List Bp)
 |fD (l:List V7)
 |dQ (l:List Ba)
 |t203 (l:List Bd)
 |fK (l:List Ct)
 |fC (l:List Eu)
 |dX (l:List Ad)
 |fO (l:List Hg)
 |fM (l:List Qw)
 deriving Inhabited
def LX.e:LX->Nat
 | .t3 l=>3
 | .t4 l=>4
 | .t5 l=>5
 | .t9 l=>9
 | .t32 l=>32
 | .t46 l=>46
 | .t61 l=>61
 | .t66 l=>66
 | .t69 l=>69
 | .t78 l=>78
 | .t86 l=>86
 | .t89 l=>89
 | .gJ l=>90
 | .t93 l=>93
 | .dU l=>98
 | .eY l=>100
 | .t109 l=>109
 | .dN l=>115
 | .dO l=>123
 | .t127 l=>127
 | .fG l=>135
 | .eT l=>150
 | .t154 l=>154
 | .t156 l=>156
 | .eH l=>178
 | .eU l=>186
 | .fD l=>190
 | .dQ l=>200
 | .t203 l=>203
 | .fK l=>205
 | .fC l=>216
 | .dX l=>264
 | .fO l=>275
 | .fM l=>277
def LX.sz:LX->Nat
 | .t3 l=>1
 | .t4 l=>1
 | .t5 l=>1
 | .t9 l=>1
 | .t32 l=>6
 | .t46 l=>6
 | .t61 l=>1
 | .t66 l=>13
 | .t69 l=>14
 | .t78 l=>4
 | .t86 l=>17
 | .t89 l=>3
 | .gJ l=>1
 | .t93 l=>4
 | .dU l=>4
 | .eY l=>20
 | .t109 l=>2
 | .dN l=>2
 | .dO l=>3
 | .t127 l=>3
 | .fG l=>2
 | .eT l=>5
 | .t154 l=>3
 | .t156 l=>3
 | .eH l=>3
 | .eU l=>2
 | .fD l=>9
 | .dQ l=>2
 | .t203 l=>3
 | .fK l=>9
 | .fC l=>2
 | .dX l=>21
 | .fO l=>2
 | .fM l=>5
def LX.len:LX->Nat
 | .t3 l=>l.length
 | .t4 l=>l.length
 | .t5 l=>l.length
 | .t9 l=>l.length
 | .t32 l=>l.length
 | .t46 l=>l.length
 | .t61 l=>l.length
 | .t66 l=>l.length
 | .t69 l=>l.length
 | .t78 l=>l.length
 | .t86 l=>l.length
 | .t89 l=>l.length
 | .gJ l=>l.length
 | .t93 l=>l.length
 | .dU l=>l.length
 | .eY l=>l.length
 | .t109 l=>l.length
 | .dN l=>l.length
 | .dO l=>l.length
 | .t127 l=>l.length
 | .fG l=>l.length
 | .eT l=>l.length
 | .t154 l=>l.length
 | .t156 l=>l.length
 | .eH l=>l.length
 | .eU l=>l.length
 | .fD l=>l.length
 | .dQ l=>l.length
 | .t203 l=>l.length
 | .fK l=>l.length
 | .fC l=>l.length
 | .dX l=>l.length
 | .fO l=>l.length
 | .fM l=>l.length
def LX.g3:LX->Option (List Int)
 | .t3 l=>some l
 |_=>none
def LX.g4:LX->Option (List Bool)
 | .t4 l=>some l
 |_=>none
def LX.g5:LX->Option (List Int)
 | .t5 l=>some l
 |_=>none
def LX.g9:LX->Option (List Yb)
 | .t9 l=>some l
 |_=>none
def LX.g32:LX->Option (List Ao)
 | .t32 l=>some l
 |_=>none
def LX.g46:LX->Option (List Ap)
 | .t46 l=>some l
 |_=>none
def LX.g61:LX->Option (List (List Yb))
 | .t61 l=>some l
 |_=>none
def LX.g66:LX->Option (List Aa)
 | .t66 l=>some l
 |_=>none
def LX.g69:LX->Option (List A9)
 | .t69 l=>some l
 |_=>none
def LX.g78:LX->Option (List Aq)
 | .t78 l=>some l
 |_=>none
def LX.g86:LX->Option (List Ak)
 | .t86 l=>some l
 |_=>none
def LX.g89:LX->Option (List Au)
 | .t89 l=>some l
 |_=>none
def LX.g90:LX->Option (List (List Ba))
 | .gJ l=>some l
 |_=>none
def LX.g93:LX->Option (List Am)
 | .t93 l=>some l
 |_=>none
def LX.g98:LX->Option (List Ab)
 | .dU l=>some l
 |_=>none
def LX.g100:LX->Option (List Ar)
 | .eY l=>some l
 |_=>none
def LX.g109:LX->Option (List Ah)
 | .t109 l=>some l
 |_=>none
def LX.g115:LX->Option (List Ah)
 | .dN l=>some l
 |_=>none
def LX.g123:LX->Option (List Aw)
 | .dO l=>some l
 |_=>none
def LX.g127:LX->Option (List Dt)
 | .t127 l=>some l
 |_=>none
def LX.g135:LX->Option (List Ec)
 | .fG l=>some l
 |_=>none
def LX.g150:LX->Option (List Bv)
 | .eT l=>some l
 |_=>none
def LX.g154:LX->Option (List Bh)
 | .t154 l=>some l
 |_=>none
def LX.g156:LX->Option (List B9)
 | .t156 l=>some l
 |_=>none
def LX.g178:LX->Option (List Bg)
 | .eH l=>some l
 |_=>none
def LX.g186:LX->Option (List Bp)
 | .eU l=>some l
 |_=>none
def LX.g190:LX->Option (List V7)
 | .fD l=>some l
 |_=>none
def LX.g200:LX->Option (List Ba)
 | .dQ l=>some l
 |_=>none
def LX.g203:LX->Option (List Bd)
 | .t203 l=>some l
 |_=>none
def LX.g205:LX->Option (List Ct)
 | .fK l=>some l
 |_=>none
def LX.g216:LX->Option (List Eu)
 | .fC l=>some l
 |_=>none
def LX.g264:LX->Option (List Ad)
 | .dX l=>some l
 |_=>none
def LX.g275:LX->Option (List Hg)
 | .fO l=>some l
 |_=>none
def LX.g277:LX->Option (List Qw)
 | .fM l=>some l
 |_=>none
def Ty{α :Type}(K: α->LX)(o:Option α):Option LX:=match o with
 |some l=>some (K l)
 |none=>none
def B9g{α :Type}(b:Bool)(K: α->LX)(o:Option α):Option LX:=match b,o with
 |true,some l=>some (K l)
 |_,_=>none
def LX.cat(x y:LX):Option LX:=match x with
 | .t3 l=>Ty (λm=>.t3 (l++m)) y.g3
 | .t4 l=>Ty (λm=>.t4 (l++m)) y.g4
 | .t5 l=>Ty (λm=>.t5 (l++m)) y.g5
 | .t9 l=>Ty (λm=>.t9 (l++m)) y.g9
 | .t32 l=>Ty (λm=>.t32 (l++m)) y.g32
 | .t46 l=>Ty (λm=>.t46 (l++m)) y.g46
 | .t61 l=>Ty (λm=>.t61 (l++m)) y.g61
 | .t66 l=>Ty (λm=>.t66 (l++m)) y.g66
 | .t69 l=>Ty (λm=>.t69 (l++m)) y.g69
 | .t78 l=>Ty (λm=>.t78 (l++m)) y.g78
 | .t86 l=>Ty (λm=>.t86 (l++m)) y.g86
 | .t89 l=>Ty (λm=>.t89 (l++m)) y.g89
 | .gJ l=>Ty (λm=>.gJ (l++m)) y.g90
 | .t93 l=>Ty (λm=>.t93 (l++m)) y.g93
 | .dU l=>Ty (λm=>.dU (l++m)) y.g98
 | .eY l=>Ty (λm=>.eY (l++m)) y.g100
 | .t109 l=>Ty (λm=>.t109 (l++m)) y.g109
 | .dN l=>Ty (λm=>.dN (l++m)) y.g115
 | .dO l=>Ty (λm=>.dO (l++m)) y.g123
 | .t127 l=>Ty (λm=>.t127 (l++m)) y.g127
 | .fG l=>Ty (λm=>.fG (l++m)) y.g135
 | .eT l=>Ty (λm=>.eT (l++m)) y.g150
 | .t154 l=>Ty (λm=>.t154 (l++m)) y.g154
 | .t156 l=>Ty (λm=>.t156 (l++m)) y.g156
 | .eH l=>Ty (λm=>.eH (l++m)) y.g178
 | .eU l=>Ty (λm=>.eU (l++m)) y.g186
 | .fD l=>Ty (λm=>.fD (l++m)) y.g190
 | .dQ l=>Ty (λm=>.dQ (l++m)) y.g200
 | .t203 l=>Ty (λm=>.t203 (l++m)) y.g203
 | .fK l=>Ty (λm=>.fK (l++m)) y.g205
 | .fC l=>Ty (λm=>.fC (l++m)) y.g216
 | .dX l=>Ty (λm=>.dX (l++m)) y.g264
 | .fO l=>Ty (λm=>.fO (l++m)) y.g275
 | .fM l=>Ty (λm=>.fM (l++m)) y.g277
def LX.sub(x:LX)(a b:Nat):LX:=match x with
 | .t3 l=>.t3 ((l.take b).drop a)
 | .t4 l=>.t4 ((l.take b).drop a)
 | .t5 l=>.t5 ((l.take b).drop a)
 | .t9 l=>.t9 ((l.take b).drop a)
 | .t32 l=>.t32 ((l.take b).drop a)
 | .t46 l=>.t46 ((l.take b).drop a)
 | .t61 l=>.t61 ((l.take b).drop a)
 | .t66 l=>.t66 ((l.take b).drop a)
 | .t69 l=>.t69 ((l.take b).drop a)
 | .t78 l=>.t78 ((l.take b).drop a)
 | .t86 l=>.t86 ((l.take b).drop a)
 | .t89 l=>.t89 ((l.take b).drop a)
 | .gJ l=>.gJ ((l.take b).drop a)
 | .t93 l=>.t93 ((l.take b).drop a)
 | .dU l=>.dU ((l.take b).drop a)
 | .eY l=>.eY ((l.take b).drop a)
 | .t109 l=>.t109 ((l.take b).drop a)
 | .dN l=>.dN ((l.take b).drop a)
 | .dO l=>.dO ((l.take b).drop a)
 | .t127 l=>.t127 ((l.take b).drop a)
 | .fG l=>.fG ((l.take b).drop a)
 | .eT l=>.eT ((l.take b).drop a)
 | .t154 l=>.t154 ((l.take b).drop a)
 | .t156 l=>.t156 ((l.take b).drop a)
 | .eH l=>.eH ((l.take b).drop a)
 | .eU l=>.eU ((l.take b).drop a)
 | .fD l=>.fD ((l.take b).drop a)
 | .dQ l=>.dQ ((l.take b).drop a)
 | .t203 l=>.t203 ((l.take b).drop a)
 | .fK l=>.fK ((l.take b).drop a)
 | .fC l=>.fC ((l.take b).drop a)
 | .dX l=>.dX ((l.take b).drop a)
 | .fO l=>.fO ((l.take b).drop a)
 | .fM l=>.fM ((l.take b).drop a)
def LX.rep(x:LX)(n:Nat):LX:=match x with
 | .t3 l=>.t3 (List.replicate n (l.getD 0 default))
 | .t4 l=>.t4 (List.replicate n (l.getD 0 default))
 | .t5 l=>.t5 (List.replicate n (l.getD 0 default))
 | .t9 l=>.t9 (List.replicate n (l.getD 0 default))
 | .t32 l=>.t32 (List.replicate n (l.getD 0 default))
 | .t46 l=>.t46 (List.replicate n (l.getD 0 default))
 | .t61 l=>.t61 (List.replicate n (l.getD 0 default))
 | .t66 l=>.t66 (List.replicate n (l.getD 0 default))
 | .t69 l=>.t69 (List.replicate n (l.getD 0 default))
 | .t78 l=>.t78 (List.replicate n (l.getD 0 default))
 | .t86 l=>.t86 (List.replicate n (l.getD 0 default))
 | .t89 l=>.t89 (List.replicate n (l.getD 0 default))
 | .gJ l=>.gJ (List.replicate n (l.getD 0 default))
 | .t93 l=>.t93 (List.replicate n (l.getD 0 default))
 | .dU l=>.dU (List.replicate n (l.getD 0 default))
 | .eY l=>.eY (List.replicate n (l.getD 0 default))
 | .t109 l=>.t109 (List.replicate n (l.getD 0 default))
 | .dN l=>.dN (List.replicate n (l.getD 0 default))
 | .dO l=>.dO (List.replicate n (l.getD 0 default))
 | .t127 l=>.t127 (List.replicate n (l.getD 0 default))
 | .fG l=>.fG (List.replicate n (l.getD 0 default))
 | .eT l=>.eT (List.replicate n (l.getD 0 default))
 | .t154 l=>.t154 (List.replicate n (l.getD 0 default))
 | .t156 l=>.t156 (List.replicate n (l.getD 0 default))
 | .eH l=>.eH (List.replicate n (l.getD 0 default))
 | .eU l=>.eU (List.replicate n (l.getD 0 default))
 | .fD l=>.fD (List.replicate n (l.getD 0 default))
 | .dQ l=>.dQ (List.replicate n (l.getD 0 default))
 | .t203 l=>.t203 (List.replicate n (l.getD 0 default))
 | .fK l=>.fK (List.replicate n (l.getD 0 default))
 | .fC l=>.fC (List.replicate n (l.getD 0 default))
 | .dX l=>.dX (List.replicate n (l.getD 0 default))
 | .fO l=>.fO (List.replicate n (l.getD 0 default))
 | .fM l=>.fM (List.replicate n (l.getD 0 default))
end Go.Proofs.YthjhkpgonleelaaGreatDoor.Ev
namespace Go.Proofs.YthjhkpgonleelaaGreatDoor.Ev
open Go
inductive PV where
 |any
 |val (v:Value)
 |agg (l:List PV)
 |cK (l:List PV)
 |sl (own:Bool) (e sz:Nat) (es:List (List PV))
 |bB (own:Bool) (x:LX)
 |ref (l:List PV)
 |loc (d off:Nat)
 |el (d sz i off:Nat)
 |vw (c:Bool) (d e sz n:Nat)
 |mp (d:Nat)
 |bK (f n:Nat) (caps:List PV)
 |aX (x:LX)
 |aQ (gk gv:Bool) (ks vs:LX)
 |dH (es:Array MapEntry) (clock:Nat) (gk gv:Bool) (ks vs:LX)
 deriving Inhabited
def PV.view:PV->PV
 | .sl _ e sz es=>.sl false e sz es
 | .bB _ x=>.bB false x
 |p=>p
def PV.flat:PV->Bool
 | .any=>true
 | .val _=>true
 | .bB _ _=>true
 |_=>false
inductive PV.Le:PV->PV->Prop
 |view (p:PV):PV.Le p p.view
 |nil (own:Bool) (y:LX) (h:y.len=0):PV.Le (.val (.slice none 0 0)) (.bB own y)
def L2(l:List PV)(off:Nat)(new:List PV):List PV:=match l,off,new with
 | [],_,_=> []
 |l,_,[]=>l
 |_::r,0,q::new=>q::L2 r 0 new
 |p::r,n+1,new=>p::L2 r n new
def Aua:PV->PV->Option Bool
 | .val (.int k a),.val (.int k' b)=>match decide (k=k') with
  |true=>some (a == b)
  |false=>none
 | .val (.string a),.val (.string b)=>some (a == b)
 | .val (.bool a),.val (.bool b)=>some (a == b)
 |_,_=>none
def A90:PV->List PV->PV->List PV->Option Bool
 |a,[],b,[]=>Aua a b
 |a,a'::l,b,b'::m=>match Aua a b,A90 a' l b' m with
  |some x,some y=>some (x && y)
  |_,_=>none
 |_,_,_,_=>none
def Ahm:List PV->List PV->Option Bool
 |a::l,b::m=>A90 a l b m
 |_,_=>none
end Go.Proofs.YthjhkpgonleelaaGreatDoor.Ev
namespace Go.Proofs.YthjhkpgonleelaaGreatDoor.Ev
open Go
def A5e(l:List PV)(n:Nat):Bool:=match l,n with
 |_,0=>true
 |_::r,n+1=>A5e r n
 |_,_=>false
def Bs6(k:IntKind):PV->Option Int
 | .val (.int k' a)=>match decide (k'=k) with
  |true=>some a
  |false=>none
 |_=>none
def Bjy:PV->Option Bool
 | .val (.bool a)=>some a
 |_=>none
def Bs7:PV->Option ByteArray
 | .val (.string a)=>some a
 |_=>none
inductive Z7:List PV->List PV->Prop
 |nil:Z7 [] []
 |cons {p q:PV} {r s:List PV} (h:PV.Le p q) (hr:Z7 r s):Z7 (p::r) (q::s)
theorem Ba6{k:IntKind}{p:PV}{a:Int}(h:Bs6 k p=some a):PV.Le p (.val (.int k a)):=by
 unfold Bs6 at h;split at h
 ·split at h
  ·rename_i hk;have:=of_decide_eq_true hk;subst this;injection h with h;subst h;exact .view _
  ·cases h
 ·cases h
theorem A4w{p:PV}{a:Bool}(h:Bjy p=some a):PV.Le p (.val (.bool a)):=by
 unfold Bjy at h;split at h
 ·injection h with h;subst h;exact .view _
 ·cases h
theorem Ba7{p:PV}{a:ByteArray}(h:Bs7 p=some a):PV.Le p (.val (.string a)):=by
 unfold Bs7 at h;split at h
 ·injection h with h;subst h;exact .view _
 ·cases h
def Blv{α :Type}(d:List PV->Option α):List (List PV)->Option (List α)
 | []=>some []
 |r::rs=>match d r,Blv d rs with
  |some a,some l=>some (a::l)
  |_,_=>none
theorem A84{α :Type} [Inhabited α]{d:List PV->Option α}{row: α->List PV}(hd:∀r a,d r=some a->Z7 r (row a)):∀(rs:List (List PV)) (l:List α),Blv d rs=some l->
  l.length=rs.length/\∀(i:Nat) (r:List PV),rs[i]? =some r->Z7 r (row (l.getD i default))
 | [],l,h=>by
  simp only[Blv,Option.some.injEq]at h;subst h;exact⟨rfl,λi r hr=>by simp at hr⟩
 |r::rs,l,h=>by
  simp only[Blv]at h;split at h
  ·rename_i a m h1 h2;injection h with h
   subst h;obtain⟨q1,q2⟩:=A84 hd rs m h2;refine⟨by simp[q1],λi x hx=>?_⟩;cases i with
   |zero=>simp at hx;subst hx;simpa using hd _ _ h1
   |succ i=>simpa using q2 i x (by simpa using hx)
  ·cases h
def A47:List PV->Bool
 | []=>true
 |p::r=>match p.flat with
  |true=>A47 r
  |false=>false
theorem A9c:∀(l:List PV),A47 l=true->∀p∈l,p.flat=true
 | [],_,p,h=>by cases h
 |q::r,h,p,hp=>by
  simp only[A47]at h;cases hq:q.flat with
  |false=>rw[hq]at h;cases h
  |true=>
   rw[hq]at h;rcases List.mem_cons.1 hp with e|e
   ·subst e;exact hq
   ·exact A9c r h p e
structure CD (α :Type) where
 d:PV->Option α
 w: α->PV
 le:∀ {p a},d p=some a->PV.Le p (w a)
 fl:∀a,(w a).flat=true
def oI(k:IntKind):CD Int:=⟨Bs6 k,λx=>.val (.int k x),Ba6,λ_=>rfl⟩
def oB:CD Bool:=⟨Bjy,λx=>.val (.bool x),A4w,λ_=>rfl⟩
def oT:CD ByteArray:=⟨Bs7,λx=>.val (.string x),Ba7,λ_=>rfl⟩
class TL {α :Type} (K:List α->LX) (g:outParam (LX->Option (List α))) (u z:outParam Nat):Prop where
 e:∀l,(K l).e=u:=by intro l;rfl
 sz:∀l,(K l).sz=z:=by intro l;rfl
 len:∀l,(K l).len=l.length:=by intro l;rfl
 gk:∀y m,g y=some m->y=K m:=by intro y m h;cases y<;>first|(injection h with h;subst h;rfl)|cases h
 of:∀x,x.e=u->∃l,x=K l:=by intro x h;cases x<;>first|exact⟨_,rfl⟩|(simp[LX.e]at h)
def dL{α :Type}(g:LX->Option (List α)):PV->Option (List α)
 | .bB _ x=>g x
 | .val (.slice none 0 0)=>some []
 |_=>none
def oW{α :Type}(K:List α->LX){g:LX->Option (List α)}{e sz:Nat} [k:TL K g e sz]:CD (List α):=⟨dL g,λx=>.bB false (K x),λ{p a} h=>(by
 unfold dL at h;split at h
 ·rw[k.gk _ _ h];exact .view _
 ·injection h with h;subst h;exact .nil false _ (k.len _)
 ·cases h),λ_=>rfl⟩
structure RF (α :Type) where
 d:List PV->Option α
 w: α->List PV
 le:∀r a,d r=some a->Z7 r (w a)
 fl:∀a,A47 (w a)=true
def CD.o{α :Type}(c:CD α):RF α :=⟨fun
 | [p]=>c.d p
 |_=>none,λa=> [c.w a],λr a h=>(by
 split at h
 ·exact .cons (c.le h) .nil
 ·cases h),λa=>by simp only[A47,c.fl]⟩
def CD.c{α β :Type}(c:CD α)(f:RF β):RF (α×β):=⟨fun
 |p::r=>match c.d p,f.d r with
  |some a,some b=>some (a,b)
  |_,_=>none
 |_=>none,λa=>c.w a.1::f.w a.2,λr a h=>(by
 split at h
 ·split at h
  ·rename_i h1 h2;injection h with h;subst h
   exact .cons (c.le h1) (f.le _ _ h2)
  ·cases h
 ·cases h),λa=>by simp only[A47,c.fl,f.fl]⟩
def RF.to{α β :Type}(f:RF α)(g: α->β)(w: β->List PV)(h:∀a,w (g a)=f.w a:=by intro a;rfl)(h2:∀a,A47 (w a)=true:=by intro a;rfl):RF β :=⟨λr=>match f.d r with
 |some a=>some (g a)
 |none=>none,w,λr a hh=>(by
 split at hh
 ·rename_i h1;injection hh with hh;subst hh
  rw[h];exact f.le _ _ h1
 ·cases hh),h2⟩
instance:TL LX.t3 LX.g3 3 1:= {}
instance:TL LX.t4 LX.g4 4 1:= {}
instance:TL LX.t5 LX.g5 5 1:= {}
instance:TL LX.t9 LX.g9 9 1:= {}
instance:TL LX.t32 LX.g32 32 6:= {}
instance:TL LX.t46 LX.g46 46 6:= {}
instance:TL LX.t61 LX.g61 61 1:= {}
instance:TL LX.t66 LX.g66 66 13:= {}
instance:TL LX.t69 LX.g69 69 14:= {}
instance:TL LX.t78 LX.g78 78 4:= {}
instance:TL LX.t86 LX.g86 86 17:= {}
instance:TL LX.t89 LX.g89 89 3:= {}
instance:TL LX.gJ LX.g90 90 1:= {}
instance:TL LX.t93 LX.g93 93 4:= {}
instance:TL LX.dU LX.g98 98 4:= {}
instance:TL LX.eY LX.g100 100 20:= {}
instance:TL LX.t109 LX.g109 109 2:= {}
instance:TL LX.dN LX.g115 115 2:= {}
instance:TL LX.dO LX.g123 123 3:= {}
instance:TL LX.t127 LX.g127 127 3:= {}
instance:TL LX.fG LX.g135 135 2:= {}
instance:TL LX.eT LX.g150 150 5:= {}
instance:TL LX.t154 LX.g154 154 3:= {}
instance:TL LX.t156 LX.g156 156 3:= {}
instance:TL LX.eH LX.g178 178 3:= {}
instance:TL LX.eU LX.g186 186 2:= {}
instance:TL LX.fD LX.g190 190 9:= {}
instance:TL LX.dQ LX.g200 200 2:= {}
instance:TL LX.t203 LX.g203 203 3:= {}
instance:TL LX.fK LX.g205 205 9:= {}
instance:TL LX.fC LX.g216 216 2:= {}
instance:TL LX.dX LX.g264 264 21:= {}
instance:TL LX.fO LX.g275 275 2:= {}
instance:TL LX.fM LX.g277 277 5:= {}
def Cm(x:Ac):List PV:= [.val (.string x.aF),.bB false (.t69 x.aA),.bB false (.t127 x.aH)]
def A6p:RF Ac:=RF.to (oT.c ((oW LX.t69).c ((oW LX.t127).o))) (λ(a0,a1,a2)=>.mk a0 a1 a2) Cm
def Vn(x:Ie):List PV:= [.val (.string x.P.aF),.bB false (.t69 x.P.aA),.bB false (.t127 x.P.aH),.bB false (.t46 x.bQ),.val (.int .i64 x.bT),.val (.int .i64 x.T),.val (.int .i64 x.Step),.val (.int .i64 x.N)]
def Ma(x:Ao):List PV:= [.val (.int .i64 x.Time),.val (.int .i64 x.bT),.bB false (.t3 x.dZ),.bB false (.t3 x.Held),.bB false (.t3 x.dB),.bB false (.t3 x.Items)]
def Aan:RF Ao:=RF.to ((oI .i64).c ((oI .i64).c ((oW LX.t3).c ((oW LX.t3).c ((oW LX.t3).c ((oW LX.t3).o)))))) (λ(a0,a1,a2,a3,a4,a5)=>.mk a0 a1 a2 a3 a4 a5) Ma
def B4(x:Ap):List PV:= [.val (.int .i64 x.Time),.val (.int .i64 x.bT),.val (.int .i64 x.aO),.val (.int .i64 x.bI),.val (.int .i64 x.aI),.val (.int .i64 x.Value)]
def Apt:RF Ap:=RF.to ((oI .i64).c ((oI .i64).c ((oI .i64).c ((oI .i64).c ((oI .i64).c ((oI .i64).o)))))) (λ(a0,a1,a2,a3,a4,a5)=>.mk a0 a1 a2 a3 a4 a5) B4
def Ae(x:Aa):List PV:= [.val (.string x.aF),.bB false (.dO x.bX),.bB false (.t86 x.aG),.bB false (.t89 x.aM),.bB false (.eH x.bL),.bB false (.t9 x.bJ),.bB false (.t9 x.aZ),.bB false (.t9 x.bH),.bB false (.t9 x.bP),.bB false (.t9 x.bD),.bB false (.t93 x.aD),.bB false (.eT x.bZ),.bB false (.t154 x.Laws)]
def Tk:RF Aa:=RF.to (oT.c ((oW LX.dO).c ((oW LX.t86).c ((oW LX.t89).c ((oW LX.eH).c ((oW LX.t9).c ((oW LX.t9).c ((oW LX.t9).c ((oW LX.t9).c ((oW LX.t9).c ((oW LX.t93).c ((oW LX.eT).c ((oW LX.t154).o))))))))))))) (λ(a0,a1,a2,a3,a4,a5,a6,a7,a8,a9,a10,a11,a12)=>.mk a0 a1 a2 a3 a4 a5 a6 a7 a8 a9 a10 a11 a12) Ae
def My(x:A9):List PV:= [.val (.string x.aL.aF),.bB false (.dO x.aL.bX),.bB false (.t86 x.aL.aG),.bB false (.t89 x.aL.aM),.bB false (.eH x.aL.bL),.bB false (.t9 x.aL.bJ),.bB false (.t9 x.aL.aZ),.bB false (.t9 x.aL.bH),.bB false (.t9 x.aL.bP),.bB false (.t9 x.aL.bD),.bB false (.t93 x.aL.aD),.bB false (.eT x.aL.bZ),.bB false (.t154 x.aL.Laws),.bB false (.t78 x.aD)]
def Tj:RF A9:=RF.to (oT.c ((oW LX.dO).c ((oW LX.t86).c ((oW LX.t89).c ((oW LX.eH).c ((oW LX.t9).c ((oW LX.t9).c ((oW LX.t9).c ((oW LX.t9).c ((oW LX.t9).c ((oW LX.t93).c ((oW LX.eT).c ((oW LX.t154).c ((oW LX.t78).o)))))))))))))) (λ(a0,a1,a2,a3,a4,a5,a6,a7,a8,a9,a10,a11,a12,a13)=>.mk (.mk a0 a1 a2 a3 a4 a5 a6 a7 a8 a9 a10 a11 a12) a13) My
def Bu(x:Aj):List PV:= [.val (.string x.aF),.bB false (.dO x.aJ),.bB false (.t66 x.aA),.bB false (.t156 x.aH)]
def Bcn:RF Aj:=RF.to (oT.c ((oW LX.dO).c ((oW LX.t66).c ((oW LX.t156).o)))) (λ(a0,a1,a2,a3)=>.mk a0 a1 a2 a3) Bu
def Ac3(x:Aq):List PV:= [.val (.string x.aF),.val (.int .i64 x.aJ),.val (.int .i64 x.dD),.bB false (.eY x.aR)]
def Af7:RF Aq:=RF.to (oT.c ((oI .i64).c ((oI .i64).c ((oW LX.eY).o)))) (λ(a0,a1,a2,a3)=>.mk a0 a1 a2 a3) Ac3
def Au0(x:Bk):List PV:= [.val (.int .i64 x.Op),.val (.int .i64 x.A),.val (.int .i64 x.B),.val (.int .i64 x.N),.bB false (.t3 x.aW),.bB false (.t3 x.aU)]
def Bfw:RF Bk:=RF.to ((oI .i64).c ((oI .i64).c ((oI .i64).c ((oI .i64).c ((oW LX.t3).c ((oW LX.t3).o)))))) (λ(a0,a1,a2,a3,a4,a5)=>.mk a0 a1 a2 a3 a4 a5) Au0
def A1h(x:N7):List PV:= [.val (.string x.dG),.val (.int .i64 x.Up.Op),.val (.int .i64 x.Up.A),.val (.int .i64 x.Up.B),.val (.int .i64 x.Up.N),.bB false (.t3 x.Up.aW),.bB false (.t3 x.Up.aU),.val (.int .i64 x.Down.Op),.val (.int .i64 x.Down.A),.val (.int .i64 x.Down.B),.val (.int .i64 x.Down.N),.bB false (.t3 x.Down.aW),.bB false (.t3 x.Down.aU)]
def Bcm:RF N7:=RF.to (oT.c ((oI .i64).c ((oI .i64).c ((oI .i64).c ((oI .i64).c ((oW LX.t3).c ((oW LX.t3).c ((oI .i64).c ((oI .i64).c ((oI .i64).c ((oI .i64).c ((oW LX.t3).c ((oW LX.t3).o))))))))))))) (λ(a0,a1,a2,a3,a4,a5,a6,a7,a8,a9,a10,a11,a12)=>.mk a0 (.mk a1 a2 a3 a4 a5 a6) (.mk a7 a8 a9 a10 a11 a12)) A1h
def B3(x:Ak):List PV:= [.val (.string x.aF),.val (.int .i64 x.Units),.bB false (.fC x.bA),.val (.int .i64 x.dA),.val (.string x.bS.dG),.val (.int .i64 x.bS.Up.Op),.val (.int .i64 x.bS.Up.A),.val (.int .i64 x.bS.Up.B),.val (.int .i64 x.bS.Up.N),.bB false (.t3 x.bS.Up.aW),.bB false (.t3 x.bS.Up.aU),.val (.int .i64 x.bS.Down.Op),.val (.int .i64 x.bS.Down.A),.val (.int .i64 x.bS.Down.B),.val (.int .i64 x.bS.Down.N),.bB false (.t3 x.bS.Down.aW),.bB false (.t3 x.bS.Down.aU)]
def Lu:RF Ak:=RF.to (oT.c ((oI .i64).c ((oW LX.fC).c ((oI .i64).c (oT.c ((oI .i64).c ((oI .i64).c ((oI .i64).c ((oI .i64).c ((oW LX.t3).c ((oW LX.t3).c ((oI .i64).c ((oI .i64).c ((oI .i64).c ((oI .i64).c ((oW LX.t3).c ((oW LX.t3).o))))))))))))))))) (λ(a0,a1,a2,a3,a4,a5,a6,a7,a8,a9,a10,a11,a12,a13,a14,a15,a16)=>.mk a0 a1 a2 a3 (.mk a4 (.mk a5 a6 a7 a8 a9 a10) (.mk a11 a12 a13 a14 a15 a16))) B3
def C2(x:Au):List PV:= [.val (.string x.aF),.val (.int .i64 x.Room),.val (.int .i64 x.dM)]
def Wk:RF Au:=RF.to (oT.c ((oI .i64).c ((oI .i64).o))) (λ(a0,a1,a2)=>.mk a0 a1 a2) C2
def Cs(x:Am):List PV:= [.val (.string x.aF),.bB false (.dQ x.aJ),.bB false (.dQ x.bC),.bB false (.dX x.bE)]
def Vv:RF Am:=RF.to (oT.c ((oW LX.dQ).c ((oW LX.dQ).c ((oW LX.dX).o)))) (λ(a0,a1,a2,a3)=>.mk a0 a1 a2 a3) Cs
def Cl(x:Ab):List PV:= [.val (.int .i64 x.Op),.val (.string x.aF),.val (.int .i64 x.N),.bB false (.dU x.aY)]
def Af8:RF Ab:=RF.to ((oI .i64).c (oT.c ((oI .i64).c ((oW LX.dU).o)))) (λ(a0,a1,a2,a3)=>.mk a0 a1 a2 a3) Cl
def Sc(x:Ar):List PV:= [.val (.int .i64 x.Op),.val (.int .i64 x.A),.val (.int .i64 x.B),.val (.int .i64 x.C),.val (.int .i64 x.E.Op),.val (.string x.E.aF),.val (.int .i64 x.E.N),.bB false (.dU x.E.aY),.val (.int .i64 x.F.Op),.val (.string x.F.aF),.val (.int .i64 x.F.N),.bB false (.dU x.F.aY),.bB false (.dU x.aP),.val (.int .i64 x.bF.Op),.val (.int .i64 x.bF.A),.val (.int .i64 x.bF.B),.val (.int .i64 x.bF.N),.bB false (.t3 x.bF.aW),.bB false (.t3 x.bF.aU),.val (.bool x.bY)]
def Aao:RF Ar:=RF.to ((oI .i64).c ((oI .i64).c ((oI .i64).c ((oI .i64).c ((oI .i64).c (oT.c ((oI .i64).c ((oW LX.dU).c ((oI .i64).c (oT.c ((oI .i64).c ((oW LX.dU).c ((oW LX.dU).c ((oI .i64).c ((oI .i64).c ((oI .i64).c ((oI .i64).c ((oW LX.t3).c ((oW LX.t3).c oB.o))))))))))))))))))) (λ(a0,a1,a2,a3,a4,a5,a6,a7,a8,a9,a10,a11,a12,a13,a14,a15,a16,a17,a18,a19)=>.mk a0 a1 a2 a3 (.mk a4 a5 a6 a7) (.mk a8 a9 a10 a11) a12 (.mk a13 a14 a15 a16 a17 a18) a19) Sc
def Bd4(x:Ah):List PV:= [.val (.int .i64 x.bG),.val (.int .i64 x.aK)]
def O7:RF Ah:=RF.to ((oI .i64).c ((oI .i64).o)) (λ(a0,a1)=>.mk a0 a1) Bd4
def Ck(x:Aw):List PV:= [.val (.string x.aF),.val (.int .i64 x.bO),.val (.int .i64 x.N)]
def Aaq:RF Aw:=RF.to (oT.c ((oI .i64).c ((oI .i64).o))) (λ(a0,a1,a2)=>.mk a0 a1 a2) Ck
def Ays(x:Dt):List PV:= [.val (.int .i64 x.aV),.val (.int .i64 x.To),.val (.int .i64 x.bU)]
def Aps:RF Dt:=RF.to ((oI .i64).c ((oI .i64).c ((oI .i64).o))) (λ(a0,a1,a2)=>.mk a0 a1 a2) Ays
def Bhe(x:Ec):List PV:= [.val (.int .i64 x.a0),.val (.int .i64 x.a1)]
def Akx:RF Ec:=RF.to ((oI .i64).c ((oI .i64).o)) (λ(a0,a1)=>.mk a0 a1) Bhe
def Dz(x:Av):List PV:= [.val (.string x.bM.aF),.bB false (.t69 x.bM.aA),.bB false (.t127 x.bM.aH),.val (.int .i64 x.aS),.val (.string x.u_c.aF),.val (.int .i64 x.u_c.aJ),.val (.int .i64 x.u_c.dD),.bB false (.eY x.u_c.aR)]
def A8o:RF Av:=RF.to (oT.c ((oW LX.t69).c ((oW LX.t127).c ((oI .i64).c (oT.c ((oI .i64).c ((oI .i64).c ((oW LX.eY).o)))))))) (λ(a0,a1,a2,a3,a4,a5,a6,a7)=>.mk (.mk a0 a1 a2) a3 (.mk a4 a5 a6 a7)) Dz
def Akn(x:Bv):List PV:= [.val (.string x.dJ),.bB false (.t3 x.aP),.val (.int .i64 x.At),.val (.int .i64 x.Every),.val (.int .i64 x.Until)]
def Aap:RF Bv:=RF.to (oT.c ((oW LX.t3).c ((oI .i64).c ((oI .i64).c ((oI .i64).o))))) (λ(a0,a1,a2,a3,a4)=>.mk a0 a1 a2 a3 a4) Akn
def Dv(x:Bh):List PV:= [.val (.string x.aF),.bB false (.t203 x.bV),.val (.int .i64 x.Total)]
def Ajo:RF Bh:=RF.to (oT.c ((oW LX.t203).c ((oI .i64).o))) (λ(a0,a1,a2)=>.mk a0 a1 a2) Dv
def P9(x:B9):List PV:= [.val (.string x.aV),.val (.string x.To),.val (.int .i64 x.bU)]
def Akz:RF B9:=RF.to (oT.c (oT.c ((oI .i64).o))) (λ(a0,a1,a2)=>.mk a0 a1 a2) P9
def Db(x:Bg):List PV:= [.val (.string x.aF),.val (.int .i64 x.Length),.val (.int .i64 x.Step)]
def Yx:RF Bg:=RF.to (oT.c ((oI .i64).c ((oI .i64).o))) (λ(a0,a1,a2)=>.mk a0 a1 a2) Db
def Ayr(x:Bp):List PV:= [.val (.string x.a0),.val (.string x.a1)]
def Uq:RF Bp:=RF.to (oT.c oT.o) (λ(a0,a1)=>.mk a0 a1) Ayr
def A1i(x:V7):List PV:= [.val (.string x.gQ),.val (.int .i64 x.gB),.val (.int .i64 x.gF),.val (.bool x.u_c),.val (.bool x.fI),.val (.bool x.fP),.val (.bool x.dF),.val (.bool x.bR),.val (.bool x.dV)]
def Aia:RF V7:=RF.to (oT.c ((oI .i64).c ((oI .i64).c (oB.c (oB.c (oB.c (oB.c (oB.c oB.o)))))))) (λ(a0,a1,a2,a3,a4,a5,a6,a7,a8)=>.mk a0 a1 a2 a3 a4 a5 a6 a7 a8) A1i
def Vo(x:Ba):List PV:= [.val (.string x.aF),.val (.int .i64 x.bO)]
def Ah9:RF Ba:=RF.to (oT.c ((oI .i64).o)) (λ(a0,a1)=>.mk a0 a1) Vo
def Cv(x:Bd):List PV:= [.val (.int .i64 x.cZ),.val (.string x.aO),.val (.string x.aF)]
def Aga:RF Bd:=RF.to ((oI .i64).c (oT.c oT.o)) (λ(a0,a1,a2)=>.mk a0 a1 a2) Cv
def Auz(x:Ct):List PV:= [.val (.string x.Word),.val (.string x.A),.val (.string x.B),.val (.bool x.C),.val (.bool x.E),.val (.bool x.F),.val (.bool x.bY),.val (.bool x.aP),.val (.bool x.bF)]
def Aky:RF Ct:=RF.to (oT.c (oT.c (oT.c (oB.c (oB.c (oB.c (oB.c (oB.c oB.o)))))))) (λ(a0,a1,a2,a3,a4,a5,a6,a7,a8)=>.mk a0 a1 a2 a3 a4 a5 a6 a7 a8) Auz
def Aws(x:Eu):List PV:= [.val (.int .i64 x.At),.val (.int .i64 x.Units)]
def Ae2:RF Eu:=RF.to ((oI .i64).c ((oI .i64).o)) (λ(a0,a1)=>.mk a0 a1) Aws
def Bd5(x:Bm):List PV:= [.val (.bool x.bW)]
def Bco:RF Bm:=RF.to (oB.o) (λa0=>.mk a0) Bd5
def Zt(x:Ad):List PV:= [.val (.int .i64 x.Op),.val (.string x.aF),.val (.string x.Of),.val (.int .i64 x.E.Op),.val (.string x.E.aF),.val (.int .i64 x.E.N),.bB false (.dU x.E.aY),.val (.int .i64 x.F.Op),.val (.string x.F.aF),.val (.int .i64 x.F.N),.bB false (.dU x.F.aY),.bB false (.dU x.aP),.val (.int .i64 x.bF.Op),.val (.int .i64 x.bF.A),.val (.int .i64 x.bF.B),.val (.int .i64 x.bF.N),.bB false (.t3 x.bF.aW),.bB false (.t3 x.bF.aU),.val (.bool x.bY),.bB false (.dX x.bE),.bB false (.dX x.bN)]
def Af9:RF Ad:=RF.to ((oI .i64).c (oT.c (oT.c ((oI .i64).c (oT.c ((oI .i64).c ((oW LX.dU).c ((oI .i64).c (oT.c ((oI .i64).c ((oW LX.dU).c ((oW LX.dU).c ((oI .i64).c ((oI .i64).c ((oI .i64).c ((oI .i64).c ((oW LX.t3).c ((oW LX.t3).c (oB.c ((oW LX.dX).c ((oW LX.dX).o))))))))))))))))))))) (λ(a0,a1,a2,a3,a4,a5,a6,a7,a8,a9,a10,a11,a12,a13,a14,a15,a16,a17,a18,a19,a20)=>.mk a0 a1 a2 (.mk a3 a4 a5 a6) (.mk a7 a8 a9 a10) a11 (.mk a12 a13 a14 a15 a16 a17) a18 a19 a20) Zt
def Ac4(x:Bt):List PV:= [.val (.bool x.dP),.val (.bool x.fT),.val (.bool x.fI),.val (.bool x.fP),.val (.bool x.dF),.val (.bool x.bR),.val (.bool x.fA),.val (.bool x.eZ),.val (.bool x.dY)]
def Bfx:RF Bt:=RF.to (oB.c (oB.c (oB.c (oB.c (oB.c (oB.c (oB.c (oB.c oB.o)))))))) (λ(a0,a1,a2,a3,a4,a5,a6,a7,a8)=>.mk a0 a1 a2 a3 a4 a5 a6 a7 a8) Ac4
def Ba8(x:Hg):List PV:= [.val (.bool x.gX),.val (.string x.dP)]
def Ae1:RF Hg:=RF.to (oB.c oT.o) (λ(a0,a1)=>.mk a0 a1) Ba8
def Blw(x:Qw):List PV:= [.val (.bool x.gX),.val (.int .i64 x.fI.Op),.val (.string x.fI.aF),.val (.int .i64 x.fI.N),.bB false (.dU x.fI.aY)]
def Apr:RF Qw:=RF.to (oB.c ((oI .i64).c (oT.c ((oI .i64).c ((oW LX.dU).o))))) (λ(a0,a1,a2,a3,a4)=>.mk a0 (.mk a1 a2 a3 a4)) Blw
def Apb(x:C1):List PV:= [.val (.bool x.aF),.val (.bool x.Of),.val (.bool x.E),.val (.bool x.F),.val (.bool x.aP),.val (.bool x.bF),.val (.bool x.bY),.val (.bool x.bE),.val (.bool x.bN)]
def Bfv:RF C1:=RF.to (oB.c (oB.c (oB.c (oB.c (oB.c (oB.c (oB.c (oB.c oB.o)))))))) (λ(a0,a1,a2,a3,a4,a5,a6,a7,a8)=>.mk a0 a1 a2 a3 a4 a5 a6 a7 a8) Apb
def lT{α :Type}(K:List α->LX)(f:RF α)(rs:List (List PV)):Option LX:=Ty K (Blv f.d rs)
def sT{α :Type} [Inhabited α](K:List α->LX)(f:RF α)(l:List α)(i off:Nat)(c:List PV):Option LX:=B9g (A5e (f.w (l.getD i default)) (off+c.length)) (λa=>K (l.set i a)) (f.d (L2 (f.w (l.getD i default)) off c))
def RF.r{α :Type} [Inhabited α](f:RF α)(l:List α)(i:Nat):List PV:=f.w (l.getD i default)
def LX.row(x:LX)(i:Nat):List PV:=match x with
 | .t3 l=>(oI .i64).o.r l i
 | .t4 l=>oB.o.r l i
 | .t5 l=>(oI .u8).o.r l i
 | .t9 l=>oT.o.r l i
 | .t32 l=>Aan.r l i
 | .t46 l=>Apt.r l i
 | .t61 l=>(oW LX.t9).o.r l i
 | .t66 l=>Tk.r l i
 | .t69 l=>Tj.r l i
 | .t78 l=>Af7.r l i
 | .t86 l=>Lu.r l i
 | .t89 l=>Wk.r l i
 | .gJ l=>(oW LX.dQ).o.r l i
 | .t93 l=>Vv.r l i
 | .dU l=>Af8.r l i
 | .eY l=>Aao.r l i
 | .t109 l=>O7.r l i
 | .dN l=>O7.r l i
 | .dO l=>Aaq.r l i
 | .t127 l=>Aps.r l i
 | .fG l=>Akx.r l i
 | .eT l=>Aap.r l i
 | .t154 l=>Ajo.r l i
 | .t156 l=>Akz.r l i
 | .eH l=>Yx.r l i
 | .eU l=>Uq.r l i
 | .fD l=>Aia.r l i
 | .dQ l=>Ah9.r l i
 | .t203 l=>Aga.r l i
 | .fK l=>Aky.r l i
 | .fC l=>Ae2.r l i
 | .dX l=>Af9.r l i
 | .fO l=>Ae1.r l i
 | .fM l=>Apr.r l i
def LX.set(x:LX)(i off:Nat)(c:List PV):Option LX:=match x with
 | .t3 l=>sT .t3 (oI .i64).o l i off c
 | .t4 l=>sT .t4 oB.o l i off c
 | .t5 l=>sT .t5 (oI .u8).o l i off c
 | .t9 l=>sT .t9 oT.o l i off c
 | .t32 l=>sT .t32 Aan l i off c
 | .t46 l=>sT .t46 Apt l i off c
 | .t61 l=>sT .t61 (oW LX.t9).o l i off c
 | .t66 l=>sT .t66 Tk l i off c
 | .t69 l=>sT .t69 Tj l i off c
 | .t78 l=>sT .t78 Af7 l i off c
 | .t86 l=>sT .t86 Lu l i off c
 | .t89 l=>sT .t89 Wk l i off c
 | .gJ l=>sT .gJ (oW LX.dQ).o l i off c
 | .t93 l=>sT .t93 Vv l i off c
 | .dU l=>sT .dU Af8 l i off c
 | .eY l=>sT .eY Aao l i off c
 | .t109 l=>sT .t109 O7 l i off c
 | .dN l=>sT .dN O7 l i off c
 | .dO l=>sT .dO Aaq l i off c
 | .t127 l=>sT .t127 Aps l i off c
 | .fG l=>sT .fG Akx l i off c
 | .eT l=>sT .eT Aap l i off c
 | .t154 l=>sT .t154 Ajo l i off c
 | .t156 l=>sT .t156 Akz l i off c
 | .eH l=>sT .eH Yx l i off c
 | .eU l=>sT .eU Uq l i off c
 | .fD l=>sT .fD Aia l i off c
 | .dQ l=>sT .dQ Ah9 l i off c
 | .t203 l=>sT .t203 Aga l i off c
 | .fK l=>sT .fK Aky l i off c
 | .fC l=>sT .fC Ae2 l i off c
 | .dX l=>sT .dX Af9 l i off c
 | .fO l=>sT .fO Ae1 l i off c
 | .fM l=>sT .fM Apr l i off c
def tbl:List (Nat×(List (List PV)->Option LX)):= [(3,lT .t3 (oI .i64).o),(4,lT .t4 oB.o),(5,lT .t5 (oI .u8).o),(9,lT .t9 oT.o),(32,lT .t32 Aan),(46,lT .t46 Apt),(61,lT .t61 (oW LX.t9).o),(66,lT .t66 Tk),(69,lT .t69 Tj),(78,lT .t78 Af7),(86,lT .t86 Lu),(89,lT .t89 Wk),(90,lT .gJ (oW LX.dQ).o),(93,lT .t93 Vv),(98,lT .dU Af8),(100,lT .eY Aao),(109,lT .t109 O7),(115,lT .dN O7),(123,lT .dO Aaq),(127,lT .t127 Aps),(135,lT .fG Akx),(150,lT .eT Aap),(154,lT .t154 Ajo),(156,lT .t156 Akz),(178,lT .eH Yx),(186,lT .eU Uq),(190,lT .fD Aia),(200,lT .dQ Ah9),(203,lT .t203 Aga),(205,lT .fK Aky),(216,lT .fC Ae2),(264,lT .dX Af9),(275,lT .fO Ae1),(277,lT .fM Apr)]
def lkT:List (Nat×(List (List PV)->Option LX))->Nat->List (List PV)->Option LX
 | [],_,_=>none
 |(a,f)::r,e,rs=>match Nat.beq e a with
  |true=>f rs
  |false=>lkT r e rs
def LX.lit(e:Nat)(rs:List (List PV)):Option LX:=lkT tbl e rs
def LX.nil(e:Nat):Option LX:=lkT tbl e []
class TG {α :Type} [Inhabited α] (K:List α->LX) (f:outParam (RF α)):Prop where
 row:∀l i,(K l).row i=f.w (l.getD i default):=by intro l i;rfl
 sz:∀a l,(f.w a).length=(K l).sz:=by intro a l;rfl
instance:TG LX.t3 (oI .i64).o:= {}
instance:TG LX.t4 oB.o:= {}
instance:TG LX.t5 (oI .u8).o:= {}
instance:TG LX.t9 oT.o:= {}
instance:TG LX.t32 Aan:= {}
instance:TG LX.t46 Apt:= {}
instance:TG LX.t61 (oW LX.t9).o:= {}
instance:TG LX.t66 Tk:= {}
instance:TG LX.t69 Tj:= {}
instance:TG LX.t78 Af7:= {}
instance:TG LX.t86 Lu:= {}
instance:TG LX.t89 Wk:= {}
instance:TG LX.gJ (oW LX.dQ).o:= {}
instance:TG LX.t93 Vv:= {}
instance:TG LX.dU Af8:= {}
instance:TG LX.eY Aao:= {}
instance:TG LX.t109 O7:= {}
instance:TG LX.dN O7:= {}
instance:TG LX.dO Aaq:= {}
instance:TG LX.t127 Aps:= {}
instance:TG LX.fG Akx:= {}
instance:TG LX.eT Aap:= {}
instance:TG LX.t154 Ajo:= {}
instance:TG LX.t156 Akz:= {}
instance:TG LX.eH Yx:= {}
instance:TG LX.eU Uq:= {}
instance:TG LX.fD Aia:= {}
instance:TG LX.dQ Ah9:= {}
instance:TG LX.t203 Aga:= {}
instance:TG LX.fK Aky:= {}
instance:TG LX.fC Ae2:= {}
instance:TG LX.dX Af9:= {}
instance:TG LX.fO Ae1:= {}
instance:TG LX.fM Apr:= {}
def LX.find(x:LX)(c:List PV):Option (Option Nat):=match x,c with
 | .t3 l,[.val (.int k0 a0)]=>match decide (k0=.i64) with
  |true=>some (l.findIdx? λb=>a0 == b)
  |_=>none
 | .t4 l,[.val (.bool a0)]=>some (l.findIdx? λb=>a0 == b)
 | .t5 l,[.val (.int k0 a0)]=>match decide (k0=.u8) with
  |true=>some (l.findIdx? λb=>a0 == b)
  |_=>none
 | .t9 l,[.val (.string a0)]=>some (l.findIdx? λb=>a0 == b)
 | .t109 l,[.val (.int k0 a0),.val (.int k1 a1)]=>match decide (k0=.i64),decide (k1=.i64) with
  |true,true=>some (l.findIdx? λb=>(a0 == b.bG && (a1 == b.aK)))
  |_,_=>none
 | .fG l,[.val (.int k0 a0),.val (.int k1 a1)]=>match decide (k0=.i64),decide (k1=.i64) with
  |true,true=>some (l.findIdx? λb=>(a0 == b.a0 && (a1 == b.a1)))
  |_,_=>none
 | .eU l,[.val (.string a0),.val (.string a1)]=>some (l.findIdx? λb=>(a0 == b.a0 && (a1 == b.a1)))
 |_,_=>none
def LX.push(x:LX)(c:List PV):Option LX:=match LX.lit x.e [c] with
 |some y=>x.cat y
 |none=>none
theorem Bhq{α :Type} [Inhabited α](l m:List α)(i:Nat)(h:i<l.length):(l++m).getD i default=l.getD i default:=by
 simp[List.getD,List.getElem?_append_left h]
theorem Bhr{α :Type} [Inhabited α](l m:List α)(i:Nat):(l++m).getD (l.length+i) default=m.getD i default:=by
 simp[List.getD,List.getElem?_append_right]
theorem Bok{α :Type} [Inhabited α](l:List α)(a b i:Nat)(h1:b<=l.length)(h2:i<b-a):((l.take b).drop a).getD i default=l.getD (a+i) default:=by
 simp only[List.getD_eq_getElem?_getD,List.getElem?_drop,List.getElem?_take];rw[if_pos (by omega)]
theorem Boj{α :Type} [Inhabited α](n i:Nat)(a: α)(h:i<n):(List.replicate n a).getD i default=a:=by
 simp[List.getD_eq_getElem?_getD,List.getElem?_replicate,h]
theorem Bei{α :Type} [Inhabited α](l:List α)(i:Nat)(a: α)(h:i<l.length):(l.set i a).getD i default=a:=by
 simp[List.getD_eq_getElem?_getD,h]
theorem Bej{α :Type} [Inhabited α](l:List α)(i j:Nat)(a: α)(h:j≠i):(l.set i a).getD j default=l.getD j default:=by
 simp[List.getD_eq_getElem?_getD,List.getElem?_set_ne (λe=>h e.symm)]
theorem Kj{α :Type} [Inhabited α](l:List α)(i:Nat)(h:i<l.length):l.getD i default=l[i]:=by
 simp[List.getD_eq_getElem?_getD,h]
theorem Bh1(l:List PV):∀n,A5e l n=true↔n<=l.length:=by
 induction l with
 |nil=>intro n;cases n<;>simp[A5e]
 |cons p r ih=>intro n;cases n<;>simp[A5e,ih]
section
variable {α :Type} [Inhabited α] {K:List α->LX} {f:RF α} {g:LX->Option (List α)} {e sz:Nat}
theorem Cdk [q:TG K f](l:List α)(i:Nat):∀p∈(K l).row i,p.flat=true:=A9c _ (by rw[q.row];exact f.fl _)
theorem Cdl [q:TG K f](l:List α)(i:Nat):((K l).row i).length=(K l).sz:=by rw[q.row];exact q.sz _ _
def Bnh(p:Nat×(List (List PV)->Option LX)):Prop:=∀rs x,p.2 rs=some x->x.e=p.1/\x.len=rs.length/\∀(i:Nat) (r:List PV),rs[i]? =some r->Z7 r (x.row i)
theorem Cdc [k:TL K g e sz] [q:TG K f]:Bnh (e,lT K f):=by
 intro rs x h;simp only[lT,Ty]at h;cases hl:Blv f.d rs with
 |none=>rw[hl]at h;cases h
 |some l=>
  rw[hl]at h;injection h with h;subst h
  obtain⟨q1,q2⟩:=A84 f.le rs l hl;exact⟨k.e _,by rw[k.len];exact q1,λi r hr=>by rw[q.row];exact q2 i r hr⟩
theorem Cc8 [k:TL K g e sz] [q:TG K f]{y z:LX}{l:List α}(h:Ty (λm=>K (l++m)) (g y)=some z):y.e=(K l).e/\z.e=(K l).e/\y.sz=(K l).sz/\z.sz=(K l).sz/\z.len=(K l).len+y.len/\(∀i,i<(K l).len->z.row i=(K l).row i)/\(∀i,z.row ((K l).len+i)=y.row i):=by
 cases hg:g y with
 |none=>rw[hg]at h;cases h
 |some m=>
  rw[hg]at h;injection h with h;subst h
  rw[k.gk y m hg];simp only[k.e,k.sz,k.len,q.row,List.length_append,true_and];exact⟨λi hi=>by rw[Bhq l m i hi],λi=>by rw[Bhr]⟩
theorem Cer [k:TL K g e sz] [q:TG K f](l:List α)(a b:Nat)(h:b<=(K l).len):(K ((l.take b).drop a)).e=(K l).e/\(K ((l.take b).drop a)).sz=(K l).sz/\(K ((l.take b).drop a)).len=b-a/\∀i,i<b-a->(K ((l.take b).drop a)).row i=(K l).row (a+i):=by
 simp only[k.e,k.sz,k.len,q.row,true_and]at h ⊢;exact⟨by simp;omega,λi hi=>by rw[Bok l a b i h hi]⟩
theorem Cdj [k:TL K g e sz] [q:TG K f](l:List α)(n:Nat):(K (List.replicate n (l.getD 0 default))).e=(K l).e/\(K (List.replicate n (l.getD 0 default))).sz=(K l).sz/\(K (List.replicate n (l.getD 0 default))).len=n/\∀i,i<n->(K (List.replicate n (l.getD 0 default))).row i=(K l).row 0:=by
 simp only[k.e,k.sz,k.len,q.row,true_and];exact⟨List.length_replicate,λi hi=>by rw[Boj n i _ hi]⟩
theorem Ceq [k:TL K g e sz] [q:TG K f]{i off:Nat}{c:List PV}{l:List α}{y:LX}(h:sT K f l i off c=some y):y.e=(K l).e/\y.sz=(K l).sz/\y.len=(K l).len/\off+c.length<=(K l).sz/\(i<(K l).len->Z7 (L2 ((K l).row i) off c) (y.row i))/\∀j,j≠i->y.row j=(K l).row j:=by
 unfold sT B9g at h;split at h
 ·rename_i a h1 h2;injection h with h;subst h
  simp only[k.e,k.sz,k.len,q.row,true_and];refine⟨List.length_set,by rw[<-k.sz l,<-q.sz (l.getD i default) l];exact(Bh1 _ _).1 h1,λhi=>?_,λj hj=>?_⟩
  ·rw[Bei l i a hi];exact f.le _ _ h2
  ·rw[Bej l i j a hj]
 ·cases h
end
theorem LX.row_len(x:LX)(i:Nat):(x.row i).length=x.sz:=by cases x<;>exact Cdl _ _
theorem LX.row_flat(x:LX)(i:Nat):∀p∈x.row i,p.flat=true:=by cases x<;>exact Cdk _ _
def Bzz:List (Nat×(List (List PV)->Option LX))->Prop
 | []=>True
 |p::r=>Bnh p/\Bzz r
theorem B91:Bzz tbl:=by
 unfold tbl
 repeat (first|exact trivial|refine⟨Cdc,?_⟩)
theorem Bph:∀(l:List (Nat×(List (List PV)->Option LX))),Bzz l->∀e,Bnh (e,lkT l e)
 | [],_,e,rs,x,h=>by cases h
 |(a,f)::r,hl,e,rs,x,h=>by
  change (match Nat.beq e a with
   |true=>f rs
   |false=>lkT r e rs)=some x at h
  cases hb:Nat.beq e a with
  |true=>
   rw[hb]at h;rw[Nat.eq_of_beq_eq_true hb];exact hl.1 rs x h
  |false=>
   rw[hb]at h;exact Bph r hl.2 e rs x h
theorem LX.lit_spec(e:Nat)(rs:List (List PV))(x:LX)(h:LX.lit e rs=some x):x.e=e/\x.len=rs.length/\∀(i:Nat) (r:List PV),rs[i]? =some r->Z7 r (x.row i):=Bph tbl B91 e rs x h
theorem LX.nil_spec(e:Nat)(x:LX)(h:LX.nil e=some x):x.e=e/\x.len=0:=⟨(LX.lit_spec e [] x h).1,(LX.lit_spec e [] x h).2.1⟩
theorem LX.cat_spec(x y z:LX)(h:x.cat y=some z):y.e=x.e/\z.e=x.e/\y.sz=x.sz/\z.sz=x.sz/\z.len=x.len+y.len/\(∀i,i<x.len->z.row i=x.row i)/\(∀i,z.row (x.len+i)=y.row i):=by cases x<;>exact Cc8 h
theorem LX.sub_spec(x:LX)(a b:Nat)(h:b<=x.len):(x.sub a b).e=x.e/\(x.sub a b).sz=x.sz/\(x.sub a b).len=b-a/\∀i,i<b-a->(x.sub a b).row i=x.row (a+i):=by cases x<;>exact Cer _ a b h
theorem LX.rep_spec(x:LX)(n:Nat):(x.rep n).e=x.e/\(x.rep n).sz=x.sz/\(x.rep n).len=n/\∀i,i<n->(x.rep n).row i=x.row 0:=by cases x<;>exact Cdj _ n
theorem LX.set_spec(x:LX)(i off:Nat)(c:List PV)(y:LX)(h:LX.set x i off c=some y):y.e=x.e/\y.sz=x.sz/\y.len=x.len/\off+c.length<=x.sz/\(i<x.len->Z7 (L2 (x.row i) off c) (y.row i))/\∀j,j≠i->y.row j=x.row j:=by cases x<;>exact Ceq h
theorem Zu{α :Type} [Inhabited α]{l:List α}{p: α->Bool}{r:Option Nat}(h:l.findIdx? p=r):
  (r=none->∀i,i<l.length->p (l.getD i default)=false)/\(∀i,r=some i->i<l.length/\p (l.getD i default)=true/\∀j,j<i->p (l.getD j default)=false):=by
 subst h;refine⟨λh i hi=>?_,λi h=>?_⟩
 ·have:=List.findIdx?_eq_none_iff.1 h (l.getD i default) (by rw[Kj l i hi];exact List.getElem_mem hi);simpa using this
 ·obtain⟨h1,h2,h3⟩:=List.findIdx?_eq_some_iff_getElem.1 h;refine⟨h1,by rw[Kj l i h1];exact h2,λj hj=>?_⟩;rw[Kj l j (by omega)];simpa using h3 j hj
theorem LX.find_spec(x:LX)(c:List PV)(r:Option Nat)(h:LX.find x c=some r):(r=none->∀i,i<x.len->Ahm c (x.row i)=some false)/\(∀i,r=some i->i<x.len/\Ahm c (x.row i)=some true/\∀j,j<i->Ahm c (x.row j)=some false):=by
 unfold LX.find at h;split at h
 ·rename_i l k0 a0;split at h
  ·rename_i hk0;have e0:=of_decide_eq_true hk0;subst e0;injection h with h;subst h
   obtain⟨s1,s2⟩:=Zu (rfl:l.findIdx? (λb=>a0 == b)=_);have key:∀i b,(a0 == (l.getD i default))=b->Ahm [.val (.int .i64 a0)] ((LX.t3 l).row i)=some b:=λi b hb=>congrArg some hb;exact⟨λhr i hi=>key _ _ (s1 hr i hi),λi hr=>⟨(s2 i hr).1,key _ _ (s2 i hr).2.1,λj hj=>key _ _ ((s2 i hr).2.2 j hj)⟩⟩
  ·cases h
 ·rename_i l a0;injection h with h;subst h
  obtain⟨s1,s2⟩:=Zu (rfl:l.findIdx? (λb=>a0 == b)=_);have key:∀i b,(a0 == (l.getD i default))=b->Ahm [.val (.bool a0)] ((LX.t4 l).row i)=some b:=λi b hb=>congrArg some hb;exact⟨λhr i hi=>key _ _ (s1 hr i hi),λi hr=>⟨(s2 i hr).1,key _ _ (s2 i hr).2.1,λj hj=>key _ _ ((s2 i hr).2.2 j hj)⟩⟩
 ·rename_i l k0 a0;split at h
  ·rename_i hk0;have e0:=of_decide_eq_true hk0;subst e0;injection h with h;subst h
   obtain⟨s1,s2⟩:=Zu (rfl:l.findIdx? (λb=>a0 == b)=_);have key:∀i b,(a0 == (l.getD i default))=b->Ahm [.val (.int .u8 a0)] ((LX.t5 l).row i)=some b:=λi b hb=>congrArg some hb;exact⟨λhr i hi=>key _ _ (s1 hr i hi),λi hr=>⟨(s2 i hr).1,key _ _ (s2 i hr).2.1,λj hj=>key _ _ ((s2 i hr).2.2 j hj)⟩⟩
  ·cases h
 ·rename_i l a0;injection h with h;subst h
  obtain⟨s1,s2⟩:=Zu (rfl:l.findIdx? (λb=>a0 == b)=_);have key:∀i b,(a0 == (l.getD i default))=b->Ahm [.val (.string a0)] ((LX.t9 l).row i)=some b:=λi b hb=>congrArg some hb;exact⟨λhr i hi=>key _ _ (s1 hr i hi),λi hr=>⟨(s2 i hr).1,key _ _ (s2 i hr).2.1,λj hj=>key _ _ ((s2 i hr).2.2 j hj)⟩⟩
 ·rename_i l k0 a0 k1 a1;split at h
  ·rename_i hk0 hk1;have e0:=of_decide_eq_true hk0;subst e0;have e1:=of_decide_eq_true hk1;subst e1;injection h with h;subst h
   obtain⟨s1,s2⟩:=Zu (rfl:l.findIdx? (λb=>(a0 == b.bG && (a1 == b.aK)))=_);have key:∀i b,((a0 == (l.getD i default).bG && (a1 == (l.getD i default).aK)))=b->Ahm [.val (.int .i64 a0),.val (.int .i64 a1)] ((LX.t109 l).row i)=some b:=λi b hb=>congrArg some hb;exact⟨λhr i hi=>key _ _ (s1 hr i hi),λi hr=>⟨(s2 i hr).1,key _ _ (s2 i hr).2.1,λj hj=>key _ _ ((s2 i hr).2.2 j hj)⟩⟩
  ·cases h
 ·rename_i l k0 a0 k1 a1;split at h
  ·rename_i hk0 hk1;have e0:=of_decide_eq_true hk0;subst e0;have e1:=of_decide_eq_true hk1;subst e1;injection h with h;subst h
   obtain⟨s1,s2⟩:=Zu (rfl:l.findIdx? (λb=>(a0 == b.a0 && (a1 == b.a1)))=_);have key:∀i b,((a0 == (l.getD i default).a0 && (a1 == (l.getD i default).a1)))=b->Ahm [.val (.int .i64 a0),.val (.int .i64 a1)] ((LX.fG l).row i)=some b:=λi b hb=>congrArg some hb;exact⟨λhr i hi=>key _ _ (s1 hr i hi),λi hr=>⟨(s2 i hr).1,key _ _ (s2 i hr).2.1,λj hj=>key _ _ ((s2 i hr).2.2 j hj)⟩⟩
  ·cases h
 ·rename_i l a0 a1;injection h with h;subst h
  obtain⟨s1,s2⟩:=Zu (rfl:l.findIdx? (λb=>(a0 == b.a0 && (a1 == b.a1)))=_);have key:∀i b,((a0 == (l.getD i default).a0 && (a1 == (l.getD i default).a1)))=b->Ahm [.val (.string a0),.val (.string a1)] ((LX.eU l).row i)=some b:=λi b hb=>congrArg some hb;exact⟨λhr i hi=>key _ _ (s1 hr i hi),λi hr=>⟨(s2 i hr).1,key _ _ (s2 i hr).2.1,λj hj=>key _ _ ((s2 i hr).2.2 j hj)⟩⟩
 ·cases h
def ga1:List Value:= [.int .u64 1,.int .u64 10,.int .u64 100,.int .u64 1000,.int .u64 10000,.int .u64 100000,.int .u64 1000000,.int .u64 10000000,.int .u64 100000000,.int .u64 1000000000,.int .u64 10000000000,.int .u64 100000000000,.int .u64 1000000000000,.int .u64 10000000000000,.int .u64 100000000000000,.int .u64 1000000000000000,.int .u64 10000000000000000,.int .u64 100000000000000000,.int .u64 1000000000000000000,.int .u64 10000000000000000000]
def gl0:List V7:= [⟨⟨#[]⟩,0,0,false,false,false,false,false,false⟩,⟨⟨#[115,108,111,116]⟩,1,0,false,true,false,false,false,false⟩,⟨⟨#[118,97,114]⟩,2,0,false,true,false,false,false,false⟩,⟨⟨#[100,114,97,119]⟩,1,3,false,false,false,false,true,false⟩,⟨⟨#[106,117,109,112]⟩,4,0,false,false,false,false,false,false⟩,⟨⟨#[98,114,97,110,99,104]⟩,4,0,false,true,false,false,false,false⟩,⟨⟨#[104,111,108,100]⟩,0,0,false,true,false,false,false,false⟩,⟨⟨#[115,101,105,122,101]⟩,5,0,false,true,true,false,false,true⟩,⟨⟨#[114,101,108,101,97,115,101]⟩,5,0,false,true,false,false,false,false⟩,⟨⟨#[112,117,116]⟩,6,0,false,true,false,false,false,false⟩,⟨⟨#[103,101,116]⟩,6,1,false,false,false,false,false,false⟩,⟨⟨#[114,105,100,101]⟩,7,0,false,false,false,false,false,false⟩,⟨⟨#[119,97,105,116]⟩,8,0,false,false,false,false,false,false⟩,⟨⟨#[115,105,103,110,97,108]⟩,8,0,false,true,false,false,false,false⟩,⟨⟨#[115,101,110,100]⟩,9,10,true,true,false,true,false,false⟩,⟨⟨#[115,112,97,119,110]⟩,0,10,false,true,false,true,false,false⟩,⟨⟨#[111,98,115,101,114,118,101]⟩,11,0,false,true,false,false,false,false⟩,⟨⟨#[108,101,118,101,108]⟩,12,0,false,true,false,false,false,false⟩,⟨⟨#[99,111,117,110,116]⟩,13,0,false,true,false,false,false,false⟩,⟨⟨#[101,110,100]⟩,0,0,false,false,false,false,false,false⟩]
def GL:List (Nat×LX):= [(0,.fD gl0)]
def GA:List (Nat×List Value):= [(1,ga1)]
end Go.Proofs.YthjhkpgonleelaaGreatDoor.Ev
