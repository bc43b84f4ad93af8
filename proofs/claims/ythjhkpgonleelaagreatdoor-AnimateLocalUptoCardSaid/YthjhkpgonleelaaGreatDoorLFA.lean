/-  The types of the data, and of rows of them. -/
import Derived.Test.YthjhkpgonleelaaGreatDoorRows
import Derived.WalkKit
import Derived.LoopN
import Derived.Great.BuildSlice
import Derived.Deep.Draws
set_option linter.unusedVariables false
set_option linter.unusedSimpArgs false
set_option linter.unnecessarySimpa false
namespace Go.Proofs.YthjhkpgonleelaaGreatDoor.Ev
open Go
abbrev Yb:=ByteArray
structure Bo where
 a0:Yb
 a1:Yb
 deriving Inhabited
structure Ea where
 a0:Int
 a1:Int
 deriving Inhabited
structure Dr where
 aV:Int
 To:Int
 bR:Int
 deriving Inhabited
structure Bk where
 Op:Int
 A:Int
 B:Int
 N:Int
 aW:(List Int)
 aU:(List Int)
 deriving Inhabited
inductive Ab where
 |mk (Op:Int) (aF:Yb) (N:Int) (aY:(List Ab))
instance:Inhabited Ab:=⟨.mk 0 ByteArray.empty 0 []⟩
def Ab.Op:Ab->Int| .mk x _ _ _=>x
def Ab.aF:Ab->Yb| .mk _ x _ _=>x
def Ab.N:Ab->Int| .mk _ _ x _=>x
def Ab.aY:Ab->(List Ab)| .mk _ _ _ x=>x
def Ab.cp(x:Ab):Ab:=.mk x.Op x.aF x.N x.aY
theorem Ab.cp_eq(x:Ab):Ab.cp x=x:=by cases x;rfl
theorem Ab.eta(x:Ab):Ab.mk x.Op x.aF x.N x.aY=x:=by cases x;rfl
structure Aq where
 Op:Int
 A:Int
 B:Int
 C:Int
 E:Ab
 F:Ab
 aM:(List Ab)
 bE:Bk
 bU:Bool
 deriving Inhabited
structure Ap where
 aF:Yb
 aI:Int
 dD:Int
 aP:(List Aq)
 deriving Inhabited
structure Bg where
 aF:Yb
 Length:Int
 Step:Int
 deriving Inhabited
structure Bd where
 cO:Int
 aQ:Yb
 aF:Yb
 deriving Inhabited
structure Bh where
 aF:Yb
 bS:(List Bd)
 Total:Int
 deriving Inhabited
structure Er where
 At:Int
 Units:Int
 deriving Inhabited
structure Np where
 dH:Yb
 Up:Bk
 Down:Bk
 deriving Inhabited
structure Aj where
 aF:Yb
 Units:Int
 aZ:(List Er)
 cZ:Int
 bQ:Np
 deriving Inhabited
structure A9 where
 aF:Yb
 bM:Int
 deriving Inhabited
inductive Ad where
 |mk (Op:Int) (aF:Yb) (Of:Yb) (E:Ab) (F:Ab) (aM:(List Ab)) (bE:Bk) (bU:Bool) (bD:(List Ad)) (bL:(List Ad))
instance:Inhabited Ad:=⟨.mk 0 ByteArray.empty ByteArray.empty default default [] default false [] []⟩
def Ad.Op:Ad->Int| .mk x _ _ _ _ _ _ _ _ _=>x
def Ad.aF:Ad->Yb| .mk _ x _ _ _ _ _ _ _ _=>x
def Ad.Of:Ad->Yb| .mk _ _ x _ _ _ _ _ _ _=>x
def Ad.E:Ad->Ab| .mk _ _ _ x _ _ _ _ _ _=>x
def Ad.F:Ad->Ab| .mk _ _ _ _ x _ _ _ _ _=>x
def Ad.aM:Ad->(List Ab)| .mk _ _ _ _ _ x _ _ _ _=>x
def Ad.bE:Ad->Bk| .mk _ _ _ _ _ _ x _ _ _=>x
def Ad.bU:Ad->Bool| .mk _ _ _ _ _ _ _ x _ _=>x
def Ad.bD:Ad->(List Ad)| .mk _ _ _ _ _ _ _ _ x _=>x
def Ad.bL:Ad->(List Ad)| .mk _ _ _ _ _ _ _ _ _ x=>x
def Ad.cp(x:Ad):Ad:=.mk x.Op x.aF x.Of (Ab.cp x.E) (Ab.cp x.F) x.aM x.bE x.bU x.bD x.bL
theorem Ad.cp_eq(x:Ad):Ad.cp x=x:=by cases x;simp only[Ad.cp,Ab.cp_eq,Ad.Op,Ad.aF,Ad.Of,Ad.E,Ad.F,Ad.aM,Ad.bE,Ad.bU,Ad.bD,Ad.bL]
theorem Ad.eta(x:Ad):Ad.mk x.Op x.aF x.Of x.E x.F x.aM x.bE x.bU x.bD x.bL=x:=by cases x;rfl
structure Al where
 aF:Yb
 aI:(List A9)
 bC:(List A9)
 bD:(List Ad)
 deriving Inhabited
structure Bv where
 dI:Yb
 aM:(List Int)
 At:Int
 Every:Int
 Until:Int
 deriving Inhabited
structure Ar where
 aF:Yb
 Room:Int
 dM:Int
 deriving Inhabited
structure Aw where
 aF:Yb
 bM:Int
 N:Int
 deriving Inhabited
structure Aa where
 aF:Yb
 bX:(List Aw)
 aG:(List Aj)
 aL:(List Ar)
 bN:(List Bg)
 bH:(List Yb)
 bB:(List Yb)
 bG:(List Yb)
 bP:(List Yb)
 bF:(List Yb)
 aD:(List Al)
 bV:(List Bv)
 Laws:(List Bh)
 deriving Inhabited
structure Az where
 aK:Aa
 aD:(List Ap)
 deriving Inhabited
structure Ac where
 aF:Yb
 aA:(List Az)
 aH:(List Dr)
 deriving Inhabited
structure Au where
 Time:Int
 bW:Int
 aQ:Int
 bZ:Int
 aJ:Int
 Value:Int
 deriving Inhabited
structure H1 where
 P:Ac
 bK:(List Au)
 bW:Int
 T:Int
 Step:Int
 N:Int
 deriving Inhabited
structure Cz where
 aF:Bool
 Of:Bool
 E:Bool
 F:Bool
 aM:Bool
 bE:Bool
 bU:Bool
 bD:Bool
 bL:Bool
 deriving Inhabited
structure Cq where
 Word:Yb
 A:Yb
 B:Yb
 C:Bool
 E:Bool
 F:Bool
 bU:Bool
 aM:Bool
 bE:Bool
 deriving Inhabited
structure Am where
 dA:Int
 aR:Int
 deriving Inhabited
structure Qd where
 gV:Bool
 fH:Ab
 deriving Inhabited
structure Ha where
 gV:Bool
 dP:Yb
 deriving Inhabited
structure Ao where
 Time:Int
 bW:Int
 dY:(List Int)
 Held:(List Int)
 dB:(List Int)
 Items:(List Int)
 deriving Inhabited
structure B9 where
 aV:Yb
 To:Yb
 bR:Int
 deriving Inhabited
structure Ai where
 aF:Yb
 aI:(List Aw)
 aA:(List Aa)
 aH:(List B9)
 deriving Inhabited
structure Vf where
 gN:Yb
 fU:Int
 fZ:Int
 u_c:Bool
 fH:Bool
 fM:Bool
 dF:Bool
 bO:Bool
 dV:Bool
 deriving Inhabited
structure Av where
 bJ:Ac
 aS:Int
 u_c:Ap
 deriving Inhabited
structure Bl where
 bT:Bool
 deriving Inhabited
structure Bs where
 dP:Bool
 fQ:Bool
 fH:Bool
 fM:Bool
 dF:Bool
 bO:Bool
 eX:Bool
 eZ:Bool
 dZ:Bool
 deriving Inhabited
inductive LX where
 |t3 (l:List Int)
 |t4 (l:List Bool)
 |t5 (l:List Int)
 |t9 (l:List Yb)
 |t32 (l:List Ao)
 |t46 (l:List Au)
 |t61 (l:List (List Yb))
 |t66 (l:List Aa)
 |t69 (l:List Az)
 |t78 (l:List Ap)
 |t86 (l:List Aj)
 |t89 (l:List Ar)
 |gH (l:List (List A9))
 |t93 (l:List Al)
 |dU (l:List Ab)
 |eU (l:List Aq)
 |t109 (l:List Am)
 |dN (l:List Am)
 |dO (l:List Aw)
 |t127 (l:List Dr)
 |fC (l:List Ea)
 |eG (l:List Bv)
 |t154 (l:List Bh)
 |t156 (l:List B9)
 |eF (l:List Bg)
 |eH (l:List Bo)
 |fB (l:List Vf)
 |dQ (l:List A9)
 |t203 (l:List Bd)
 |fJ (l:List Cq)
 |fA (l:List Er)
 |dW (l:List Ad)
 |fI (l:List Ha)
 |fK (l:List Qd)
 deriving Inhabited
def LX.e:LX->Nat
 | .t3 l=>3
 | .t4 l=>4
 | .t5 l=>5
 | .t9 l=>9
 | .t32 l=>32
 | .t46 l=>46
 | .t61 l=>61
 | .t66 l=>66
 | .t69 l=>69
 | .t78 l=>78
 | .t86 l=>86
 | .t89 l=>89
 | .gH l=>90
 | .t93 l=>93
 | .dU l=>98
 | .eU l=>100
 | .t109 l=>109
 | .dN l=>115
 | .dO l=>123
 | .t127 l=>127
 | .fC l=>135
 | .eG l=>150
 | .t154 l=>154
 | .t156 l=>156
 | .eF l=>178
 | .eH l=>186
 | .fB l=>190
 | .dQ l=>200
 | .t203 l=>203
 | .fJ l=>205
 | .fA l=>216
 | .dW l=>264
 | .fI l=>275
 | .fK l=>277
def LX.sz:LX->Nat
 | .t3 l=>1
 | .t4 l=>1
 | .t5 l=>1
 | .t9 l=>1
 | .t32 l=>6
 | .t46 l=>6
 | .t61 l=>1
 | .t66 l=>13
 | .t69 l=>14
 | .t78 l=>4
 | .t86 l=>17
 | .t89 l=>3
 | .gH l=>1
 | .t93 l=>4
 | .dU l=>4
 | .eU l=>20
 | .t109 l=>2
 | .dN l=>2
 | .dO l=>3
 | .t127 l=>3
 | .fC l=>2
 | .eG l=>5
 | .t154 l=>3
 | .t156 l=>3
 | .eF l=>3
 | .eH l=>2
 | .fB l=>9
 | .dQ l=>2
 | .t203 l=>3
 | .fJ l=>9
 | .fA l=>2
 | .dW l=>21
 | .fI l=>2
 | .fK l=>5
def LX.len:LX->Nat
 | .t3 l=>l.length
 | .t4 l=>l.length
 | .t5 l=>l.length
 | .t9 l=>l.length
 | .t32 l=>l.length
 | .t46 l=>l.length
 | .t61 l=>l.length
 | .t66 l=>l.length
 | .t69 l=>l.length
 | .t78 l=>l.length
 | .t86 l=>l.length
 | .t89 l=>l.length
 | .gH l=>l.length
 | .t93 l=>l.length
 | .dU l=>l.length
 | .eU l=>l.length
 | .t109 l=>l.length
 | .dN l=>l.length
 | .dO l=>l.length
 | .t127 l=>l.length
 | .fC l=>l.length
 | .eG l=>l.length
 | .t154 l=>l.length
 | .t156 l=>l.length
 | .eF l=>l.length
 | .eH l=>l.length
 | .fB l=>l.length
 | .dQ l=>l.length
 | .t203 l=>l.length
 | .fJ l=>l.length
 | .fA l=>l.length
 | .dW l=>l.length
 | .fI l=>l.length
 | .fK l=>l.length
def LX.g3:LX->Option (List Int)
 | .t3 l=>some l
 |_=>none
def LX.g4:LX->Option (List Bool)
 | .t4 l=>some l
 |_=>none
def LX.g5:LX->Option (List Int)
 | .t5 l=>some l
 |_=>none
def LX.g9:LX->Option (List Yb)
 | .t9 l=>some l
 |_=>none
def LX.g32:LX->Option (List Ao)
 | .t32 l=>some l
 |_=>none
def LX.g46:LX->Option (List Au)
 | .t46 l=>some l
 |_=>none
def LX.g61:LX->Option (List (List Yb))
 | .t61 l=>some l
 |_=>none
def LX.g66:LX->Option (List Aa)
 | .t66 l=>some l
 |_=>none
def LX.g69:LX->Option (List Az)
 | .t69 l=>some l
 |_=>none
def LX.g78:LX->Option (List Ap)
 | .t78 l=>some l
 |_=>none
def LX.g86:LX->Option (List Aj)
 | .t86 l=>some l
 |_=>none
def LX.g89:LX->Option (List Ar)
 | .t89 l=>some l
 |_=>none
def LX.g90:LX->Option (List (List A9))
 | .gH l=>some l
 |_=>none
def LX.g93:LX->Option (List Al)
 | .t93 l=>some l
 |_=>none
def LX.g98:LX->Option (List Ab)
 | .dU l=>some l
 |_=>none
def LX.g100:LX->Option (List Aq)
 | .eU l=>some l
 |_=>none
def LX.g109:LX->Option (List Am)
 | .t109 l=>some l
 |_=>none
def LX.g115:LX->Option (List Am)
 | .dN l=>some l
 |_=>none
def LX.g123:LX->Option (List Aw)
 | .dO l=>some l
 |_=>none
def LX.g127:LX->Option (List Dr)
 | .t127 l=>some l
 |_=>none
def LX.g135:LX->Option (List Ea)
 | .fC l=>some l
 |_=>none
def LX.g150:LX->Option (List Bv)
 | .eG l=>some l
 |_=>none
def LX.g154:LX->Option (List Bh)
 | .t154 l=>some l
 |_=>none
def LX.g156:LX->Option (List B9)
 | .t156 l=>some l
 |_=>none
def LX.g178:LX->Option (List Bg)
 | .eF l=>some l
 |_=>none
def LX.g186:LX->Option (List Bo)
 | .eH l=>some l
 |_=>none
def LX.g190:LX->Option (List Vf)
 | .fB l=>some l
 |_=>none
def LX.g200:LX->Option (List A9)
 | .dQ l=>some l
 |_=>none
def LX.g203:LX->Option (List Bd)
 | .t203 l=>some l
 |_=>none
def LX.g205:LX->Option (List Cq)
 | .fJ l=>some l
 |_=>none
def LX.g216:LX->Option (List Er)
 | .fA l=>some l
 |_=>none
def LX.g264:LX->Option (List Ad)
 | .dW l=>some l
 |_=>none
def LX.g275:LX->Option (List Ha)
 | .fI l=>some l
 |_=>none
def LX.g277:LX->Option (List Qd)
 | .fK l=>some l
 |_=>none
def S8{α :Type}(K: α->LX)(o:Option α):Option LX:=match o with
 |some l=>some (K l)
 |none=>none
def B7f{α :Type}(b:Bool)(K: α->LX)(o:Option α):Option LX:=match b,o with
 |true,some l=>some (K l)
 |_,_=>none
def LX.cat(x y:LX):Option LX:=match x with
 | .t3 l=>S8 (λm=>.t3 (l++m)) y.g3
 | .t4 l=>S8 (λm=>.t4 (l++m)) y.g4
 | .t5 l=>S8 (λm=>.t5 (l++m)) y.g5
 | .t9 l=>S8 (λm=>.t9 (l++m)) y.g9
 | .t32 l=>S8 (λm=>.t32 (l++m)) y.g32
 | .t46 l=>S8 (λm=>.t46 (l++m)) y.g46
 | .t61 l=>S8 (λm=>.t61 (l++m)) y.g61
 | .t66 l=>S8 (λm=>.t66 (l++m)) y.g66
 | .t69 l=>S8 (λm=>.t69 (l++m)) y.g69
 | .t78 l=>S8 (λm=>.t78 (l++m)) y.g78
 | .t86 l=>S8 (λm=>.t86 (l++m)) y.g86
 | .t89 l=>S8 (λm=>.t89 (l++m)) y.g89
 | .gH l=>S8 (λm=>.gH (l++m)) y.g90
 | .t93 l=>S8 (λm=>.t93 (l++m)) y.g93
 | .dU l=>S8 (λm=>.dU (l++m)) y.g98
 | .eU l=>S8 (λm=>.eU (l++m)) y.g100
 | .t109 l=>S8 (λm=>.t109 (l++m)) y.g109
 | .dN l=>S8 (λm=>.dN (l++m)) y.g115
 | .dO l=>S8 (λm=>.dO (l++m)) y.g123
 | .t127 l=>S8 (λm=>.t127 (l++m)) y.g127
 | .fC l=>S8 (λm=>.fC (l++m)) y.g135
 | .eG l=>S8 (λm=>.eG (l++m)) y.g150
 | .t154 l=>S8 (λm=>.t154 (l++m)) y.g154
 | .t156 l=>S8 (λm=>.t156 (l++m)) y.g156
 | .eF l=>S8 (λm=>.eF (l++m)) y.g178
 | .eH l=>S8 (λm=>.eH (l++m)) y.g186
 | .fB l=>S8 (λm=>.fB (l++m)) y.g190
 | .dQ l=>S8 (λm=>.dQ (l++m)) y.g200
 | .t203 l=>S8 (λm=>.t203 (l++m)) y.g203
 | .fJ l=>S8 (λm=>.fJ (l++m)) y.g205
 | .fA l=>S8 (λm=>.fA (l++m)) y.g216
 | .dW l=>S8 (λm=>.dW (l++m)) y.g264
 | .fI l=>S8 (λm=>.fI (l++m)) y.g275
 | .fK l=>S8 (λm=>.fK (l++m)) y.g277
def LX.sub(x:LX)(a b:Nat):LX:=match x with
 | .t3 l=>.t3 ((l.take b).drop a)
 | .t4 l=>.t4 ((l.take b).drop a)
 | .t5 l=>.t5 ((l.take b).drop a)
 | .t9 l=>.t9 ((l.take b).drop a)
 | .t32 l=>.t32 ((l.take b).drop a)
 | .t46 l=>.t46 ((l.take b).drop a)
 | .t61 l=>.t61 ((l.take b).drop a)
 | .t66 l=>.t66 ((l.take b).drop a)
 | .t69 l=>.t69 ((l.take b).drop a)
 | .t78 l=>.t78 ((l.take b).drop a)
 | .t86 l=>.t86 ((l.take b).drop a)
 | .t89 l=>.t89 ((l.take b).drop a)
 | .gH l=>.gH ((l.take b).drop a)
 | .t93 l=>.t93 ((l.take b).drop a)
 | .dU l=>.dU ((l.take b).drop a)
 | .eU l=>.eU ((l.take b).drop a)
 | .t109 l=>.t109 ((l.take b).drop a)
 | .dN l=>.dN ((l.take b).drop a)
 | .dO l=>.dO ((l.take b).drop a)
 | .t127 l=>.t127 ((l.take b).drop a)
 | .fC l=>.fC ((l.take b).drop a)
 | .eG l=>.eG ((l.take b).drop a)
 | .t154 l=>.t154 ((l.take b).drop a)
 | .t156 l=>.t156 ((l.take b).drop a)
 | .eF l=>.eF ((l.take b).drop a)
 | .eH l=>.eH ((l.take b).drop a)
 | .fB l=>.fB ((l.take b).drop a)
 | .dQ l=>.dQ ((l.take b).drop a)
 | .t203 l=>.t203 ((l.take b).drop a)
 | .fJ l=>.fJ ((l.take b).drop a)
 | .fA l=>.fA ((l.take b).drop a)
 | .dW l=>.dW ((l.take b).drop a)
 | .fI l=>.fI ((l.take b).drop a)
 | .fK l=>.fK ((l.take b).drop a)
def LX.rep(x:LX)(n:Nat):LX:=match x with
 | .t3 l=>.t3 (List.replicate n (l.getD 0 default))
 | .t4 l=>.t4 (List.replicate n (l.getD 0 default))
 | .t5 l=>.t5 (List.replicate n (l.getD 0 default))
 | .t9 l=>.t9 (List.replicate n (l.getD 0 default))
 | .t32 l=>.t32 (List.replicate n (l.getD 0 default))
 | .t46 l=>.t46 (List.replicate n (l.getD 0 default))
 | .t61 l=>.t61 (List.replicate n (l.getD 0 default))
 | .t66 l=>.t66 (List.replicate n (l.getD 0 default))
 | .t69 l=>.t69 (List.replicate n (l.getD 0 default))
 | .t78 l=>.t78 (List.replicate n (l.getD 0 default))
 | .t86 l=>.t86 (List.replicate n (l.getD 0 default))
 | .t89 l=>.t89 (List.replicate n (l.getD 0 default))
 | .gH l=>.gH (List.replicate n (l.getD 0 default))
 | .t93 l=>.t93 (List.replicate n (l.getD 0 default))
 | .dU l=>.dU (List.replicate n (l.getD 0 default))
 | .eU l=>.eU (List.replicate n (l.getD 0 default))
 | .t109 l=>.t109 (List.replicate n (l.getD 0 default))
 | .dN l=>.dN (List.replicate n (l.getD 0 default))
 | .dO l=>.dO (List.replicate n (l.getD 0 default))
 | .t127 l=>.t127 (List.replicate n (l.getD 0 default))
 | .fC l=>.fC (List.replicate n (l.getD 0 default))
 | .eG l=>.eG (List.replicate n (l.getD 0 default))
 | .t154 l=>.t154 (List.replicate n (l.getD 0 default))
 | .t156 l=>.t156 (List.replicate n (l.getD 0 default))
 | .eF l=>.eF (List.replicate n (l.getD 0 default))
 | .eH l=>.eH (List.replicate n (l.getD 0 default))
 | .fB l=>.fB (List.replicate n (l.getD 0 default))
 | .dQ l=>.dQ (List.replicate n (l.getD 0 default))
 | .t203 l=>.t203 (List.replicate n (l.getD 0 default))
 | .fJ l=>.fJ (List.replicate n (l.getD 0 default))
 | .fA l=>.fA (List.replicate n (l.getD 0 default))
 | .dW l=>.dW (List.replicate n (l.getD 0 default))
 | .fI l=>.fI (List.replicate n (l.getD 0 default))
 | .fK l=>.fK (List.replicate n (l.getD 0 default))
end Go.Proofs.YthjhkpgonleelaaGreatDoor.Ev
namespace Go.Proofs.YthjhkpgonleelaaGreatDoor.Ev
open Go
inductive PV where
 |any
 |val (v:Value)
 |agg (l:List PV)
 |bY (l:List PV)
 |sl (own:Bool) (e sz:Nat) (es:List (List PV))
 |bA (own:Bool) (x:LX)
 |ref (l:List PV)
 |loc (d off:Nat)
 |el (d sz i off:Nat)
 |vw (c:Bool) (d e sz n:Nat)
 |mp (d:Nat)
 |bI (f n:Nat) (caps:List PV)
 |aX (x:LX)
 |aO (gk gv:Bool) (ks vs:LX)
 |dG (es:Array MapEntry) (clock:Nat) (gk gv:Bool) (ks vs:LX)
 deriving Inhabited
def PV.view:PV->PV
 | .sl _ e sz es=>.sl false e sz es
 | .bA _ x=>.bA false x
 |p=>p
def PV.flat:PV->Bool
 | .any=>true
 | .val _=>true
 | .bA _ _=>true
 |_=>false
inductive PV.Le:PV->PV->Prop
 |view (p:PV):PV.Le p p.view
 |nil (own:Bool) (y:LX) (h:y.len=0):PV.Le (.val (.slice none 0 0)) (.bA own y)
def Li(l:List PV)(off:Nat)(new:List PV):List PV:=match l,off,new with
 | [],_,_=> []
 |l,_,[]=>l
 |_::r,0,q::new=>q::Li r 0 new
 |p::r,n+1,new=>p::Li r n new
def As5:PV->PV->Option Bool
 | .val (.int k a),.val (.int k' b)=>match decide (k=k') with
  |true=>some (a == b)
  |false=>none
 | .val (.string a),.val (.string b)=>some (a == b)
 | .val (.bool a),.val (.bool b)=>some (a == b)
 |_,_=>none
def A8i:PV->List PV->PV->List PV->Option Bool
 |a,[],b,[]=>As5 a b
 |a,a'::l,b,b'::m=>match As5 a b,A8i a' l b' m with
  |some x,some y=>some (x && y)
  |_,_=>none
 |_,_,_,_=>none
def Agb:List PV->List PV->Option Bool
 |a::l,b::m=>A8i a l b m
 |_,_=>none
end Go.Proofs.YthjhkpgonleelaaGreatDoor.Ev
namespace Go.Proofs.YthjhkpgonleelaaGreatDoor.Ev
open Go
def A34(l:List PV)(n:Nat):Bool:=match l,n with
 |_,0=>true
 |_::r,n+1=>A34 r n
 |_,_=>false
def Brc(k:IntKind):PV->Option Int
 | .val (.int k' a)=>match decide (k'=k) with
  |true=>some a
  |false=>none
 |_=>none
def Bh9:PV->Option Bool
 | .val (.bool a)=>some a
 |_=>none
def Brd:PV->Option ByteArray
 | .val (.string a)=>some a
 |_=>none
inductive Y6:List PV->List PV->Prop
 |nil:Y6 [] []
 |cons {p q:PV} {r s:List PV} (h:PV.Le p q) (hr:Y6 r s):Y6 (p::r) (q::s)
theorem A9l{k:IntKind}{p:PV}{a:Int}(h:Brc k p=some a):PV.Le p (.val (.int k a)):=by
 unfold Brc at h;split at h
 ·split at h
  ·rename_i hk;have:=of_decide_eq_true hk;subst this;injection h with h;subst h;exact .view _
  ·cases h
 ·cases h
theorem A3n{p:PV}{a:Bool}(h:Bh9 p=some a):PV.Le p (.val (.bool a)):=by
 unfold Bh9 at h;split at h
 ·injection h with h;subst h;exact .view _
 ·cases h
theorem A9m{p:PV}{a:ByteArray}(h:Brd p=some a):PV.Le p (.val (.string a)):=by
 unfold Brd at h;split at h
 ·injection h with h;subst h;exact .view _
 ·cases h
def Bj5{α :Type}(d:List PV->Option α):List (List PV)->Option (List α)
 | []=>some []
 |r::rs=>match d r,Bj5 d rs with
  |some a,some l=>some (a::l)
  |_,_=>none
theorem A7p{α :Type} [Inhabited α]{d:List PV->Option α}{row: α->List PV}(hd:∀r a,d r=some a->Y6 r (row a)):∀(rs:List (List PV)) (l:List α),Bj5 d rs=some l->
  l.length=rs.length/\∀(i:Nat) (r:List PV),rs[i]? =some r->Y6 r (row (l.getD i default))
 | [],l,h=>by
  simp only[Bj5,Option.some.injEq]at h;subst h;exact⟨rfl,λi r hr=>by simp at hr⟩
 |r::rs,l,h=>by
  simp only[Bj5]at h;split at h
  ·rename_i a m h1 h2;injection h with h
   subst h;obtain⟨q1,q2⟩:=A7p hd rs m h2;refine⟨by simp[q1],λi x hx=>?_⟩;cases i with
   |zero=>simp at hx;subst hx;simpa using hd _ _ h1
   |succ i=>simpa using q2 i x (by simpa using hx)
  ·cases h
def A3x:List PV->Bool
 | []=>true
 |p::r=>match p.flat with
  |true=>A3x r
  |false=>false
theorem A7w:∀(l:List PV),A3x l=true->∀p∈l,p.flat=true
 | [],_,p,h=>by cases h
 |q::r,h,p,hp=>by
  simp only[A3x]at h;cases hq:q.flat with
  |false=>rw[hq]at h;cases h
  |true=>
   rw[hq]at h;rcases List.mem_cons.1 hp with e|e
   ·subst e;exact hq
   ·exact A7w r h p e
structure CD (α :Type) where
 d:PV->Option α
 w: α->PV
 le:∀ {p a},d p=some a->PV.Le p (w a)
 fl:∀a,(w a).flat=true
def oI(k:IntKind):CD Int:=⟨Brc k,λx=>.val (.int k x),A9l,λ_=>rfl⟩
def oB:CD Bool:=⟨Bh9,λx=>.val (.bool x),A3n,λ_=>rfl⟩
def oT:CD ByteArray:=⟨Brd,λx=>.val (.string x),A9m,λ_=>rfl⟩
class TL {α :Type} (K:List α->LX) (g:outParam (LX->Option (List α))) (u z:outParam Nat):Prop where
 e:∀l,(K l).e=u:=by intro l;rfl
 sz:∀l,(K l).sz=z:=by intro l;rfl
 len:∀l,(K l).len=l.length:=by intro l;rfl
 gk:∀y m,g y=some m->y=K m:=by intro y m h;cases y<;>first|(injection h with h;subst h;rfl)|cases h
 of:∀x,x.e=u->∃l,x=K l:=by intro x h;cases x<;>first|exact⟨_,rfl⟩|(simp[LX.e]at h)
def dL{α :Type}(g:LX->Option (List α)):PV->Option (List α)
 | .bA _ x=>g x
 | .val (.slice none 0 0)=>some []
 |_=>none
def oW{α :Type}(K:List α->LX){g:LX->Option (List α)}{e sz:Nat} [k:TL K g e sz]:CD (List α):=⟨dL g,λx=>.bA false (K x),λ{p a} h=>(by
 unfold dL at h;split at h
 ·rw[k.gk _ _ h];exact .view _
 ·injection h with h;subst h;exact .nil false _ (k.len _)
 ·cases h),λ_=>rfl⟩
structure RF (α :Type) where
 d:List PV->Option α
 w: α->List PV
 le:∀r a,d r=some a->Y6 r (w a)
 fl:∀a,A3x (w a)=true
def CD.o{α :Type}(c:CD α):RF α :=⟨fun
 | [p]=>c.d p
 |_=>none,λa=> [c.w a],λr a h=>(by
 split at h
 ·exact .cons (c.le h) .nil
 ·cases h),λa=>by simp only[A3x,c.fl]⟩
def CD.c{α β :Type}(c:CD α)(f:RF β):RF (α×β):=⟨fun
 |p::r=>match c.d p,f.d r with
  |some a,some b=>some (a,b)
  |_,_=>none
 |_=>none,λa=>c.w a.1::f.w a.2,λr a h=>(by
 split at h
 ·split at h
  ·rename_i h1 h2;injection h with h;subst h
   exact .cons (c.le h1) (f.le _ _ h2)
  ·cases h
 ·cases h),λa=>by simp only[A3x,c.fl,f.fl]⟩
def RF.to{α β :Type}(f:RF α)(g: α->β)(w: β->List PV)(h:∀a,w (g a)=f.w a:=by intro a;rfl)(h2:∀a,A3x (w a)=true:=by intro a;rfl):RF β :=⟨λr=>match f.d r with
 |some a=>some (g a)
 |none=>none,w,λr a hh=>(by
 split at hh
 ·rename_i h1;injection hh with hh;subst hh
  rw[h];exact f.le _ _ h1
 ·cases hh),h2⟩
instance:TL LX.t3 LX.g3 3 1:= {}
instance:TL LX.t4 LX.g4 4 1:= {}
instance:TL LX.t5 LX.g5 5 1:= {}
instance:TL LX.t9 LX.g9 9 1:= {}
instance:TL LX.t32 LX.g32 32 6:= {}
instance:TL LX.t46 LX.g46 46 6:= {}
instance:TL LX.t61 LX.g61 61 1:= {}
instance:TL LX.t66 LX.g66 66 13:= {}
instance:TL LX.t69 LX.g69 69 14:= {}
instance:TL LX.t78 LX.g78 78 4:= {}
instance:TL LX.t86 LX.g86 86 17:= {}
instance:TL LX.t89 LX.g89 89 3:= {}
instance:TL LX.gH LX.g90 90 1:= {}
instance:TL LX.t93 LX.g93 93 4:= {}
instance:TL LX.dU LX.g98 98 4:= {}
instance:TL LX.eU LX.g100 100 20:= {}
instance:TL LX.t109 LX.g109 109 2:= {}
instance:TL LX.dN LX.g115 115 2:= {}
instance:TL LX.dO LX.g123 123 3:= {}
instance:TL LX.t127 LX.g127 127 3:= {}
instance:TL LX.fC LX.g135 135 2:= {}
instance:TL LX.eG LX.g150 150 5:= {}
instance:TL LX.t154 LX.g154 154 3:= {}
instance:TL LX.t156 LX.g156 156 3:= {}
instance:TL LX.eF LX.g178 178 3:= {}
instance:TL LX.eH LX.g186 186 2:= {}
instance:TL LX.fB LX.g190 190 9:= {}
instance:TL LX.dQ LX.g200 200 2:= {}
instance:TL LX.t203 LX.g203 203 3:= {}
instance:TL LX.fJ LX.g205 205 9:= {}
instance:TL LX.fA LX.g216 216 2:= {}
instance:TL LX.dW LX.g264 264 21:= {}
instance:TL LX.fI LX.g275 275 2:= {}
instance:TL LX.fK LX.g277 277 5:= {}
def Cm(x:Ac):List PV:= [.val (.string x.aF),.bA false (.t69 x.aA),.bA false (.t127 x.aH)]
def A5g:RF Ac:=RF.to (oT.c ((oW LX.t69).c ((oW LX.t127).o))) (λ(a0,a1,a2)=>.mk a0 a1 a2) Cm
def Uv(x:H1):List PV:= [.val (.string x.P.aF),.bA false (.t69 x.P.aA),.bA false (.t127 x.P.aH),.bA false (.t46 x.bK),.val (.int .i64 x.bW),.val (.int .i64 x.T),.val (.int .i64 x.Step),.val (.int .i64 x.N)]
def Lr(x:Ao):List PV:= [.val (.int .i64 x.Time),.val (.int .i64 x.bW),.bA false (.t3 x.dY),.bA false (.t3 x.Held),.bA false (.t3 x.dB),.bA false (.t3 x.Items)]
def m8:RF Ao:=RF.to ((oI .i64).c ((oI .i64).c ((oW LX.t3).c ((oW LX.t3).c ((oW LX.t3).c ((oW LX.t3).o)))))) (λ(a0,a1,a2,a3,a4,a5)=>.mk a0 a1 a2 a3 a4 a5) Lr
def B4(x:Au):List PV:= [.val (.int .i64 x.Time),.val (.int .i64 x.bW),.val (.int .i64 x.aQ),.val (.int .i64 x.bZ),.val (.int .i64 x.aJ),.val (.int .i64 x.Value)]
def Aos:RF Au:=RF.to ((oI .i64).c ((oI .i64).c ((oI .i64).c ((oI .i64).c ((oI .i64).c ((oI .i64).o)))))) (λ(a0,a1,a2,a3,a4,a5)=>.mk a0 a1 a2 a3 a4 a5) B4
def Ae(x:Aa):List PV:= [.val (.string x.aF),.bA false (.dO x.bX),.bA false (.t86 x.aG),.bA false (.t89 x.aL),.bA false (.eF x.bN),.bA false (.t9 x.bH),.bA false (.t9 x.bB),.bA false (.t9 x.bG),.bA false (.t9 x.bP),.bA false (.t9 x.bF),.bA false (.t93 x.aD),.bA false (.eG x.bV),.bA false (.t154 x.Laws)]
def Sq:RF Aa:=RF.to (oT.c ((oW LX.dO).c ((oW LX.t86).c ((oW LX.t89).c ((oW LX.eF).c ((oW LX.t9).c ((oW LX.t9).c ((oW LX.t9).c ((oW LX.t9).c ((oW LX.t9).c ((oW LX.t93).c ((oW LX.eG).c ((oW LX.t154).o))))))))))))) (λ(a0,a1,a2,a3,a4,a5,a6,a7,a8,a9,a10,a11,a12)=>.mk a0 a1 a2 a3 a4 a5 a6 a7 a8 a9 a10 a11 a12) Ae
def Me(x:Az):List PV:= [.val (.string x.aK.aF),.bA false (.dO x.aK.bX),.bA false (.t86 x.aK.aG),.bA false (.t89 x.aK.aL),.bA false (.eF x.aK.bN),.bA false (.t9 x.aK.bH),.bA false (.t9 x.aK.bB),.bA false (.t9 x.aK.bG),.bA false (.t9 x.aK.bP),.bA false (.t9 x.aK.bF),.bA false (.t93 x.aK.aD),.bA false (.eG x.aK.bV),.bA false (.t154 x.aK.Laws),.bA false (.t78 x.aD)]
def Sp:RF Az:=RF.to (oT.c ((oW LX.dO).c ((oW LX.t86).c ((oW LX.t89).c ((oW LX.eF).c ((oW LX.t9).c ((oW LX.t9).c ((oW LX.t9).c ((oW LX.t9).c ((oW LX.t9).c ((oW LX.t93).c ((oW LX.eG).c ((oW LX.t154).c ((oW LX.t78).o)))))))))))))) (λ(a0,a1,a2,a3,a4,a5,a6,a7,a8,a9,a10,a11,a12,a13)=>.mk (.mk a0 a1 a2 a3 a4 a5 a6 a7 a8 a9 a10 a11 a12) a13) Me
def Bt(x:Ai):List PV:= [.val (.string x.aF),.bA false (.dO x.aI),.bA false (.t66 x.aA),.bA false (.t156 x.aH)]
def Ba3:RF Ai:=RF.to (oT.c ((oW LX.dO).c ((oW LX.t66).c ((oW LX.t156).o)))) (λ(a0,a1,a2,a3)=>.mk a0 a1 a2 a3) Bt
def Abq(x:Ap):List PV:= [.val (.string x.aF),.val (.int .i64 x.aI),.val (.int .i64 x.dD),.bA false (.eU x.aP)]
def Aew:RF Ap:=RF.to (oT.c ((oI .i64).c ((oI .i64).c ((oW LX.eU).o)))) (λ(a0,a1,a2,a3)=>.mk a0 a1 a2 a3) Abq
def Att(x:Bk):List PV:= [.val (.int .i64 x.Op),.val (.int .i64 x.A),.val (.int .i64 x.B),.val (.int .i64 x.N),.bA false (.t3 x.aW),.bA false (.t3 x.aU)]
def Bec:RF Bk:=RF.to ((oI .i64).c ((oI .i64).c ((oI .i64).c ((oI .i64).c ((oW LX.t3).c ((oW LX.t3).o)))))) (λ(a0,a1,a2,a3,a4,a5)=>.mk a0 a1 a2 a3 a4 a5) Att
def Az7(x:Np):List PV:= [.val (.string x.dH),.val (.int .i64 x.Up.Op),.val (.int .i64 x.Up.A),.val (.int .i64 x.Up.B),.val (.int .i64 x.Up.N),.bA false (.t3 x.Up.aW),.bA false (.t3 x.Up.aU),.val (.int .i64 x.Down.Op),.val (.int .i64 x.Down.A),.val (.int .i64 x.Down.B),.val (.int .i64 x.Down.N),.bA false (.t3 x.Down.aW),.bA false (.t3 x.Down.aU)]
def Ba2:RF Np:=RF.to (oT.c ((oI .i64).c ((oI .i64).c ((oI .i64).c ((oI .i64).c ((oW LX.t3).c ((oW LX.t3).c ((oI .i64).c ((oI .i64).c ((oI .i64).c ((oI .i64).c ((oW LX.t3).c ((oW LX.t3).o))))))))))))) (λ(a0,a1,a2,a3,a4,a5,a6,a7,a8,a9,a10,a11,a12)=>.mk a0 (.mk a1 a2 a3 a4 a5 a6) (.mk a7 a8 a9 a10 a11 a12)) Az7
def B3(x:Aj):List PV:= [.val (.string x.aF),.val (.int .i64 x.Units),.bA false (.fA x.aZ),.val (.int .i64 x.cZ),.val (.string x.bQ.dH),.val (.int .i64 x.bQ.Up.Op),.val (.int .i64 x.bQ.Up.A),.val (.int .i64 x.bQ.Up.B),.val (.int .i64 x.bQ.Up.N),.bA false (.t3 x.bQ.Up.aW),.bA false (.t3 x.bQ.Up.aU),.val (.int .i64 x.bQ.Down.Op),.val (.int .i64 x.bQ.Down.A),.val (.int .i64 x.bQ.Down.B),.val (.int .i64 x.bQ.Down.N),.bA false (.t3 x.bQ.Down.aW),.bA false (.t3 x.bQ.Down.aU)]
def K9:RF Aj:=RF.to (oT.c ((oI .i64).c ((oW LX.fA).c ((oI .i64).c (oT.c ((oI .i64).c ((oI .i64).c ((oI .i64).c ((oI .i64).c ((oW LX.t3).c ((oW LX.t3).c ((oI .i64).c ((oI .i64).c ((oI .i64).c ((oI .i64).c ((oW LX.t3).c ((oW LX.t3).o))))))))))))))))) (λ(a0,a1,a2,a3,a4,a5,a6,a7,a8,a9,a10,a11,a12,a13,a14,a15,a16)=>.mk a0 a1 a2 a3 (.mk a4 (.mk a5 a6 a7 a8 a9 a10) (.mk a11 a12 a13 a14 a15 a16))) B3
def C0(x:Ar):List PV:= [.val (.string x.aF),.val (.int .i64 x.Room),.val (.int .i64 x.dM)]
def Vq:RF Ar:=RF.to (oT.c ((oI .i64).c ((oI .i64).o))) (λ(a0,a1,a2)=>.mk a0 a1 a2) C0
def Cp(x:Al):List PV:= [.val (.string x.aF),.bA false (.dQ x.aI),.bA false (.dQ x.bC),.bA false (.dW x.bD)]
def U3:RF Al:=RF.to (oT.c ((oW LX.dQ).c ((oW LX.dQ).c ((oW LX.dW).o)))) (λ(a0,a1,a2,a3)=>.mk a0 a1 a2 a3) Cp
def Cl(x:Ab):List PV:= [.val (.int .i64 x.Op),.val (.string x.aF),.val (.int .i64 x.N),.bA false (.dU x.aY)]
def Aex:RF Ab:=RF.to ((oI .i64).c (oT.c ((oI .i64).c ((oW LX.dU).o)))) (λ(a0,a1,a2,a3)=>.mk a0 a1 a2 a3) Cl
def Ro(x:Aq):List PV:= [.val (.int .i64 x.Op),.val (.int .i64 x.A),.val (.int .i64 x.B),.val (.int .i64 x.C),.val (.int .i64 x.E.Op),.val (.string x.E.aF),.val (.int .i64 x.E.N),.bA false (.dU x.E.aY),.val (.int .i64 x.F.Op),.val (.string x.F.aF),.val (.int .i64 x.F.N),.bA false (.dU x.F.aY),.bA false (.dU x.aM),.val (.int .i64 x.bE.Op),.val (.int .i64 x.bE.A),.val (.int .i64 x.bE.B),.val (.int .i64 x.bE.N),.bA false (.t3 x.bE.aW),.bA false (.t3 x.bE.aU),.val (.bool x.bU)]
def m9:RF Aq:=RF.to ((oI .i64).c ((oI .i64).c ((oI .i64).c ((oI .i64).c ((oI .i64).c (oT.c ((oI .i64).c ((oW LX.dU).c ((oI .i64).c (oT.c ((oI .i64).c ((oW LX.dU).c ((oW LX.dU).c ((oI .i64).c ((oI .i64).c ((oI .i64).c ((oI .i64).c ((oW LX.t3).c ((oW LX.t3).c oB.o))))))))))))))))))) (λ(a0,a1,a2,a3,a4,a5,a6,a7,a8,a9,a10,a11,a12,a13,a14,a15,a16,a17,a18,a19)=>.mk a0 a1 a2 a3 (.mk a4 a5 a6 a7) (.mk a8 a9 a10 a11) a12 (.mk a13 a14 a15 a16 a17 a18) a19) Ro
def Bcn(x:Am):List PV:= [.val (.int .i64 x.dA),.val (.int .i64 x.aR)]
def Ok:RF Am:=RF.to ((oI .i64).c ((oI .i64).o)) (λ(a0,a1)=>.mk a0 a1) Bcn
def Ck(x:Aw):List PV:= [.val (.string x.aF),.val (.int .i64 x.bM),.val (.int .i64 x.N)]
def p9:RF Aw:=RF.to (oT.c ((oI .i64).c ((oI .i64).o))) (λ(a0,a1,a2)=>.mk a0 a1 a2) Ck
def Axf(x:Dr):List PV:= [.val (.int .i64 x.aV),.val (.int .i64 x.To),.val (.int .i64 x.bR)]
def Aor:RF Dr:=RF.to ((oI .i64).c ((oI .i64).c ((oI .i64).o))) (λ(a0,a1,a2)=>.mk a0 a1 a2) Axf
def Bft(x:Ea):List PV:= [.val (.int .i64 x.a0),.val (.int .i64 x.a1)]
def Ajk:RF Ea:=RF.to ((oI .i64).c ((oI .i64).o)) (λ(a0,a1)=>.mk a0 a1) Bft
def Dy(x:Av):List PV:= [.val (.string x.bJ.aF),.bA false (.t69 x.bJ.aA),.bA false (.t127 x.bJ.aH),.val (.int .i64 x.aS),.val (.string x.u_c.aF),.val (.int .i64 x.u_c.aI),.val (.int .i64 x.u_c.dD),.bA false (.eU x.u_c.aP)]
def A7a:RF Av:=RF.to (oT.c ((oW LX.t69).c ((oW LX.t127).c ((oI .i64).c (oT.c ((oI .i64).c ((oI .i64).c ((oW LX.eU).o)))))))) (λ(a0,a1,a2,a3,a4,a5,a6,a7)=>.mk (.mk a0 a1 a2) a3 (.mk a4 a5 a6 a7)) Dy
def Ai9(x:Bv):List PV:= [.val (.string x.dI),.bA false (.t3 x.aM),.val (.int .i64 x.At),.val (.int .i64 x.Every),.val (.int .i64 x.Until)]
def o0:RF Bv:=RF.to (oT.c ((oW LX.t3).c ((oI .i64).c ((oI .i64).c ((oI .i64).o))))) (λ(a0,a1,a2,a3,a4)=>.mk a0 a1 a2 a3 a4) Ai9
def Dt(x:Bh):List PV:= [.val (.string x.aF),.bA false (.t203 x.bS),.val (.int .i64 x.Total)]
def Ah8:RF Bh:=RF.to (oT.c ((oW LX.t203).c ((oI .i64).o))) (λ(a0,a1,a2)=>.mk a0 a1 a2) Dt
def Pq(x:B9):List PV:= [.val (.string x.aV),.val (.string x.To),.val (.int .i64 x.bR)]
def Ajm:RF B9:=RF.to (oT.c (oT.c ((oI .i64).o))) (λ(a0,a1,a2)=>.mk a0 a1 a2) Pq
def Db(x:Bg):List PV:= [.val (.string x.aF),.val (.int .i64 x.Length),.val (.int .i64 x.Step)]
def Xs:RF Bg:=RF.to (oT.c ((oI .i64).c ((oI .i64).o))) (λ(a0,a1,a2)=>.mk a0 a1 a2) Db
def Axe(x:Bo):List PV:= [.val (.string x.a0),.val (.string x.a1)]
def Tn:RF Bo:=RF.to (oT.c oT.o) (λ(a0,a1)=>.mk a0 a1) Axe
def Az8(x:Vf):List PV:= [.val (.string x.gN),.val (.int .i64 x.fU),.val (.int .i64 x.fZ),.val (.bool x.u_c),.val (.bool x.fH),.val (.bool x.fM),.val (.bool x.dF),.val (.bool x.bO),.val (.bool x.dV)]
def Agx:RF Vf:=RF.to (oT.c ((oI .i64).c ((oI .i64).c (oB.c (oB.c (oB.c (oB.c (oB.c oB.o)))))))) (λ(a0,a1,a2,a3,a4,a5,a6,a7,a8)=>.mk a0 a1 a2 a3 a4 a5 a6 a7 a8) Az8
def Uw(x:A9):List PV:= [.val (.string x.aF),.val (.int .i64 x.bM)]
def Agw:RF A9:=RF.to (oT.c ((oI .i64).o)) (λ(a0,a1)=>.mk a0 a1) Uw
def Ct(x:Bd):List PV:= [.val (.int .i64 x.cO),.val (.string x.aQ),.val (.string x.aF)]
def Aez:RF Bd:=RF.to ((oI .i64).c (oT.c oT.o)) (λ(a0,a1,a2)=>.mk a0 a1 a2) Ct
def Ats(x:Cq):List PV:= [.val (.string x.Word),.val (.string x.A),.val (.string x.B),.val (.bool x.C),.val (.bool x.E),.val (.bool x.F),.val (.bool x.bU),.val (.bool x.aM),.val (.bool x.bE)]
def Ajl:RF Cq:=RF.to (oT.c (oT.c (oT.c (oB.c (oB.c (oB.c (oB.c (oB.c oB.o)))))))) (λ(a0,a1,a2,a3,a4,a5,a6,a7,a8)=>.mk a0 a1 a2 a3 a4 a5 a6 a7 a8) Ats
def Avl(x:Er):List PV:= [.val (.int .i64 x.At),.val (.int .i64 x.Units)]
def Adr:RF Er:=RF.to ((oI .i64).c ((oI .i64).o)) (λ(a0,a1)=>.mk a0 a1) Avl
def Bco(x:Bl):List PV:= [.val (.bool x.bT)]
def Ba4:RF Bl:=RF.to (oB.o) (λa0=>.mk a0) Bco
def Yu(x:Ad):List PV:= [.val (.int .i64 x.Op),.val (.string x.aF),.val (.string x.Of),.val (.int .i64 x.E.Op),.val (.string x.E.aF),.val (.int .i64 x.E.N),.bA false (.dU x.E.aY),.val (.int .i64 x.F.Op),.val (.string x.F.aF),.val (.int .i64 x.F.N),.bA false (.dU x.F.aY),.bA false (.dU x.aM),.val (.int .i64 x.bE.Op),.val (.int .i64 x.bE.A),.val (.int .i64 x.bE.B),.val (.int .i64 x.bE.N),.bA false (.t3 x.bE.aW),.bA false (.t3 x.bE.aU),.val (.bool x.bU),.bA false (.dW x.bD),.bA false (.dW x.bL)]
def Aey:RF Ad:=RF.to ((oI .i64).c (oT.c (oT.c ((oI .i64).c (oT.c ((oI .i64).c ((oW LX.dU).c ((oI .i64).c (oT.c ((oI .i64).c ((oW LX.dU).c ((oW LX.dU).c ((oI .i64).c ((oI .i64).c ((oI .i64).c ((oI .i64).c ((oW LX.t3).c ((oW LX.t3).c (oB.c ((oW LX.dW).c ((oW LX.dW).o))))))))))))))))))))) (λ(a0,a1,a2,a3,a4,a5,a6,a7,a8,a9,a10,a11,a12,a13,a14,a15,a16,a17,a18,a19,a20)=>.mk a0 a1 a2 (.mk a3 a4 a5 a6) (.mk a7 a8 a9 a10) a11 (.mk a12 a13 a14 a15 a16 a17) a18 a19 a20) Yu
def Abr(x:Bs):List PV:= [.val (.bool x.dP),.val (.bool x.fQ),.val (.bool x.fH),.val (.bool x.fM),.val (.bool x.dF),.val (.bool x.bO),.val (.bool x.eX),.val (.bool x.eZ),.val (.bool x.dZ)]
def Bed:RF Bs:=RF.to (oB.c (oB.c (oB.c (oB.c (oB.c (oB.c (oB.c (oB.c oB.o)))))))) (λ(a0,a1,a2,a3,a4,a5,a6,a7,a8)=>.mk a0 a1 a2 a3 a4 a5 a6 a7 a8) Abr
def A9n(x:Ha):List PV:= [.val (.bool x.gV),.val (.string x.dP)]
def Adq:RF Ha:=RF.to (oB.c oT.o) (λ(a0,a1)=>.mk a0 a1) A9n
def Bj6(x:Qd):List PV:= [.val (.bool x.gV),.val (.int .i64 x.fH.Op),.val (.string x.fH.aF),.val (.int .i64 x.fH.N),.bA false (.dU x.fH.aY)]
def Aoq:RF Qd:=RF.to (oB.c ((oI .i64).c (oT.c ((oI .i64).c ((oW LX.dU).o))))) (λ(a0,a1,a2,a3,a4)=>.mk a0 (.mk a1 a2 a3 a4)) Bj6
def Aoc(x:Cz):List PV:= [.val (.bool x.aF),.val (.bool x.Of),.val (.bool x.E),.val (.bool x.F),.val (.bool x.aM),.val (.bool x.bE),.val (.bool x.bU),.val (.bool x.bD),.val (.bool x.bL)]
def Beb:RF Cz:=RF.to (oB.c (oB.c (oB.c (oB.c (oB.c (oB.c (oB.c (oB.c oB.o)))))))) (λ(a0,a1,a2,a3,a4,a5,a6,a7,a8)=>.mk a0 a1 a2 a3 a4 a5 a6 a7 a8) Aoc
def lT{α :Type}(K:List α->LX)(f:RF α)(rs:List (List PV)):Option LX:=S8 K (Bj5 f.d rs)
def sT{α :Type} [Inhabited α](K:List α->LX)(f:RF α)(l:List α)(i off:Nat)(c:List PV):Option LX:=B7f (A34 (f.w (l.getD i default)) (off+c.length)) (λa=>K (l.set i a)) (f.d (Li (f.w (l.getD i default)) off c))
def RF.r{α :Type} [Inhabited α](f:RF α)(l:List α)(i:Nat):List PV:=f.w (l.getD i default)
def LX.row(x:LX)(i:Nat):List PV:=match x with
 | .t3 l=>(oI .i64).o.r l i
 | .t4 l=>oB.o.r l i
 | .t5 l=>(oI .u8).o.r l i
 | .t9 l=>oT.o.r l i
 | .t32 l=>m8.r l i
 | .t46 l=>Aos.r l i
 | .t61 l=>(oW LX.t9).o.r l i
 | .t66 l=>Sq.r l i
 | .t69 l=>Sp.r l i
 | .t78 l=>Aew.r l i
 | .t86 l=>K9.r l i
 | .t89 l=>Vq.r l i
 | .gH l=>(oW LX.dQ).o.r l i
 | .t93 l=>U3.r l i
 | .dU l=>Aex.r l i
 | .eU l=>m9.r l i
 | .t109 l=>Ok.r l i
 | .dN l=>Ok.r l i
 | .dO l=>p9.r l i
 | .t127 l=>Aor.r l i
 | .fC l=>Ajk.r l i
 | .eG l=>o0.r l i
 | .t154 l=>Ah8.r l i
 | .t156 l=>Ajm.r l i
 | .eF l=>Xs.r l i
 | .eH l=>Tn.r l i
 | .fB l=>Agx.r l i
 | .dQ l=>Agw.r l i
 | .t203 l=>Aez.r l i
 | .fJ l=>Ajl.r l i
 | .fA l=>Adr.r l i
 | .dW l=>Aey.r l i
 | .fI l=>Adq.r l i
 | .fK l=>Aoq.r l i
def LX.set(x:LX)(i off:Nat)(c:List PV):Option LX:=match x with
 | .t3 l=>sT .t3 (oI .i64).o l i off c
 | .t4 l=>sT .t4 oB.o l i off c
 | .t5 l=>sT .t5 (oI .u8).o l i off c
 | .t9 l=>sT .t9 oT.o l i off c
 | .t32 l=>sT .t32 m8 l i off c
 | .t46 l=>sT .t46 Aos l i off c
 | .t61 l=>sT .t61 (oW LX.t9).o l i off c
 | .t66 l=>sT .t66 Sq l i off c
 | .t69 l=>sT .t69 Sp l i off c
 | .t78 l=>sT .t78 Aew l i off c
 | .t86 l=>sT .t86 K9 l i off c
 | .t89 l=>sT .t89 Vq l i off c
 | .gH l=>sT .gH (oW LX.dQ).o l i off c
 | .t93 l=>sT .t93 U3 l i off c
 | .dU l=>sT .dU Aex l i off c
 | .eU l=>sT .eU m9 l i off c
 | .t109 l=>sT .t109 Ok l i off c
 | .dN l=>sT .dN Ok l i off c
 | .dO l=>sT .dO p9 l i off c
 | .t127 l=>sT .t127 Aor l i off c
 | .fC l=>sT .fC Ajk l i off c
 | .eG l=>sT .eG o0 l i off c
 | .t154 l=>sT .t154 Ah8 l i off c
 | .t156 l=>sT .t156 Ajm l i off c
 | .eF l=>sT .eF Xs l i off c
 | .eH l=>sT .eH Tn l i off c
 | .fB l=>sT .fB Agx l i off c
 | .dQ l=>sT .dQ Agw l i off c
 | .t203 l=>sT .t203 Aez l i off c
 | .fJ l=>sT .fJ Ajl l i off c
 | .fA l=>sT .fA Adr l i off c
 | .dW l=>sT .dW Aey l i off c
 | .fI l=>sT .fI Adq l i off c
 | .fK l=>sT .fK Aoq l i off c
def tbl:List (Nat×(List (List PV)->Option LX)):= [(3,lT .t3 (oI .i64).o),(4,lT .t4 oB.o),(5,lT .t5 (oI .u8).o),(9,lT .t9 oT.o),(32,lT .t32 m8),(46,lT .t46 Aos),(61,lT .t61 (oW LX.t9).o),(66,lT .t66 Sq),(69,lT .t69 Sp),(78,lT .t78 Aew),(86,lT .t86 K9),(89,lT .t89 Vq),(90,lT .gH (oW LX.dQ).o),(93,lT .t93 U3),(98,lT .dU Aex),(100,lT .eU m9),(109,lT .t109 Ok),(115,lT .dN Ok),(123,lT .dO p9),(127,lT .t127 Aor),(135,lT .fC Ajk),(150,lT .eG o0),(154,lT .t154 Ah8),(156,lT .t156 Ajm),(178,lT .eF Xs),(186,lT .eH Tn),(190,lT .fB Agx),(200,lT .dQ Agw),(203,lT .t203 Aez),(205,lT .fJ Ajl),(216,lT .fA Adr),(264,lT .dW Aey),(275,lT .fI Adq),(277,lT .fK Aoq)]
def lkT:List (Nat×(List (List PV)->Option LX))->Nat->List (List PV)->Option LX
 | [],_,_=>none
 |(a,f)::r,e,rs=>match Nat.beq e a with
  |true=>f rs
  |false=>lkT r e rs
def LX.lit(e:Nat)(rs:List (List PV)):Option LX:=lkT tbl e rs
def LX.nil(e:Nat):Option LX:=lkT tbl e []
class TG {α :Type} [Inhabited α] (K:List α->LX) (f:outParam (RF α)):Prop where
 row:∀l i,(K l).row i=f.w (l.getD i default):=by intro l i;rfl
 sz:∀a l,(f.w a).length=(K l).sz:=by intro a l;rfl
instance:TG LX.t3 (oI .i64).o:= {}
instance:TG LX.t4 oB.o:= {}
instance:TG LX.t5 (oI .u8).o:= {}
instance:TG LX.t9 oT.o:= {}
instance:TG LX.t32 m8:= {}
instance:TG LX.t46 Aos:= {}
instance:TG LX.t61 (oW LX.t9).o:= {}
instance:TG LX.t66 Sq:= {}
instance:TG LX.t69 Sp:= {}
instance:TG LX.t78 Aew:= {}
instance:TG LX.t86 K9:= {}
instance:TG LX.t89 Vq:= {}
instance:TG LX.gH (oW LX.dQ).o:= {}
instance:TG LX.t93 U3:= {}
instance:TG LX.dU Aex:= {}
instance:TG LX.eU m9:= {}
instance:TG LX.t109 Ok:= {}
instance:TG LX.dN Ok:= {}
instance:TG LX.dO p9:= {}
instance:TG LX.t127 Aor:= {}
instance:TG LX.fC Ajk:= {}
instance:TG LX.eG o0:= {}
instance:TG LX.t154 Ah8:= {}
instance:TG LX.t156 Ajm:= {}
instance:TG LX.eF Xs:= {}
instance:TG LX.eH Tn:= {}
instance:TG LX.fB Agx:= {}
instance:TG LX.dQ Agw:= {}
instance:TG LX.t203 Aez:= {}
instance:TG LX.fJ Ajl:= {}
instance:TG LX.fA Adr:= {}
instance:TG LX.dW Aey:= {}
instance:TG LX.fI Adq:= {}
instance:TG LX.fK Aoq:= {}
def LX.find(x:LX)(c:List PV):Option (Option Nat):=match x,c with
 | .t3 l,[.val (.int k0 a0)]=>match decide (k0=.i64) with
  |true=>some (l.findIdx? λb=>a0 == b)
  |_=>none
 | .t4 l,[.val (.bool a0)]=>some (l.findIdx? λb=>a0 == b)
 | .t5 l,[.val (.int k0 a0)]=>match decide (k0=.u8) with
  |true=>some (l.findIdx? λb=>a0 == b)
  |_=>none
 | .t9 l,[.val (.string a0)]=>some (l.findIdx? λb=>a0 == b)
 | .t109 l,[.val (.int k0 a0),.val (.int k1 a1)]=>match decide (k0=.i64),decide (k1=.i64) with
  |true,true=>some (l.findIdx? λb=>(a0 == b.dA && (a1 == b.aR)))
  |_,_=>none
 | .fC l,[.val (.int k0 a0),.val (.int k1 a1)]=>match decide (k0=.i64),decide (k1=.i64) with
  |true,true=>some (l.findIdx? λb=>(a0 == b.a0 && (a1 == b.a1)))
  |_,_=>none
 | .eH l,[.val (.string a0),.val (.string a1)]=>some (l.findIdx? λb=>(a0 == b.a0 && (a1 == b.a1)))
 |_,_=>none
def LX.push(x:LX)(c:List PV):Option LX:=match LX.lit x.e [c] with
 |some y=>x.cat y
 |none=>none
theorem Bf5{α :Type} [Inhabited α](l m:List α)(i:Nat)(h:i<l.length):(l++m).getD i default=l.getD i default:=by
 simp[List.getD,List.getElem?_append_left h]
theorem Bf6{α :Type} [Inhabited α](l m:List α)(i:Nat):(l++m).getD (l.length+i) default=m.getD i default:=by
 simp[List.getD,List.getElem?_append_right]
theorem Bmp{α :Type} [Inhabited α](l:List α)(a b i:Nat)(h1:b<=l.length)(h2:i<b-a):((l.take b).drop a).getD i default=l.getD (a+i) default:=by
 simp only[List.getD_eq_getElem?_getD,List.getElem?_drop,List.getElem?_take];rw[if_pos (by omega)]
theorem Bmo{α :Type} [Inhabited α](n i:Nat)(a: α)(h:i<n):(List.replicate n a).getD i default=a:=by
 simp[List.getD_eq_getElem?_getD,List.getElem?_replicate,h]
theorem Bc1{α :Type} [Inhabited α](l:List α)(i:Nat)(a: α)(h:i<l.length):(l.set i a).getD i default=a:=by
 simp[List.getD_eq_getElem?_getD,h]
theorem Bc2{α :Type} [Inhabited α](l:List α)(i j:Nat)(a: α)(h:j≠i):(l.set i a).getD j default=l.getD j default:=by
 simp[List.getD_eq_getElem?_getD,List.getElem?_set_ne (λe=>h e.symm)]
theorem J4{α :Type} [Inhabited α](l:List α)(i:Nat)(h:i<l.length):l.getD i default=l[i]:=by
 simp[List.getD_eq_getElem?_getD,h]
theorem Bge(l:List PV):∀n,A34 l n=true↔n<=l.length:=by
 induction l with
 |nil=>intro n;cases n<;>simp[A34]
 |cons p r ih=>intro n;cases n<;>simp[A34,ih]
section
variable {α :Type} [Inhabited α] {K:List α->LX} {f:RF α} {g:LX->Option (List α)} {e sz:Nat}
theorem Cbi [q:TG K f](l:List α)(i:Nat):∀p∈(K l).row i,p.flat=true:=A7w _ (by rw[q.row];exact f.fl _)
theorem Cbj [q:TG K f](l:List α)(i:Nat):((K l).row i).length=(K l).sz:=by rw[q.row];exact q.sz _ _
def Blm(p:Nat×(List (List PV)->Option LX)):Prop:=∀rs x,p.2 rs=some x->x.e=p.1/\x.len=rs.length/\∀(i:Nat) (r:List PV),rs[i]? =some r->Y6 r (x.row i)
theorem Cba [k:TL K g e sz] [q:TG K f]:Blm (e,lT K f):=by
 intro rs x h;simp only[lT,S8]at h;cases hl:Bj5 f.d rs with
 |none=>rw[hl]at h;cases h
 |some l=>
  rw[hl]at h;injection h with h;subst h
  obtain⟨q1,q2⟩:=A7p f.le rs l hl;exact⟨k.e _,by rw[k.len];exact q1,λi r hr=>by rw[q.row];exact q2 i r hr⟩
theorem Ca6 [k:TL K g e sz] [q:TG K f]{y z:LX}{l:List α}(h:S8 (λm=>K (l++m)) (g y)=some z):y.e=(K l).e/\z.e=(K l).e/\y.sz=(K l).sz/\z.sz=(K l).sz/\z.len=(K l).len+y.len/\(∀i,i<(K l).len->z.row i=(K l).row i)/\(∀i,z.row ((K l).len+i)=y.row i):=by
 cases hg:g y with
 |none=>rw[hg]at h;cases h
 |some m=>
  rw[hg]at h;injection h with h;subst h
  rw[k.gk y m hg];simp only[k.e,k.sz,k.len,q.row,List.length_append,true_and];exact⟨λi hi=>by rw[Bf5 l m i hi],λi=>by rw[Bf6]⟩
theorem Ccp [k:TL K g e sz] [q:TG K f](l:List α)(a b:Nat)(h:b<=(K l).len):(K ((l.take b).drop a)).e=(K l).e/\(K ((l.take b).drop a)).sz=(K l).sz/\(K ((l.take b).drop a)).len=b-a/\∀i,i<b-a->(K ((l.take b).drop a)).row i=(K l).row (a+i):=by
 simp only[k.e,k.sz,k.len,q.row,true_and]at h ⊢;exact⟨by simp;omega,λi hi=>by rw[Bmp l a b i h hi]⟩
theorem Cbh [k:TL K g e sz] [q:TG K f](l:List α)(n:Nat):(K (List.replicate n (l.getD 0 default))).e=(K l).e/\(K (List.replicate n (l.getD 0 default))).sz=(K l).sz/\(K (List.replicate n (l.getD 0 default))).len=n/\∀i,i<n->(K (List.replicate n (l.getD 0 default))).row i=(K l).row 0:=by
 simp only[k.e,k.sz,k.len,q.row,true_and];exact⟨List.length_replicate,λi hi=>by rw[Bmo n i _ hi]⟩
theorem Cco [k:TL K g e sz] [q:TG K f]{i off:Nat}{c:List PV}{l:List α}{y:LX}(h:sT K f l i off c=some y):y.e=(K l).e/\y.sz=(K l).sz/\y.len=(K l).len/\off+c.length<=(K l).sz/\(i<(K l).len->Y6 (Li ((K l).row i) off c) (y.row i))/\∀j,j≠i->y.row j=(K l).row j:=by
 unfold sT B7f at h;split at h
 ·rename_i a h1 h2;injection h with h;subst h
  simp only[k.e,k.sz,k.len,q.row,true_and];refine⟨List.length_set,by rw[<-k.sz l,<-q.sz (l.getD i default) l];exact(Bge _ _).1 h1,λhi=>?_,λj hj=>?_⟩
  ·rw[Bc1 l i a hi];exact f.le _ _ h2
  ·rw[Bc2 l i j a hj]
 ·cases h
end
theorem LX.row_len(x:LX)(i:Nat):(x.row i).length=x.sz:=by cases x<;>exact Cbj _ _
theorem LX.row_flat(x:LX)(i:Nat):∀p∈x.row i,p.flat=true:=by cases x<;>exact Cbi _ _
def Bx1:List (Nat×(List (List PV)->Option LX))->Prop
 | []=>True
 |p::r=>Blm p/\Bx1 r
theorem B7z:Bx1 tbl:=by
 unfold tbl
 repeat (first|exact trivial|refine⟨Cba,?_⟩)
theorem Bnl:∀(l:List (Nat×(List (List PV)->Option LX))),Bx1 l->∀e,Blm (e,lkT l e)
 | [],_,e,rs,x,h=>by cases h
 |(a,f)::r,hl,e,rs,x,h=>by
  change (match Nat.beq e a with
   |true=>f rs
   |false=>lkT r e rs)=some x at h
  cases hb:Nat.beq e a with
  |true=>
   rw[hb]at h;rw[Nat.eq_of_beq_eq_true hb];exact hl.1 rs x h
  |false=>
   rw[hb]at h;exact Bnl r hl.2 e rs x h
theorem LX.lit_spec(e:Nat)(rs:List (List PV))(x:LX)(h:LX.lit e rs=some x):x.e=e/\x.len=rs.length/\∀(i:Nat) (r:List PV),rs[i]? =some r->Y6 r (x.row i):=Bnl tbl B7z e rs x h
theorem LX.nil_spec(e:Nat)(x:LX)(h:LX.nil e=some x):x.e=e/\x.len=0:=⟨(LX.lit_spec e [] x h).1,(LX.lit_spec e [] x h).2.1⟩
theorem LX.cat_spec(x y z:LX)(h:x.cat y=some z):y.e=x.e/\z.e=x.e/\y.sz=x.sz/\z.sz=x.sz/\z.len=x.len+y.len/\(∀i,i<x.len->z.row i=x.row i)/\(∀i,z.row (x.len+i)=y.row i):=by cases x<;>exact Ca6 h
theorem LX.sub_spec(x:LX)(a b:Nat)(h:b<=x.len):(x.sub a b).e=x.e/\(x.sub a b).sz=x.sz/\(x.sub a b).len=b-a/\∀i,i<b-a->(x.sub a b).row i=x.row (a+i):=by cases x<;>exact Ccp _ a b h
theorem LX.rep_spec(x:LX)(n:Nat):(x.rep n).e=x.e/\(x.rep n).sz=x.sz/\(x.rep n).len=n/\∀i,i<n->(x.rep n).row i=x.row 0:=by cases x<;>exact Cbh _ n
theorem LX.set_spec(x:LX)(i off:Nat)(c:List PV)(y:LX)(h:LX.set x i off c=some y):y.e=x.e/\y.sz=x.sz/\y.len=x.len/\off+c.length<=x.sz/\(i<x.len->Y6 (Li (x.row i) off c) (y.row i))/\∀j,j≠i->y.row j=x.row j:=by cases x<;>exact Cco h
theorem Yv{α :Type} [Inhabited α]{l:List α}{p: α->Bool}{r:Option Nat}(h:l.findIdx? p=r):
  (r=none->∀i,i<l.length->p (l.getD i default)=false)/\(∀i,r=some i->i<l.length/\p (l.getD i default)=true/\∀j,j<i->p (l.getD j default)=false):=by
 subst h;refine⟨λh i hi=>?_,λi h=>?_⟩
 ·have:=List.findIdx?_eq_none_iff.1 h (l.getD i default) (by rw[J4 l i hi];exact List.getElem_mem hi);simpa using this
 ·obtain⟨h1,h2,h3⟩:=List.findIdx?_eq_some_iff_getElem.1 h;refine⟨h1,by rw[J4 l i h1];exact h2,λj hj=>?_⟩;rw[J4 l j (by omega)];simpa using h3 j hj
theorem LX.find_spec(x:LX)(c:List PV)(r:Option Nat)(h:LX.find x c=some r):(r=none->∀i,i<x.len->Agb c (x.row i)=some false)/\(∀i,r=some i->i<x.len/\Agb c (x.row i)=some true/\∀j,j<i->Agb c (x.row j)=some false):=by
 unfold LX.find at h;split at h
 ·rename_i l k0 a0;split at h
  ·rename_i hk0;have e0:=of_decide_eq_true hk0;subst e0;injection h with h;subst h
   obtain⟨s1,s2⟩:=Yv (rfl:l.findIdx? (λb=>a0 == b)=_);have key:∀i b,(a0 == (l.getD i default))=b->Agb [.val (.int .i64 a0)] ((LX.t3 l).row i)=some b:=λi b hb=>congrArg some hb;exact⟨λhr i hi=>key _ _ (s1 hr i hi),λi hr=>⟨(s2 i hr).1,key _ _ (s2 i hr).2.1,λj hj=>key _ _ ((s2 i hr).2.2 j hj)⟩⟩
  ·cases h
 ·rename_i l a0;injection h with h;subst h
  obtain⟨s1,s2⟩:=Yv (rfl:l.findIdx? (λb=>a0 == b)=_);have key:∀i b,(a0 == (l.getD i default))=b->Agb [.val (.bool a0)] ((LX.t4 l).row i)=some b:=λi b hb=>congrArg some hb;exact⟨λhr i hi=>key _ _ (s1 hr i hi),λi hr=>⟨(s2 i hr).1,key _ _ (s2 i hr).2.1,λj hj=>key _ _ ((s2 i hr).2.2 j hj)⟩⟩
 ·rename_i l k0 a0;split at h
  ·rename_i hk0;have e0:=of_decide_eq_true hk0;subst e0;injection h with h;subst h
   obtain⟨s1,s2⟩:=Yv (rfl:l.findIdx? (λb=>a0 == b)=_);have key:∀i b,(a0 == (l.getD i default))=b->Agb [.val (.int .u8 a0)] ((LX.t5 l).row i)=some b:=λi b hb=>congrArg some hb;exact⟨λhr i hi=>key _ _ (s1 hr i hi),λi hr=>⟨(s2 i hr).1,key _ _ (s2 i hr).2.1,λj hj=>key _ _ ((s2 i hr).2.2 j hj)⟩⟩
  ·cases h
 ·rename_i l a0;injection h with h;subst h
  obtain⟨s1,s2⟩:=Yv (rfl:l.findIdx? (λb=>a0 == b)=_);have key:∀i b,(a0 == (l.getD i default))=b->Agb [.val (.string a0)] ((LX.t9 l).row i)=some b:=λi b hb=>congrArg some hb;exact⟨λhr i hi=>key _ _ (s1 hr i hi),λi hr=>⟨(s2 i hr).1,key _ _ (s2 i hr).2.1,λj hj=>key _ _ ((s2 i hr).2.2 j hj)⟩⟩
 ·rename_i l k0 a0 k1 a1;split at h
  ·rename_i hk0 hk1;have e0:=of_decide_eq_true hk0;subst e0;have e1:=of_decide_eq_true hk1;subst e1;injection h with h;subst h
   obtain⟨s1,s2⟩:=Yv (rfl:l.findIdx? (λb=>(a0 == b.dA && (a1 == b.aR)))=_);have key:∀i b,((a0 == (l.getD i default).dA && (a1 == (l.getD i default).aR)))=b->Agb [.val (.int .i64 a0),.val (.int .i64 a1)] ((LX.t109 l).row i)=some b:=λi b hb=>congrArg some hb;exact⟨λhr i hi=>key _ _ (s1 hr i hi),λi hr=>⟨(s2 i hr).1,key _ _ (s2 i hr).2.1,λj hj=>key _ _ ((s2 i hr).2.2 j hj)⟩⟩
  ·cases h
 ·rename_i l k0 a0 k1 a1;split at h
  ·rename_i hk0 hk1;have e0:=of_decide_eq_true hk0;subst e0;have e1:=of_decide_eq_true hk1;subst e1;injection h with h;subst h
   obtain⟨s1,s2⟩:=Yv (rfl:l.findIdx? (λb=>(a0 == b.a0 && (a1 == b.a1)))=_);have key:∀i b,((a0 == (l.getD i default).a0 && (a1 == (l.getD i default).a1)))=b->Agb [.val (.int .i64 a0),.val (.int .i64 a1)] ((LX.fC l).row i)=some b:=λi b hb=>congrArg some hb;exact⟨λhr i hi=>key _ _ (s1 hr i hi),λi hr=>⟨(s2 i hr).1,key _ _ (s2 i hr).2.1,λj hj=>key _ _ ((s2 i hr).2.2 j hj)⟩⟩
  ·cases h
 ·rename_i l a0 a1;injection h with h;subst h
  obtain⟨s1,s2⟩:=Yv (rfl:l.findIdx? (λb=>(a0 == b.a0 && (a1 == b.a1)))=_);have key:∀i b,((a0 == (l.getD i default).a0 && (a1 == (l.getD i default).a1)))=b->Agb [.val (.string a0),.val (.string a1)] ((LX.eH l).row i)=some b:=λi b hb=>congrArg some hb;exact⟨λhr i hi=>key _ _ (s1 hr i hi),λi hr=>⟨(s2 i hr).1,key _ _ (s2 i hr).2.1,λj hj=>key _ _ ((s2 i hr).2.2 j hj)⟩⟩
 ·cases h
def ga1:List Value:= [.int .u64 1,.int .u64 10,.int .u64 100,.int .u64 1000,.int .u64 10000,.int .u64 100000,.int .u64 1000000,.int .u64 10000000,.int .u64 100000000,.int .u64 1000000000,.int .u64 10000000000,.int .u64 100000000000,.int .u64 1000000000000,.int .u64 10000000000000,.int .u64 100000000000000,.int .u64 1000000000000000,.int .u64 10000000000000000,.int .u64 100000000000000000,.int .u64 1000000000000000000,.int .u64 10000000000000000000]
def gl0:List Vf:= [⟨⟨#[]⟩,0,0,false,false,false,false,false,false⟩,⟨⟨#[115,108,111,116]⟩,1,0,false,true,false,false,false,false⟩,⟨⟨#[118,97,114]⟩,2,0,false,true,false,false,false,false⟩,⟨⟨#[100,114,97,119]⟩,1,3,false,false,false,false,true,false⟩,⟨⟨#[106,117,109,112]⟩,4,0,false,false,false,false,false,false⟩,⟨⟨#[98,114,97,110,99,104]⟩,4,0,false,true,false,false,false,false⟩,⟨⟨#[104,111,108,100]⟩,0,0,false,true,false,false,false,false⟩,⟨⟨#[115,101,105,122,101]⟩,5,0,false,true,true,false,false,true⟩,⟨⟨#[114,101,108,101,97,115,101]⟩,5,0,false,true,false,false,false,false⟩,⟨⟨#[112,117,116]⟩,6,0,false,true,false,false,false,false⟩,⟨⟨#[103,101,116]⟩,6,1,false,false,false,false,false,false⟩,⟨⟨#[114,105,100,101]⟩,7,0,false,false,false,false,false,false⟩,⟨⟨#[119,97,105,116]⟩,8,0,false,false,false,false,false,false⟩,⟨⟨#[115,105,103,110,97,108]⟩,8,0,false,true,false,false,false,false⟩,⟨⟨#[115,101,110,100]⟩,9,10,true,true,false,true,false,false⟩,⟨⟨#[115,112,97,119,110]⟩,0,10,false,true,false,true,false,false⟩,⟨⟨#[111,98,115,101,114,118,101]⟩,11,0,false,true,false,false,false,false⟩,⟨⟨#[108,101,118,101,108]⟩,12,0,false,true,false,false,false,false⟩,⟨⟨#[99,111,117,110,116]⟩,13,0,false,true,false,false,false,false⟩,⟨⟨#[101,110,100]⟩,0,0,false,false,false,false,false,false⟩]
def GL:List (Nat×LX):= [(0,.fB gl0)]
def GA:List (Nat×List Value):= [(1,ga1)]
end Go.Proofs.YthjhkpgonleelaaGreatDoor.Ev
