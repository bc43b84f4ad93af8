/-  The types of the data, and of rows of them. -/
import Derived.Test.YtgacplpjamkieaaGreatRows
import Derived.WalkKit
import Derived.LoopN
import Derived.Great.BuildSlice
import Derived.Deep.Draws
import Derived.Laws.BytesArg
set_option linter.unusedVariables false
set_option linter.unusedSimpArgs false
set_option linter.unnecessarySimpa false
namespace Go.Proofs.YtgacplpjamkieaaGreat.Ev
open Go
abbrev Yb:=ByteArray
structure Bv where
 a0:Yb
 a1:Yb
 deriving Inhabited
structure Ac6 where
 a0:Int
 a1:Int
 deriving Inhabited
inductive Aa where
 |mk (Op:Int) (aG:Yb) (N:Int) (bJ:(List Aa))
instance:Inhabited Aa:=⟨.mk 0 ByteArray.empty 0 []⟩
def Aa.Op:Aa->Int| .mk x _ _ _=>x
def Aa.aG:Aa->Yb| .mk _ x _ _=>x
def Aa.N:Aa->Int| .mk _ _ x _=>x
def Aa.bJ:Aa->(List Aa)| .mk _ _ _ x=>x
def Aa.cp(x:Aa):Aa:=.mk x.Op x.aG x.N x.bJ
theorem Aa.cp_eq(x:Aa):Aa.cp x=x:=by cases x;rfl
theorem Aa.eta(x:Aa):Aa.mk x.Op x.aG x.N x.bJ=x:=by cases x;rfl
structure Qf where
 gV:Bool
 fU:Aa
 deriving Inhabited
structure Hu where
 gV:Bool
 dI:Yb
 deriving Inhabited
structure At6 where
 dA:Int
 To:Int
 fA:Int
 deriving Inhabited
structure Ar where
 aG:Yb
 Length:Int
 Step:Int
 deriving Inhabited
structure Gy where
 At:Int
 Units:Int
 deriving Inhabited
structure Aj where
 Op:Int
 A:Int
 B:Int
 N:Int
 bD:(List Int)
 bB:(List Int)
 deriving Inhabited
structure Ae where
 Op:Int
 A:Int
 B:Int
 C:Int
 E:Aa
 F:Aa
 aS:(List Aa)
 bR:Aj
 bZ:Bool
 deriving Inhabited
structure J6 where
 aG:Yb
 aJ:Int
 gU:Int
 eP:(List Ae)
 deriving Inhabited
structure Ap where
 aG:Yb
 bL:Int
 deriving Inhabited
structure Ck where
 bW:Int
 bN:Yb
 aG:Yb
 deriving Inhabited
structure Bg where
 aG:Yb
 bX:(List Ck)
 Total:Int
 deriving Inhabited
structure Qr where
 dK:Yb
 Up:Aj
 Down:Aj
 deriving Inhabited
structure Ah where
 aG:Yb
 Units:Int
 bP:(List Gy)
 dM:Int
 dG:Qr
 deriving Inhabited
inductive Ad where
 |mk (Op:Int) (aG:Yb) (Of:Yb) (E:Aa) (F:Aa) (aS:(List Aa)) (bR:Aj) (bZ:Bool) (aK:(List Ad)) (aY:(List Ad))
instance:Inhabited Ad:=⟨.mk 0 ByteArray.empty ByteArray.empty default default [] default false [] []⟩
def Ad.Op:Ad->Int| .mk x _ _ _ _ _ _ _ _ _=>x
def Ad.aG:Ad->Yb| .mk _ x _ _ _ _ _ _ _ _=>x
def Ad.Of:Ad->Yb| .mk _ _ x _ _ _ _ _ _ _=>x
def Ad.E:Ad->Aa| .mk _ _ _ x _ _ _ _ _ _=>x
def Ad.F:Ad->Aa| .mk _ _ _ _ x _ _ _ _ _=>x
def Ad.aS:Ad->(List Aa)| .mk _ _ _ _ _ x _ _ _ _=>x
def Ad.bR:Ad->Aj| .mk _ _ _ _ _ _ x _ _ _=>x
def Ad.bZ:Ad->Bool| .mk _ _ _ _ _ _ _ x _ _=>x
def Ad.aK:Ad->(List Ad)| .mk _ _ _ _ _ _ _ _ x _=>x
def Ad.aY:Ad->(List Ad)| .mk _ _ _ _ _ _ _ _ _ x=>x
def Ad.cp(x:Ad):Ad:=.mk x.Op x.aG x.Of (Aa.cp x.E) (Aa.cp x.F) x.aS x.bR x.bZ x.aK x.aY
theorem Ad.cp_eq(x:Ad):Ad.cp x=x:=by cases x;simp only[Ad.cp,Aa.cp_eq,Ad.Op,Ad.aG,Ad.Of,Ad.E,Ad.F,Ad.aS,Ad.bR,Ad.bZ,Ad.aK,Ad.aY]
theorem Ad.eta(x:Ad):Ad.mk x.Op x.aG x.Of x.E x.F x.aS x.bR x.bZ x.aK x.aY=x:=by cases x;rfl
structure Al where
 aG:Yb
 aJ:(List Ap)
 aL:(List Ap)
 aK:(List Ad)
 deriving Inhabited
structure Bt where
 dN:Yb
 aS:(List Int)
 At:Int
 Every:Int
 Until:Int
 deriving Inhabited
structure Ao where
 aG:Yb
 Room:Int
 dD:Int
 deriving Inhabited
structure Ai where
 aG:Yb
 bL:Int
 N:Int
 deriving Inhabited
structure Ac where
 aG:Yb
 bG:(List Ai)
 aM:(List Ah)
 aO:(List Ao)
 bH:(List Ar)
 aX:(List Yb)
 aR:(List Yb)
 aT:(List Yb)
 bA:(List Yb)
 aU:(List Yb)
 aA:(List Al)
 aZ:(List Bt)
 Laws:(List Bg)
 deriving Inhabited
structure Az where
 aJ:(List Ai)
 aL:(List Ap)
 aI:Ac
 deriving Inhabited
structure Bf where
 dA:Yb
 To:Yb
 fA:Int
 deriving Inhabited
structure Ag where
 aG:Yb
 aJ:(List Ai)
 aD:(List Ac)
 bC:(List Bf)
 deriving Inhabited
structure Acm where
 fO:Ac
 aA:(List J6)
 deriving Inhabited
structure Ab where
 bM:Ag
 aF:Az
 aW:Int
 deriving Inhabited
structure Bu where
 bT:Bool
 deriving Inhabited
structure B9 where
 dI:Bool
 fM:Bool
 fU:Bool
 gM:Bool
 fK:Bool
 eF:Bool
 dY:Bool
 dV:Bool
 dO:Bool
 deriving Inhabited
structure Am where
 bM:Ag
 u_site:Int
 aF:Az
 deriving Inhabited
inductive LX where
 |t3 (l:List Int)
 |t4 (l:List Bool)
 |t9 (l:List Yb)
 |t31 (l:List (List Yb))
 |t36 (l:List Ac)
 |t40 (l:List J6)
 |t44 (l:List (List Ap))
 |t47 (l:List Al)
 |t53 (l:List Aa)
 |t59 (l:List Ae)
 |t79 (l:List Int)
 |dW (l:List Ap)
 |t83 (l:List Ai)
 |gI (l:List At6)
 |eZ (l:List Ad)
 |dF (l:List Bf)
 |fD (l:List Acm)
 |t206 (l:List Ah)
 |t213 (l:List Ao)
 |bY (l:List Ar)
 |cZ (l:List Bt)
 |t228 (l:List Bv)
 |eB (l:List Gy)
 |cO (l:List Bg)
 |dX (l:List Ck)
 |fB (l:List Hu)
 |eY (l:List Qf)
 deriving Inhabited
def LX.e:LX->Nat
 | .t3 l=>3
 | .t4 l=>4
 | .t9 l=>9
 | .t31 l=>31
 | .t36 l=>36
 | .t40 l=>40
 | .t44 l=>44
 | .t47 l=>47
 | .t53 l=>53
 | .t59 l=>59
 | .t79 l=>79
 | .dW l=>81
 | .t83 l=>83
 | .gI l=>94
 | .eZ l=>99
 | .dF l=>118
 | .fD l=>123
 | .t206 l=>206
 | .t213 l=>213
 | .bY l=>217
 | .cZ l=>223
 | .t228 l=>228
 | .eB l=>266
 | .cO l=>272
 | .dX l=>275
 | .fB l=>280
 | .eY l=>282
def LX.sz:LX->Nat
 | .t3 l=>1
 | .t4 l=>1
 | .t9 l=>1
 | .t31 l=>1
 | .t36 l=>13
 | .t40 l=>4
 | .t44 l=>1
 | .t47 l=>4
 | .t53 l=>4
 | .t59 l=>20
 | .t79 l=>1
 | .dW l=>2
 | .t83 l=>3
 | .gI l=>3
 | .eZ l=>21
 | .dF l=>3
 | .fD l=>14
 | .t206 l=>17
 | .t213 l=>3
 | .bY l=>3
 | .cZ l=>5
 | .t228 l=>2
 | .eB l=>2
 | .cO l=>3
 | .dX l=>3
 | .fB l=>2
 | .eY l=>5
def LX.len:LX->Nat
 | .t3 l=>l.length
 | .t4 l=>l.length
 | .t9 l=>l.length
 | .t31 l=>l.length
 | .t36 l=>l.length
 | .t40 l=>l.length
 | .t44 l=>l.length
 | .t47 l=>l.length
 | .t53 l=>l.length
 | .t59 l=>l.length
 | .t79 l=>l.length
 | .dW l=>l.length
 | .t83 l=>l.length
 | .gI l=>l.length
 | .eZ l=>l.length
 | .dF l=>l.length
 | .fD l=>l.length
 | .t206 l=>l.length
 | .t213 l=>l.length
 | .bY l=>l.length
 | .cZ l=>l.length
 | .t228 l=>l.length
 | .eB l=>l.length
 | .cO l=>l.length
 | .dX l=>l.length
 | .fB l=>l.length
 | .eY l=>l.length
def LX.g3:LX->Option (List Int)
 | .t3 l=>some l
 |_=>none
def LX.g4:LX->Option (List Bool)
 | .t4 l=>some l
 |_=>none
def LX.g9:LX->Option (List Yb)
 | .t9 l=>some l
 |_=>none
def LX.g31:LX->Option (List (List Yb))
 | .t31 l=>some l
 |_=>none
def LX.g36:LX->Option (List Ac)
 | .t36 l=>some l
 |_=>none
def LX.g40:LX->Option (List J6)
 | .t40 l=>some l
 |_=>none
def LX.g44:LX->Option (List (List Ap))
 | .t44 l=>some l
 |_=>none
def LX.g47:LX->Option (List Al)
 | .t47 l=>some l
 |_=>none
def LX.g53:LX->Option (List Aa)
 | .t53 l=>some l
 |_=>none
def LX.g59:LX->Option (List Ae)
 | .t59 l=>some l
 |_=>none
def LX.g79:LX->Option (List Int)
 | .t79 l=>some l
 |_=>none
def LX.g81:LX->Option (List Ap)
 | .dW l=>some l
 |_=>none
def LX.g83:LX->Option (List Ai)
 | .t83 l=>some l
 |_=>none
def LX.g94:LX->Option (List At6)
 | .gI l=>some l
 |_=>none
def LX.g99:LX->Option (List Ad)
 | .eZ l=>some l
 |_=>none
def LX.g118:LX->Option (List Bf)
 | .dF l=>some l
 |_=>none
def LX.g123:LX->Option (List Acm)
 | .fD l=>some l
 |_=>none
def LX.g206:LX->Option (List Ah)
 | .t206 l=>some l
 |_=>none
def LX.g213:LX->Option (List Ao)
 | .t213 l=>some l
 |_=>none
def LX.g217:LX->Option (List Ar)
 | .bY l=>some l
 |_=>none
def LX.g223:LX->Option (List Bt)
 | .cZ l=>some l
 |_=>none
def LX.g228:LX->Option (List Bv)
 | .t228 l=>some l
 |_=>none
def LX.g266:LX->Option (List Gy)
 | .eB l=>some l
 |_=>none
def LX.g272:LX->Option (List Bg)
 | .cO l=>some l
 |_=>none
def LX.g275:LX->Option (List Ck)
 | .dX l=>some l
 |_=>none
def LX.g280:LX->Option (List Hu)
 | .fB l=>some l
 |_=>none
def LX.g282:LX->Option (List Qf)
 | .eY l=>some l
 |_=>none
def X5{α :Type}(K: α->LX)(o:Option α):Option LX:=match o with
 |some l=>some (K l)
 |none=>none
def Btg{α :Type}(b:Bool)(K: α->LX)(o:Option α):Option LX:=match b,o with
 |true,some l=>some (K l)
 |_,_=>none
def LX.cat(x y:LX):Option LX:=match x with
 | .t3 l=>X5 (λm=>.t3 (l++m)) y.g3
 | .t4 l=>X5 (λm=>.t4 (l++m)) y.g4
 | .t9 l=>X5 (λm=>.t9 (l++m)) y.g9
 | .t31 l=>X5 (λm=>.t31 (l++m)) y.g31
 | .t36 l=>X5 (λm=>.t36 (l++m)) y.g36
 | .t40 l=>X5 (λm=>.t40 (l++m)) y.g40
 | .t44 l=>X5 (λm=>.t44 (l++m)) y.g44
 | .t47 l=>X5 (λm=>.t47 (l++m)) y.g47
 | .t53 l=>X5 (λm=>.t53 (l++m)) y.g53
 | .t59 l=>X5 (λm=>.t59 (l++m)) y.g59
 | .t79 l=>X5 (λm=>.t79 (l++m)) y.g79
 | .dW l=>X5 (λm=>.dW (l++m)) y.g81
 | .t83 l=>X5 (λm=>.t83 (l++m)) y.g83
 | .gI l=>X5 (λm=>.gI (l++m)) y.g94
 | .eZ l=>X5 (λm=>.eZ (l++m)) y.g99
 | .dF l=>X5 (λm=>.dF (l++m)) y.g118
 | .fD l=>X5 (λm=>.fD (l++m)) y.g123
 | .t206 l=>X5 (λm=>.t206 (l++m)) y.g206
 | .t213 l=>X5 (λm=>.t213 (l++m)) y.g213
 | .bY l=>X5 (λm=>.bY (l++m)) y.g217
 | .cZ l=>X5 (λm=>.cZ (l++m)) y.g223
 | .t228 l=>X5 (λm=>.t228 (l++m)) y.g228
 | .eB l=>X5 (λm=>.eB (l++m)) y.g266
 | .cO l=>X5 (λm=>.cO (l++m)) y.g272
 | .dX l=>X5 (λm=>.dX (l++m)) y.g275
 | .fB l=>X5 (λm=>.fB (l++m)) y.g280
 | .eY l=>X5 (λm=>.eY (l++m)) y.g282
def LX.sub(x:LX)(a b:Nat):LX:=match x with
 | .t3 l=>.t3 ((l.take b).drop a)
 | .t4 l=>.t4 ((l.take b).drop a)
 | .t9 l=>.t9 ((l.take b).drop a)
 | .t31 l=>.t31 ((l.take b).drop a)
 | .t36 l=>.t36 ((l.take b).drop a)
 | .t40 l=>.t40 ((l.take b).drop a)
 | .t44 l=>.t44 ((l.take b).drop a)
 | .t47 l=>.t47 ((l.take b).drop a)
 | .t53 l=>.t53 ((l.take b).drop a)
 | .t59 l=>.t59 ((l.take b).drop a)
 | .t79 l=>.t79 ((l.take b).drop a)
 | .dW l=>.dW ((l.take b).drop a)
 | .t83 l=>.t83 ((l.take b).drop a)
 | .gI l=>.gI ((l.take b).drop a)
 | .eZ l=>.eZ ((l.take b).drop a)
 | .dF l=>.dF ((l.take b).drop a)
 | .fD l=>.fD ((l.take b).drop a)
 | .t206 l=>.t206 ((l.take b).drop a)
 | .t213 l=>.t213 ((l.take b).drop a)
 | .bY l=>.bY ((l.take b).drop a)
 | .cZ l=>.cZ ((l.take b).drop a)
 | .t228 l=>.t228 ((l.take b).drop a)
 | .eB l=>.eB ((l.take b).drop a)
 | .cO l=>.cO ((l.take b).drop a)
 | .dX l=>.dX ((l.take b).drop a)
 | .fB l=>.fB ((l.take b).drop a)
 | .eY l=>.eY ((l.take b).drop a)
def LX.rep(x:LX)(n:Nat):LX:=match x with
 | .t3 l=>.t3 (List.replicate n (l.getD 0 default))
 | .t4 l=>.t4 (List.replicate n (l.getD 0 default))
 | .t9 l=>.t9 (List.replicate n (l.getD 0 default))
 | .t31 l=>.t31 (List.replicate n (l.getD 0 default))
 | .t36 l=>.t36 (List.replicate n (l.getD 0 default))
 | .t40 l=>.t40 (List.replicate n (l.getD 0 default))
 | .t44 l=>.t44 (List.replicate n (l.getD 0 default))
 | .t47 l=>.t47 (List.replicate n (l.getD 0 default))
 | .t53 l=>.t53 (List.replicate n (l.getD 0 default))
 | .t59 l=>.t59 (List.replicate n (l.getD 0 default))
 | .t79 l=>.t79 (List.replicate n (l.getD 0 default))
 | .dW l=>.dW (List.replicate n (l.getD 0 default))
 | .t83 l=>.t83 (List.replicate n (l.getD 0 default))
 | .gI l=>.gI (List.replicate n (l.getD 0 default))
 | .eZ l=>.eZ (List.replicate n (l.getD 0 default))
 | .dF l=>.dF (List.replicate n (l.getD 0 default))
 | .fD l=>.fD (List.replicate n (l.getD 0 default))
 | .t206 l=>.t206 (List.replicate n (l.getD 0 default))
 | .t213 l=>.t213 (List.replicate n (l.getD 0 default))
 | .bY l=>.bY (List.replicate n (l.getD 0 default))
 | .cZ l=>.cZ (List.replicate n (l.getD 0 default))
 | .t228 l=>.t228 (List.replicate n (l.getD 0 default))
 | .eB l=>.eB (List.replicate n (l.getD 0 default))
 | .cO l=>.cO (List.replicate n (l.getD 0 default))
 | .dX l=>.dX (List.replicate n (l.getD 0 default))
 | .fB l=>.fB (List.replicate n (l.getD 0 default))
 | .eY l=>.eY (List.replicate n (l.getD 0 default))
end Go.Proofs.YtgacplpjamkieaaGreat.Ev
namespace Go.Proofs.YtgacplpjamkieaaGreat.Ev
open Go
inductive PV where
 |any
 |val (v:Value)
 |agg (l:List PV)
 |bI (l:List PV)
 |sl (own:Bool) (e sz:Nat) (es:List (List PV))
 |aV (own:Bool) (x:LX)
 |ref (l:List PV)
 |loc (d off:Nat)
 |el (d sz i off:Nat)
 |vw (c:Bool) (d e sz n:Nat)
 |mp (d:Nat)
 |bK (f n:Nat) (caps:List PV)
 |bU (x:LX)
 |aP (gk gv:Bool) (ks vs:LX)
 |dB (es:Array MapEntry) (clock:Nat) (gk gv:Bool) (ks vs:LX)
 deriving Inhabited
def PV.dQ:PV->PV
 | .sl _ e sz es=>.sl false e sz es
 | .aV _ x=>.aV false x
 |p=>p
def PV.view:PV->PV
 | .bI (p::r)=>.bI (p.dQ::r)
 | .sl _ e sz es=>.sl false e sz es
 | .aV _ x=>.aV false x
 |p=>p
def PV.flat:PV->Bool
 | .any=>true
 | .val _=>true
 | .aV _ _=>true
 |_=>false
inductive PV.Le:PV->PV->Prop
 |view (p:PV):PV.Le p p.view
 |nil (own:Bool) (y:LX) (h:y.len=0):PV.Le (.val (.slice none 0 0)) (.aV own y)
def Lx(l:List PV)(off:Nat)(new:List PV):List PV:=match l,off,new with
 | [],_,_=> []
 |l,_,[]=>l
 |_::r,0,q::new=>q::Lx r 0 new
 |p::r,n+1,new=>p::Lx r n new
def Amj:PV->PV->Option Bool
 | .val (.int k a),.val (.int k' b)=>match decide (k=k') with
  |true=>some (a == b)
  |false=>none
 | .val (.string a),.val (.string b)=>some (a == b)
 | .val (.bool a),.val (.bool b)=>some (a == b)
 |_,_=>none
def Ay0:PV->List PV->PV->List PV->Option Bool
 |a,[],b,[]=>Amj a b
 |a,a'::l,b,b'::m=>match Amj a b,Ay0 a' l b' m with
  |some x,some y=>some (x && y)
  |_,_=>none
 |_,_,_,_=>none
def Ae1:List PV->List PV->Option Bool
 |a::l,b::m=>Ay0 a l b m
 |_,_=>none
end Go.Proofs.YtgacplpjamkieaaGreat.Ev
namespace Go.Proofs.YtgacplpjamkieaaGreat.Ev
open Go
def Avi(l:List PV)(n:Nat):Bool:=match l,n with
 |_,0=>true
 |_::r,n+1=>Avi r n
 |_,_=>false
def Bfa(k:IntKind):PV->Option Int
 | .val (.int k' a)=>match decide (k'=k) with
  |true=>some a
  |false=>none
 |_=>none
def A6t:PV->Option Bool
 | .val (.bool a)=>some a
 |_=>none
def Bfc:PV->Option ByteArray
 | .val (.string a)=>some a
 |_=>none
inductive X0:List PV->List PV->Prop
 |nil:X0 [] []
 |cons {p q:PV} {r s:List PV} (h:PV.Le p q) (hr:X0 r s):X0 (p::r) (q::s)
theorem Azs{k:IntKind}{p:PV}{a:Int}(h:Bfa k p=some a):PV.Le p (.val (.int k a)):=by
 unfold Bfa at h;split at h
 ·split at h
  ·rename_i hk;have:=of_decide_eq_true hk;subst this;injection h with h;subst h;exact .view _
  ·cases h
 ·cases h
theorem Aut{p:PV}{a:Bool}(h:A6t p=some a):PV.Le p (.val (.bool a)):=by
 unfold A6t at h;split at h
 ·injection h with h;subst h;exact .view _
 ·cases h
theorem Azt{p:PV}{a:ByteArray}(h:Bfc p=some a):PV.Le p (.val (.string a)):=by
 unfold Bfc at h;split at h
 ·injection h with h;subst h;exact .view _
 ·cases h
def A8l{α :Type}(d:List PV->Option α):List (List PV)->Option (List α)
 | []=>some []
 |r::rs=>match d r,A8l d rs with
  |some a,some l=>some (a::l)
  |_,_=>none
theorem Ax5{α :Type} [Inhabited α]{d:List PV->Option α}{row: α->List PV}(hd:∀r a,d r=some a->X0 r (row a)):∀(rs:List (List PV)) (l:List α),A8l d rs=some l->
  l.length=rs.length/\∀(i:Nat) (r:List PV),rs[i]? =some r->X0 r (row (l.getD i default))
 | [],l,h=>by
  simp only[A8l,Option.some.injEq]at h;subst h;exact⟨rfl,λi r hr=>by simp at hr⟩
 |r::rs,l,h=>by
  simp only[A8l]at h;split at h
  ·rename_i a m h1 h2;injection h with h
   subst h;obtain⟨q1,q2⟩:=Ax5 hd rs m h2;refine⟨by simp[q1],λi x hx=>?_⟩;cases i with
   |zero=>simp at hx;subst hx;simpa using hd _ _ h1
   |succ i=>simpa using q2 i x (by simpa using hx)
  ·cases h
def Au5:List PV->Bool
 | []=>true
 |p::r=>match p.flat with
  |true=>Au5 r
  |false=>false
theorem Ayd:∀(l:List PV),Au5 l=true->∀p∈l,p.flat=true
 | [],_,p,h=>by cases h
 |q::r,h,p,hp=>by
  simp only[Au5]at h;cases hq:q.flat with
  |false=>rw[hq]at h;cases h
  |true=>
   rw[hq]at h;rcases List.mem_cons.1 hp with e|e
   ·subst e;exact hq
   ·exact Ayd r h p e
structure CD (α :Type) where
 d:PV->Option α
 w: α->PV
 le:∀ {p a},d p=some a->PV.Le p (w a)
 fl:∀a,(w a).flat=true
def oI(k:IntKind):CD Int:=⟨Bfa k,λx=>.val (.int k x),Azs,λ_=>rfl⟩
def oB:CD Bool:=⟨A6t,λx=>.val (.bool x),Aut,λ_=>rfl⟩
def oT:CD ByteArray:=⟨Bfc,λx=>.val (.string x),Azt,λ_=>rfl⟩
class TL {α :Type} (K:List α->LX) (g:outParam (LX->Option (List α))) (u z:outParam Nat):Prop where
 e:∀l,(K l).e=u:=by intro l;rfl
 sz:∀l,(K l).sz=z:=by intro l;rfl
 len:∀l,(K l).len=l.length:=by intro l;rfl
 gk:∀y m,g y=some m->y=K m:=by intro y m h;cases y<;>first|(injection h with h;subst h;rfl)|cases h
 of:∀x,x.e=u->∃l,x=K l:=by intro x h;cases x<;>first|exact⟨_,rfl⟩|(simp[LX.e]at h)
def dL{α :Type}(g:LX->Option (List α)):PV->Option (List α)
 | .aV _ x=>g x
 | .val (.slice none 0 0)=>some []
 |_=>none
def oW{α :Type}(K:List α->LX){g:LX->Option (List α)}{e sz:Nat} [k:TL K g e sz]:CD (List α):=⟨dL g,λx=>.aV false (K x),λ{p a} h=>(by
 unfold dL at h;split at h
 ·rw[k.gk _ _ h];exact .view _
 ·injection h with h;subst h;exact .nil false _ (k.len _)
 ·cases h),λ_=>rfl⟩
structure RF (α :Type) where
 d:List PV->Option α
 w: α->List PV
 le:∀r a,d r=some a->X0 r (w a)
 fl:∀a,Au5 (w a)=true
def CD.o{α :Type}(c:CD α):RF α :=⟨fun
 | [p]=>c.d p
 |_=>none,λa=> [c.w a],λr a h=>(by
 split at h
 ·exact .cons (c.le h) .nil
 ·cases h),λa=>by simp only[Au5,c.fl]⟩
def CD.c{α β :Type}(c:CD α)(f:RF β):RF (α×β):=⟨fun
 |p::r=>match c.d p,f.d r with
  |some a,some b=>some (a,b)
  |_,_=>none
 |_=>none,λa=>c.w a.1::f.w a.2,λr a h=>(by
 split at h
 ·split at h
  ·rename_i h1 h2;injection h with h;subst h
   exact .cons (c.le h1) (f.le _ _ h2)
  ·cases h
 ·cases h),λa=>by simp only[Au5,c.fl,f.fl]⟩
def RF.to{α β :Type}(f:RF α)(g: α->β)(w: β->List PV)(h:∀a,w (g a)=f.w a:=by intro a;rfl)(h2:∀a,Au5 (w a)=true:=by intro a;rfl):RF β :=⟨λr=>match f.d r with
 |some a=>some (g a)
 |none=>none,w,λr a hh=>(by
 split at hh
 ·rename_i h1;injection hh with hh;subst hh
  rw[h];exact f.le _ _ h1
 ·cases hh),h2⟩
instance:TL LX.t3 LX.g3 3 1:= {}
instance:TL LX.t4 LX.g4 4 1:= {}
instance:TL LX.t9 LX.g9 9 1:= {}
instance:TL LX.t31 LX.g31 31 1:= {}
instance:TL LX.t36 LX.g36 36 13:= {}
instance:TL LX.t40 LX.g40 40 4:= {}
instance:TL LX.t44 LX.g44 44 1:= {}
instance:TL LX.t47 LX.g47 47 4:= {}
instance:TL LX.t53 LX.g53 53 4:= {}
instance:TL LX.t59 LX.g59 59 20:= {}
instance:TL LX.t79 LX.g79 79 1:= {}
instance:TL LX.dW LX.g81 81 2:= {}
instance:TL LX.t83 LX.g83 83 3:= {}
instance:TL LX.gI LX.g94 94 3:= {}
instance:TL LX.eZ LX.g99 99 21:= {}
instance:TL LX.dF LX.g118 118 3:= {}
instance:TL LX.fD LX.g123 123 14:= {}
instance:TL LX.t206 LX.g206 206 17:= {}
instance:TL LX.t213 LX.g213 213 3:= {}
instance:TL LX.bY LX.g217 217 3:= {}
instance:TL LX.cZ LX.g223 223 5:= {}
instance:TL LX.t228 LX.g228 228 2:= {}
instance:TL LX.eB LX.g266 266 2:= {}
instance:TL LX.cO LX.g272 272 3:= {}
instance:TL LX.dX LX.g275 275 3:= {}
instance:TL LX.fB LX.g280 280 2:= {}
instance:TL LX.eY LX.g282 282 5:= {}
def Br(x:Ag):List PV:= [.val (.string x.aG),.aV false (.t83 x.aJ),.aV false (.t36 x.aD),.aV false (.dF x.bC)]
def A00:RF Ag:=RF.to (oT.c ((oW LX.t83).c ((oW LX.t36).c ((oW LX.dF).o)))) (λ(a0,a1,a2,a3)=>.mk a0 a1 a2 a3) Br
def Af(x:Ac):List PV:= [.val (.string x.aG),.aV false (.t83 x.bG),.aV false (.t206 x.aM),.aV false (.t213 x.aO),.aV false (.bY x.bH),.aV false (.t9 x.aX),.aV false (.t9 x.aR),.aV false (.t9 x.aT),.aV false (.t9 x.bA),.aV false (.t9 x.aU),.aV false (.t47 x.aA),.aV false (.cZ x.aZ),.aV false (.cO x.Laws)]
def So:RF Ac:=RF.to (oT.c ((oW LX.t83).c ((oW LX.t206).c ((oW LX.t213).c ((oW LX.bY).c ((oW LX.t9).c ((oW LX.t9).c ((oW LX.t9).c ((oW LX.t9).c ((oW LX.t9).c ((oW LX.t47).c ((oW LX.cZ).c ((oW LX.cO).o))))))))))))) (λ(a0,a1,a2,a3,a4,a5,a6,a7,a8,a9,a10,a11,a12)=>.mk a0 a1 a2 a3 a4 a5 a6 a7 a8 a9 a10 a11 a12) Af
def Auw(x:J6):List PV:= [.val (.string x.aG),.val (.int .i64 x.aJ),.val (.int .i64 x.gU),.aV false (.t59 x.eP)]
def Aes:RF J6:=RF.to (oT.c ((oI .i64).c ((oI .i64).c ((oW LX.t59).o)))) (λ(a0,a1,a2,a3)=>.mk a0 a1 a2 a3) Auw
def C6(x:Al):List PV:= [.val (.string x.aG),.aV false (.dW x.aJ),.aV false (.dW x.aL),.aV false (.eZ x.aK)]
def Ue:RF Al:=RF.to (oT.c ((oW LX.dW).c ((oW LX.dW).c ((oW LX.eZ).o)))) (λ(a0,a1,a2,a3)=>.mk a0 a1 a2 a3) C6
def Hv(x:Aa):List PV:= [.val (.int .i64 x.Op),.val (.string x.aG),.val (.int .i64 x.N),.aV false (.t53 x.bJ)]
def Aa4:RF Aa:=RF.to ((oI .i64).c (oT.c ((oI .i64).c ((oW LX.t53).o)))) (λ(a0,a1,a2,a3)=>.mk a0 a1 a2 a3) Hv
def Aux(x:Aj):List PV:= [.val (.int .i64 x.Op),.val (.int .i64 x.A),.val (.int .i64 x.B),.val (.int .i64 x.N),.aV false (.t3 x.bD),.aV false (.t3 x.bB)]
def A3k:RF Aj:=RF.to ((oI .i64).c ((oI .i64).c ((oI .i64).c ((oI .i64).c ((oW LX.t3).c ((oW LX.t3).o)))))) (λ(a0,a1,a2,a3,a4,a5)=>.mk a0 a1 a2 a3 a4 a5) Aux
def Ael(x:Ae):List PV:= [.val (.int .i64 x.Op),.val (.int .i64 x.A),.val (.int .i64 x.B),.val (.int .i64 x.C),.val (.int .i64 x.E.Op),.val (.string x.E.aG),.val (.int .i64 x.E.N),.aV false (.t53 x.E.bJ),.val (.int .i64 x.F.Op),.val (.string x.F.aG),.val (.int .i64 x.F.N),.aV false (.t53 x.F.bJ),.aV false (.t53 x.aS),.val (.int .i64 x.bR.Op),.val (.int .i64 x.bR.A),.val (.int .i64 x.bR.B),.val (.int .i64 x.bR.N),.aV false (.t3 x.bR.bD),.aV false (.t3 x.bR.bB),.val (.bool x.bZ)]
def Acx:RF Ae:=RF.to ((oI .i64).c ((oI .i64).c ((oI .i64).c ((oI .i64).c ((oI .i64).c (oT.c ((oI .i64).c ((oW LX.t53).c ((oI .i64).c (oT.c ((oI .i64).c ((oW LX.t53).c ((oW LX.t53).c ((oI .i64).c ((oI .i64).c ((oI .i64).c ((oI .i64).c ((oW LX.t3).c ((oW LX.t3).c oB.o))))))))))))))))))) (λ(a0,a1,a2,a3,a4,a5,a6,a7,a8,a9,a10,a11,a12,a13,a14,a15,a16,a17,a18,a19)=>.mk a0 a1 a2 a3 (.mk a4 a5 a6 a7) (.mk a8 a9 a10 a11) a12 (.mk a13 a14 a15 a16 a17 a18) a19) Ael
def Amu(x:Ac6):List PV:= [.val (.int .u8 x.a0),.val (.int .u8 x.a1)]
def Alg(x:Az):List PV:= [.aV false (.t83 x.aJ),.aV false (.dW x.aL),.val (.string x.aI.aG),.aV false (.t83 x.aI.bG),.aV false (.t206 x.aI.aM),.aV false (.t213 x.aI.aO),.aV false (.bY x.aI.bH),.aV false (.t9 x.aI.aX),.aV false (.t9 x.aI.aR),.aV false (.t9 x.aI.aT),.aV false (.t9 x.aI.bA),.aV false (.t9 x.aI.aU),.aV false (.t47 x.aI.aA),.aV false (.cZ x.aI.aZ),.aV false (.cO x.aI.Laws)]
def A5n:RF Az:=RF.to ((oW LX.t83).c ((oW LX.dW).c (oT.c ((oW LX.t83).c ((oW LX.t206).c ((oW LX.t213).c ((oW LX.bY).c ((oW LX.t9).c ((oW LX.t9).c ((oW LX.t9).c ((oW LX.t9).c ((oW LX.t9).c ((oW LX.t47).c ((oW LX.cZ).c ((oW LX.cO).o))))))))))))))) (λ(a0,a1,a2,a3,a4,a5,a6,a7,a8,a9,a10,a11,a12,a13,a14)=>.mk a0 a1 (.mk a2 a3 a4 a5 a6 a7 a8 a9 a10 a11 a12 a13 a14)) Alg
def T6(x:Ap):List PV:= [.val (.string x.aG),.val (.int .i64 x.bL)]
def Acw:RF Ap:=RF.to (oT.c ((oI .i64).o)) (λ(a0,a1)=>.mk a0 a1) T6
def Cw(x:Ai):List PV:= [.val (.string x.aG),.val (.int .i64 x.bL),.val (.int .i64 x.N)]
def Acy:RF Ai:=RF.to (oT.c ((oI .i64).c ((oI .i64).o))) (λ(a0,a1,a2)=>.mk a0 a1 a2) Cw
def A8n(x:At6):List PV:= [.val (.int .i64 x.dA),.val (.int .i64 x.To),.val (.int .i64 x.fA)]
def Air:RF At6:=RF.to ((oI .i64).c ((oI .i64).c ((oI .i64).o))) (λ(a0,a1,a2)=>.mk a0 a1 a2) A8n
def Gz(x:Ad):List PV:= [.val (.int .i64 x.Op),.val (.string x.aG),.val (.string x.Of),.val (.int .i64 x.E.Op),.val (.string x.E.aG),.val (.int .i64 x.E.N),.aV false (.t53 x.E.bJ),.val (.int .i64 x.F.Op),.val (.string x.F.aG),.val (.int .i64 x.F.N),.aV false (.t53 x.F.bJ),.aV false (.t53 x.aS),.val (.int .i64 x.bR.Op),.val (.int .i64 x.bR.A),.val (.int .i64 x.bR.B),.val (.int .i64 x.bR.N),.aV false (.t3 x.bR.bD),.aV false (.t3 x.bR.bB),.val (.bool x.bZ),.aV false (.eZ x.aK),.aV false (.eZ x.aY)]
def Aa5:RF Ad:=RF.to ((oI .i64).c (oT.c (oT.c ((oI .i64).c (oT.c ((oI .i64).c ((oW LX.t53).c ((oI .i64).c (oT.c ((oI .i64).c ((oW LX.t53).c ((oW LX.t53).c ((oI .i64).c ((oI .i64).c ((oI .i64).c ((oI .i64).c ((oW LX.t3).c ((oW LX.t3).c (oB.c ((oW LX.eZ).c ((oW LX.eZ).o))))))))))))))))))))) (λ(a0,a1,a2,a3,a4,a5,a6,a7,a8,a9,a10,a11,a12,a13,a14,a15,a16,a17,a18,a19,a20)=>.mk a0 a1 a2 (.mk a3 a4 a5 a6) (.mk a7 a8 a9 a10) a11 (.mk a12 a13 a14 a15 a16 a17) a18 a19 a20) Gz
def Bk(x:Ab):List PV:= [.val (.string x.bM.aG),.aV false (.t83 x.bM.aJ),.aV false (.t36 x.bM.aD),.aV false (.dF x.bM.bC),.aV false (.t83 x.aF.aJ),.aV false (.dW x.aF.aL),.val (.string x.aF.aI.aG),.aV false (.t83 x.aF.aI.bG),.aV false (.t206 x.aF.aI.aM),.aV false (.t213 x.aF.aI.aO),.aV false (.bY x.aF.aI.bH),.aV false (.t9 x.aF.aI.aX),.aV false (.t9 x.aF.aI.aR),.aV false (.t9 x.aF.aI.aT),.aV false (.t9 x.aF.aI.bA),.aV false (.t9 x.aF.aI.aU),.aV false (.t47 x.aF.aI.aA),.aV false (.cZ x.aF.aI.aZ),.aV false (.cO x.aF.aI.Laws),.val (.int .i64 x.aW)]
def Agv:RF Ab:=RF.to (oT.c ((oW LX.t83).c ((oW LX.t36).c ((oW LX.dF).c ((oW LX.t83).c ((oW LX.dW).c (oT.c ((oW LX.t83).c ((oW LX.t206).c ((oW LX.t213).c ((oW LX.bY).c ((oW LX.t9).c ((oW LX.t9).c ((oW LX.t9).c ((oW LX.t9).c ((oW LX.t9).c ((oW LX.t47).c ((oW LX.cZ).c ((oW LX.cO).c ((oI .i64).o)))))))))))))))))))) (λ(a0,a1,a2,a3,a4,a5,a6,a7,a8,a9,a10,a11,a12,a13,a14,a15,a16,a17,a18,a19)=>.mk (.mk a0 a1 a2 a3) (.mk a4 a5 (.mk a6 a7 a8 a9 a10 a11 a12 a13 a14 a15 a16 a17 a18)) a19) Bk
def P2(x:Bf):List PV:= [.val (.string x.dA),.val (.string x.To),.val (.int .i64 x.fA)]
def Aet:RF Bf:=RF.to (oT.c (oT.c ((oI .i64).o))) (λ(a0,a1,a2)=>.mk a0 a1 a2) P2
def Auy(x:Acm):List PV:= [.val (.string x.fO.aG),.aV false (.t83 x.fO.bG),.aV false (.t206 x.fO.aM),.aV false (.t213 x.fO.aO),.aV false (.bY x.fO.bH),.aV false (.t9 x.fO.aX),.aV false (.t9 x.fO.aR),.aV false (.t9 x.fO.aT),.aV false (.t9 x.fO.bA),.aV false (.t9 x.fO.aU),.aV false (.t47 x.fO.aA),.aV false (.cZ x.fO.aZ),.aV false (.cO x.fO.Laws),.aV false (.t40 x.aA)]
def W5:RF Acm:=RF.to (oT.c ((oW LX.t83).c ((oW LX.t206).c ((oW LX.t213).c ((oW LX.bY).c ((oW LX.t9).c ((oW LX.t9).c ((oW LX.t9).c ((oW LX.t9).c ((oW LX.t9).c ((oW LX.t47).c ((oW LX.cZ).c ((oW LX.cO).c ((oW LX.t40).o)))))))))))))) (λ(a0,a1,a2,a3,a4,a5,a6,a7,a8,a9,a10,a11,a12,a13)=>.mk (.mk a0 a1 a2 a3 a4 a5 a6 a7 a8 a9 a10 a11 a12) a13) Auy
def Iv(x:Am):List PV:= [.val (.string x.bM.aG),.aV false (.t83 x.bM.aJ),.aV false (.t36 x.bM.aD),.aV false (.dF x.bM.bC),.val (.int .i64 x.u_site),.aV false (.t83 x.aF.aJ),.aV false (.dW x.aF.aL),.val (.string x.aF.aI.aG),.aV false (.t83 x.aF.aI.bG),.aV false (.t206 x.aF.aI.aM),.aV false (.t213 x.aF.aI.aO),.aV false (.bY x.aF.aI.bH),.aV false (.t9 x.aF.aI.aX),.aV false (.t9 x.aF.aI.aR),.aV false (.t9 x.aF.aI.aT),.aV false (.t9 x.aF.aI.bA),.aV false (.t9 x.aF.aI.aU),.aV false (.t47 x.aF.aI.aA),.aV false (.cZ x.aF.aI.aZ),.aV false (.cO x.aF.aI.Laws)]
def Aph:RF Am:=RF.to (oT.c ((oW LX.t83).c ((oW LX.t36).c ((oW LX.dF).c ((oI .i64).c ((oW LX.t83).c ((oW LX.dW).c (oT.c ((oW LX.t83).c ((oW LX.t206).c ((oW LX.t213).c ((oW LX.bY).c ((oW LX.t9).c ((oW LX.t9).c ((oW LX.t9).c ((oW LX.t9).c ((oW LX.t9).c ((oW LX.t47).c ((oW LX.cZ).c ((oW LX.cO).o)))))))))))))))))))) (λ(a0,a1,a2,a3,a4,a5,a6,a7,a8,a9,a10,a11,a12,a13,a14,a15,a16,a17,a18,a19)=>.mk (.mk a0 a1 a2 a3) a4 (.mk a5 a6 (.mk a7 a8 a9 a10 a11 a12 a13 a14 a15 a16 a17 a18 a19))) Iv
def A2d(x:Bu):List PV:= [.val (.bool x.bT)]
def A01:RF Bu:=RF.to (oB.o) (λa0=>.mk a0) A2d
def Asj(x:Qr):List PV:= [.val (.string x.dK),.val (.int .i64 x.Up.Op),.val (.int .i64 x.Up.A),.val (.int .i64 x.Up.B),.val (.int .i64 x.Up.N),.aV false (.t3 x.Up.bD),.aV false (.t3 x.Up.bB),.val (.int .i64 x.Down.Op),.val (.int .i64 x.Down.A),.val (.int .i64 x.Down.B),.val (.int .i64 x.Down.N),.aV false (.t3 x.Down.bD),.aV false (.t3 x.Down.bB)]
def A0z:RF Qr:=RF.to (oT.c ((oI .i64).c ((oI .i64).c ((oI .i64).c ((oI .i64).c ((oW LX.t3).c ((oW LX.t3).c ((oI .i64).c ((oI .i64).c ((oI .i64).c ((oI .i64).c ((oW LX.t3).c ((oW LX.t3).o))))))))))))) (λ(a0,a1,a2,a3,a4,a5,a6,a7,a8,a9,a10,a11,a12)=>.mk a0 (.mk a1 a2 a3 a4 a5 a6) (.mk a7 a8 a9 a10 a11 a12)) Asj
def Cq(x:Ah):List PV:= [.val (.string x.aG),.val (.int .i64 x.Units),.aV false (.eB x.bP),.val (.int .i64 x.dM),.val (.string x.dG.dK),.val (.int .i64 x.dG.Up.Op),.val (.int .i64 x.dG.Up.A),.val (.int .i64 x.dG.Up.B),.val (.int .i64 x.dG.Up.N),.aV false (.t3 x.dG.Up.bD),.aV false (.t3 x.dG.Up.bB),.val (.int .i64 x.dG.Down.Op),.val (.int .i64 x.dG.Down.A),.val (.int .i64 x.dG.Down.B),.val (.int .i64 x.dG.Down.N),.aV false (.t3 x.dG.Down.bD),.aV false (.t3 x.dG.Down.bB)]
def M9:RF Ah:=RF.to (oT.c ((oI .i64).c ((oW LX.eB).c ((oI .i64).c (oT.c ((oI .i64).c ((oI .i64).c ((oI .i64).c ((oI .i64).c ((oW LX.t3).c ((oW LX.t3).c ((oI .i64).c ((oI .i64).c ((oI .i64).c ((oI .i64).c ((oW LX.t3).c ((oW LX.t3).o))))))))))))))))) (λ(a0,a1,a2,a3,a4,a5,a6,a7,a8,a9,a10,a11,a12,a13,a14,a15,a16)=>.mk a0 a1 a2 a3 (.mk a4 (.mk a5 a6 a7 a8 a9 a10) (.mk a11 a12 a13 a14 a15 a16))) Cq
def De(x:Ao):List PV:= [.val (.string x.aG),.val (.int .i64 x.Room),.val (.int .i64 x.dD)]
def U2:RF Ao:=RF.to (oT.c ((oI .i64).c ((oI .i64).o))) (λ(a0,a1,a2)=>.mk a0 a1 a2) De
def Dn(x:Ar):List PV:= [.val (.string x.aG),.val (.int .i64 x.Length),.val (.int .i64 x.Step)]
def W4:RF Ar:=RF.to (oT.c ((oI .i64).c ((oI .i64).o))) (λ(a0,a1,a2)=>.mk a0 a1 a2) Dn
def Akj(x:Bt):List PV:= [.val (.string x.dN),.aV false (.t3 x.aS),.val (.int .i64 x.At),.val (.int .i64 x.Every),.val (.int .i64 x.Until)]
def Y6:RF Bt:=RF.to (oT.c ((oW LX.t3).c ((oI .i64).c ((oI .i64).c ((oI .i64).o))))) (λ(a0,a1,a2,a3,a4)=>.mk a0 a1 a2 a3 a4) Akj
def Ap8(x:Bv):List PV:= [.val (.string x.a0),.val (.string x.a1)]
def Tj:RF Bv:=RF.to (oT.c oT.o) (λ(a0,a1)=>.mk a0 a1) Ap8
def Z8(x:B9):List PV:= [.val (.bool x.dI),.val (.bool x.fM),.val (.bool x.fU),.val (.bool x.gM),.val (.bool x.fK),.val (.bool x.eF),.val (.bool x.dY),.val (.bool x.dV),.val (.bool x.dO)]
def A3l:RF B9:=RF.to (oB.c (oB.c (oB.c (oB.c (oB.c (oB.c (oB.c (oB.c oB.o)))))))) (λ(a0,a1,a2,a3,a4,a5,a6,a7,a8)=>.mk a0 a1 a2 a3 a4 a5 a6 a7 a8) Z8
def Aoe(x:Gy):List PV:= [.val (.int .i64 x.At),.val (.int .i64 x.Units)]
def Aao:RF Gy:=RF.to ((oI .i64).c ((oI .i64).o)) (λ(a0,a1)=>.mk a0 a1) Aoe
def Fs(x:Bg):List PV:= [.val (.string x.aG),.aV false (.dX x.bX),.val (.int .i64 x.Total)]
def Ais:RF Bg:=RF.to (oT.c ((oW LX.dX).c ((oI .i64).o))) (λ(a0,a1,a2)=>.mk a0 a1 a2) Fs
def Dx(x:Ck):List PV:= [.val (.int .i64 x.bW),.val (.string x.bN),.val (.string x.aG)]
def Aa6:RF Ck:=RF.to ((oI .i64).c (oT.c oT.o)) (λ(a0,a1,a2)=>.mk a0 a1 a2) Dx
def Azw(x:Hu):List PV:= [.val (.bool x.gV),.val (.string x.dI)]
def Aan:RF Hu:=RF.to (oB.c oT.o) (λ(a0,a1)=>.mk a0 a1) Azw
def A8m(x:Qf):List PV:= [.val (.bool x.gV),.val (.int .i64 x.fU.Op),.val (.string x.fU.aG),.val (.int .i64 x.fU.N),.aV false (.t53 x.fU.bJ)]
def Aiq:RF Qf:=RF.to (oB.c ((oI .i64).c (oT.c ((oI .i64).c ((oW LX.t53).o))))) (λ(a0,a1,a2,a3,a4)=>.mk a0 (.mk a1 a2 a3 a4)) A8m
def lT{α :Type}(K:List α->LX)(f:RF α)(rs:List (List PV)):Option LX:=X5 K (A8l f.d rs)
def sT{α :Type} [Inhabited α](K:List α->LX)(f:RF α)(l:List α)(i off:Nat)(c:List PV):Option LX:=Btg (Avi (f.w (l.getD i default)) (off+c.length)) (λa=>K (l.set i a)) (f.d (Lx (f.w (l.getD i default)) off c))
def RF.r{α :Type} [Inhabited α](f:RF α)(l:List α)(i:Nat):List PV:=f.w (l.getD i default)
def LX.row(x:LX)(i:Nat):List PV:=match x with
 | .t3 l=>(oI .i64).o.r l i
 | .t4 l=>oB.o.r l i
 | .t9 l=>oT.o.r l i
 | .t31 l=>(oW LX.t9).o.r l i
 | .t36 l=>So.r l i
 | .t40 l=>Aes.r l i
 | .t44 l=>(oW LX.dW).o.r l i
 | .t47 l=>Ue.r l i
 | .t53 l=>Aa4.r l i
 | .t59 l=>Acx.r l i
 | .t79 l=>(oI .i64).o.r l i
 | .dW l=>Acw.r l i
 | .t83 l=>Acy.r l i
 | .gI l=>Air.r l i
 | .eZ l=>Aa5.r l i
 | .dF l=>Aet.r l i
 | .fD l=>W5.r l i
 | .t206 l=>M9.r l i
 | .t213 l=>U2.r l i
 | .bY l=>W4.r l i
 | .cZ l=>Y6.r l i
 | .t228 l=>Tj.r l i
 | .eB l=>Aao.r l i
 | .cO l=>Ais.r l i
 | .dX l=>Aa6.r l i
 | .fB l=>Aan.r l i
 | .eY l=>Aiq.r l i
def LX.set(x:LX)(i off:Nat)(c:List PV):Option LX:=match x with
 | .t3 l=>sT .t3 (oI .i64).o l i off c
 | .t4 l=>sT .t4 oB.o l i off c
 | .t9 l=>sT .t9 oT.o l i off c
 | .t31 l=>sT .t31 (oW LX.t9).o l i off c
 | .t36 l=>sT .t36 So l i off c
 | .t40 l=>sT .t40 Aes l i off c
 | .t44 l=>sT .t44 (oW LX.dW).o l i off c
 | .t47 l=>sT .t47 Ue l i off c
 | .t53 l=>sT .t53 Aa4 l i off c
 | .t59 l=>sT .t59 Acx l i off c
 | .t79 l=>sT .t79 (oI .i64).o l i off c
 | .dW l=>sT .dW Acw l i off c
 | .t83 l=>sT .t83 Acy l i off c
 | .gI l=>sT .gI Air l i off c
 | .eZ l=>sT .eZ Aa5 l i off c
 | .dF l=>sT .dF Aet l i off c
 | .fD l=>sT .fD W5 l i off c
 | .t206 l=>sT .t206 M9 l i off c
 | .t213 l=>sT .t213 U2 l i off c
 | .bY l=>sT .bY W4 l i off c
 | .cZ l=>sT .cZ Y6 l i off c
 | .t228 l=>sT .t228 Tj l i off c
 | .eB l=>sT .eB Aao l i off c
 | .cO l=>sT .cO Ais l i off c
 | .dX l=>sT .dX Aa6 l i off c
 | .fB l=>sT .fB Aan l i off c
 | .eY l=>sT .eY Aiq l i off c
def tbl:List (Nat×(List (List PV)->Option LX)):= [(3,lT .t3 (oI .i64).o),(4,lT .t4 oB.o),(9,lT .t9 oT.o),(31,lT .t31 (oW LX.t9).o),(36,lT .t36 So),(40,lT .t40 Aes),(44,lT .t44 (oW LX.dW).o),(47,lT .t47 Ue),(53,lT .t53 Aa4),(59,lT .t59 Acx),(79,lT .t79 (oI .i64).o),(81,lT .dW Acw),(83,lT .t83 Acy),(94,lT .gI Air),(99,lT .eZ Aa5),(118,lT .dF Aet),(123,lT .fD W5),(206,lT .t206 M9),(213,lT .t213 U2),(217,lT .bY W4),(223,lT .cZ Y6),(228,lT .t228 Tj),(266,lT .eB Aao),(272,lT .cO Ais),(275,lT .dX Aa6),(280,lT .fB Aan),(282,lT .eY Aiq)]
def lkT:List (Nat×(List (List PV)->Option LX))->Nat->List (List PV)->Option LX
 | [],_,_=>none
 |(a,f)::r,e,rs=>match Nat.beq e a with
  |true=>f rs
  |false=>lkT r e rs
def LX.lit(e:Nat)(rs:List (List PV)):Option LX:=lkT tbl e rs
def LX.nil(e:Nat):Option LX:=lkT tbl e []
class TG {α :Type} [Inhabited α] (K:List α->LX) (f:outParam (RF α)):Prop where
 row:∀l i,(K l).row i=f.w (l.getD i default):=by intro l i;rfl
 sz:∀a l,(f.w a).length=(K l).sz:=by intro a l;rfl
instance:TG LX.t3 (oI .i64).o:= {}
instance:TG LX.t4 oB.o:= {}
instance:TG LX.t9 oT.o:= {}
instance:TG LX.t31 (oW LX.t9).o:= {}
instance:TG LX.t36 So:= {}
instance:TG LX.t40 Aes:= {}
instance:TG LX.t44 (oW LX.dW).o:= {}
instance:TG LX.t47 Ue:= {}
instance:TG LX.t53 Aa4:= {}
instance:TG LX.t59 Acx:= {}
instance:TG LX.t79 (oI .i64).o:= {}
instance:TG LX.dW Acw:= {}
instance:TG LX.t83 Acy:= {}
instance:TG LX.gI Air:= {}
instance:TG LX.eZ Aa5:= {}
instance:TG LX.dF Aet:= {}
instance:TG LX.fD W5:= {}
instance:TG LX.t206 M9:= {}
instance:TG LX.t213 U2:= {}
instance:TG LX.bY W4:= {}
instance:TG LX.cZ Y6:= {}
instance:TG LX.t228 Tj:= {}
instance:TG LX.eB Aao:= {}
instance:TG LX.cO Ais:= {}
instance:TG LX.dX Aa6:= {}
instance:TG LX.fB Aan:= {}
instance:TG LX.eY Aiq:= {}
def LX.find(x:LX)(c:List PV):Option (Option Nat):=match x,c with
 | .t3 l,[.val (.int k0 a0)]=>match decide (k0=.i64) with
  |true=>some (l.findIdx? λb=>a0 == b)
  |_=>none
 | .t4 l,[.val (.bool a0)]=>some (l.findIdx? λb=>a0 == b)
 | .t9 l,[.val (.string a0)]=>some (l.findIdx? λb=>a0 == b)
 | .t79 l,[.val (.int k0 a0)]=>match decide (k0=.i64) with
  |true=>some (l.findIdx? λb=>a0 == b)
  |_=>none
 | .t228 l,[.val (.string a0),.val (.string a1)]=>some (l.findIdx? λb=>(a0 == b.a0 && (a1 == b.a1)))
 |_,_=>none
def LX.push(x:LX)(c:List PV):Option LX:=match LX.lit x.e [c] with
 |some y=>x.cat y
 |none=>none
theorem A4y{α :Type} [Inhabited α](l m:List α)(i:Nat)(h:i<l.length):(l++m).getD i default=l.getD i default:=by
 simp[List.getD,List.getElem?_append_left h]
theorem A4z{α :Type} [Inhabited α](l m:List α)(i:Nat):(l++m).getD (l.length+i) default=m.getD i default:=by
 simp[List.getD,List.getElem?_append_right]
theorem Bbd{α :Type} [Inhabited α](l:List α)(a b i:Nat)(h1:b<=l.length)(h2:i<b-a):((l.take b).drop a).getD i default=l.getD (a+i) default:=by
 simp only[List.getD_eq_getElem?_getD,List.getElem?_drop,List.getElem?_take];rw[if_pos (by omega)]
theorem Bbc{α :Type} [Inhabited α](n i:Nat)(a: α)(h:i<n):(List.replicate n a).getD i default=a:=by
 simp[List.getD_eq_getElem?_getD,List.getElem?_replicate,h]
theorem A2p{α :Type} [Inhabited α](l:List α)(i:Nat)(a: α)(h:i<l.length):(l.set i a).getD i default=a:=by
 simp[List.getD_eq_getElem?_getD,h]
theorem A2q{α :Type} [Inhabited α](l:List α)(i j:Nat)(a: α)(h:j≠i):(l.set i a).getD j default=l.getD j default:=by
 simp[List.getD_eq_getElem?_getD,List.getElem?_set_ne (λe=>h e.symm)]
theorem Hj{α :Type} [Inhabited α](l:List α)(i:Nat)(h:i<l.length):l.getD i default=l[i]:=by
 simp[List.getD_eq_getElem?_getD,h]
theorem A5a(l:List PV):∀n,Avi l n=true↔n<=l.length:=by
 induction l with
 |nil=>intro n;cases n<;>simp[Avi]
 |cons p r ih=>intro n;cases n<;>simp[Avi,ih]
section
variable {α :Type} [Inhabited α] {K:List α->LX} {f:RF α} {g:LX->Option (List α)} {e sz:Nat}
theorem Bwv [q:TG K f](l:List α)(i:Nat):∀p∈(K l).row i,p.flat=true:=Ayd _ (by rw[q.row];exact f.fl _)
theorem Bww [q:TG K f](l:List α)(i:Nat):((K l).row i).length=(K l).sz:=by rw[q.row];exact q.sz _ _
def A95(p:Nat×(List (List PV)->Option LX)):Prop:=∀rs x,p.2 rs=some x->x.e=p.1/\x.len=rs.length/\∀(i:Nat) (r:List PV),rs[i]? =some r->X0 r (x.row i)
theorem Bwo [k:TL K g e sz] [q:TG K f]:A95 (e,lT K f):=by
 intro rs x h;simp only[lT,X5]at h;cases hl:A8l f.d rs with
 |none=>rw[hl]at h;cases h
 |some l=>
  rw[hl]at h;injection h with h;subst h
  obtain⟨q1,q2⟩:=Ax5 f.le rs l hl;exact⟨k.e _,by rw[k.len];exact q1,λi r hr=>by rw[q.row];exact q2 i r hr⟩
theorem Bwj [k:TL K g e sz] [q:TG K f]{y z:LX}{l:List α}(h:X5 (λm=>K (l++m)) (g y)=some z):y.e=(K l).e/\z.e=(K l).e/\y.sz=(K l).sz/\z.sz=(K l).sz/\z.len=(K l).len+y.len/\(∀i,i<(K l).len->z.row i=(K l).row i)/\(∀i,z.row ((K l).len+i)=y.row i):=by
 cases hg:g y with
 |none=>rw[hg]at h;cases h
 |some m=>
  rw[hg]at h;injection h with h;subst h
  rw[k.gk y m hg];simp only[k.e,k.sz,k.len,q.row,List.length_append,true_and];exact⟨λi hi=>by rw[A4y l m i hi],λi=>by rw[A4z]⟩
theorem Bxe [k:TL K g e sz] [q:TG K f](l:List α)(a b:Nat)(h:b<=(K l).len):(K ((l.take b).drop a)).e=(K l).e/\(K ((l.take b).drop a)).sz=(K l).sz/\(K ((l.take b).drop a)).len=b-a/\∀i,i<b-a->(K ((l.take b).drop a)).row i=(K l).row (a+i):=by
 simp only[k.e,k.sz,k.len,q.row,true_and]at h ⊢;exact⟨by simp;omega,λi hi=>by rw[Bbd l a b i h hi]⟩
theorem Bwt [k:TL K g e sz] [q:TG K f](l:List α)(n:Nat):(K (List.replicate n (l.getD 0 default))).e=(K l).e/\(K (List.replicate n (l.getD 0 default))).sz=(K l).sz/\(K (List.replicate n (l.getD 0 default))).len=n/\∀i,i<n->(K (List.replicate n (l.getD 0 default))).row i=(K l).row 0:=by
 simp only[k.e,k.sz,k.len,q.row,true_and];exact⟨List.length_replicate,λi hi=>by rw[Bbc n i _ hi]⟩
theorem Bxd [k:TL K g e sz] [q:TG K f]{i off:Nat}{c:List PV}{l:List α}{y:LX}(h:sT K f l i off c=some y):y.e=(K l).e/\y.sz=(K l).sz/\y.len=(K l).len/\off+c.length<=(K l).sz/\(i<(K l).len->X0 (Lx ((K l).row i) off c) (y.row i))/\∀j,j≠i->y.row j=(K l).row j:=by
 unfold sT Btg at h;split at h
 ·rename_i a h1 h2;injection h with h;subst h
  simp only[k.e,k.sz,k.len,q.row,true_and];refine⟨List.length_set,by rw[<-k.sz l,<-q.sz (l.getD i default) l];exact(A5a _ _).1 h1,λhi=>?_,λj hj=>?_⟩
  ·rw[A2p l i a hi];exact f.le _ _ h2
  ·rw[A2q l i j a hj]
 ·cases h
end
theorem LX.row_len(x:LX)(i:Nat):(x.row i).length=x.sz:=by cases x<;>exact Bww _ _
theorem LX.row_flat(x:LX)(i:Nat):∀p∈x.row i,p.flat=true:=by cases x<;>exact Bwv _ _
def Bjy:List (Nat×(List (List PV)->Option LX))->Prop
 | []=>True
 |p::r=>A95 p/\Bjy r
theorem Buc:Bjy tbl:=by
 unfold tbl
 repeat (first|exact trivial|refine⟨Bwo,?_⟩)
theorem Bbx:∀(l:List (Nat×(List (List PV)->Option LX))),Bjy l->∀e,A95 (e,lkT l e)
 | [],_,e,rs,x,h=>by cases h
 |(a,f)::r,hl,e,rs,x,h=>by
  change (match Nat.beq e a with
   |true=>f rs
   |false=>lkT r e rs)=some x at h
  cases hb:Nat.beq e a with
  |true=>
   rw[hb]at h;rw[Nat.eq_of_beq_eq_true hb];exact hl.1 rs x h
  |false=>
   rw[hb]at h;exact Bbx r hl.2 e rs x h
theorem LX.lit_spec(e:Nat)(rs:List (List PV))(x:LX)(h:LX.lit e rs=some x):x.e=e/\x.len=rs.length/\∀(i:Nat) (r:List PV),rs[i]? =some r->X0 r (x.row i):=Bbx tbl Buc e rs x h
theorem LX.nil_spec(e:Nat)(x:LX)(h:LX.nil e=some x):x.e=e/\x.len=0:=⟨(LX.lit_spec e [] x h).1,(LX.lit_spec e [] x h).2.1⟩
theorem LX.cat_spec(x y z:LX)(h:x.cat y=some z):y.e=x.e/\z.e=x.e/\y.sz=x.sz/\z.sz=x.sz/\z.len=x.len+y.len/\(∀i,i<x.len->z.row i=x.row i)/\(∀i,z.row (x.len+i)=y.row i):=by cases x<;>exact Bwj h
theorem LX.sub_spec(x:LX)(a b:Nat)(h:b<=x.len):(x.sub a b).e=x.e/\(x.sub a b).sz=x.sz/\(x.sub a b).len=b-a/\∀i,i<b-a->(x.sub a b).row i=x.row (a+i):=by cases x<;>exact Bxe _ a b h
theorem LX.rep_spec(x:LX)(n:Nat):(x.rep n).e=x.e/\(x.rep n).sz=x.sz/\(x.rep n).len=n/\∀i,i<n->(x.rep n).row i=x.row 0:=by cases x<;>exact Bwt _ n
theorem LX.set_spec(x:LX)(i off:Nat)(c:List PV)(y:LX)(h:LX.set x i off c=some y):y.e=x.e/\y.sz=x.sz/\y.len=x.len/\off+c.length<=x.sz/\(i<x.len->X0 (Lx (x.row i) off c) (y.row i))/\∀j,j≠i->y.row j=x.row j:=by cases x<;>exact Bxd h
theorem Ado{α :Type} [Inhabited α]{l:List α}{p: α->Bool}{r:Option Nat}(h:l.findIdx? p=r):
  (r=none->∀i,i<l.length->p (l.getD i default)=false)/\(∀i,r=some i->i<l.length/\p (l.getD i default)=true/\∀j,j<i->p (l.getD j default)=false):=by
 subst h;refine⟨λh i hi=>?_,λi h=>?_⟩
 ·have:=List.findIdx?_eq_none_iff.1 h (l.getD i default) (by rw[Hj l i hi];exact List.getElem_mem hi);simpa using this
 ·obtain⟨h1,h2,h3⟩:=List.findIdx?_eq_some_iff_getElem.1 h;refine⟨h1,by rw[Hj l i h1];exact h2,λj hj=>?_⟩;rw[Hj l j (by omega)];simpa using h3 j hj
theorem LX.find_spec(x:LX)(c:List PV)(r:Option Nat)(h:LX.find x c=some r):(r=none->∀i,i<x.len->Ae1 c (x.row i)=some false)/\(∀i,r=some i->i<x.len/\Ae1 c (x.row i)=some true/\∀j,j<i->Ae1 c (x.row j)=some false):=by
 unfold LX.find at h;split at h
 ·rename_i l k0 a0;split at h
  ·rename_i hk0;have e0:=of_decide_eq_true hk0;subst e0;injection h with h;subst h
   obtain⟨s1,s2⟩:=Ado (rfl:l.findIdx? (λb=>a0 == b)=_);have key:∀i b,(a0 == (l.getD i default))=b->Ae1 [.val (.int .i64 a0)] ((LX.t3 l).row i)=some b:=λi b hb=>congrArg some hb;exact⟨λhr i hi=>key _ _ (s1 hr i hi),λi hr=>⟨(s2 i hr).1,key _ _ (s2 i hr).2.1,λj hj=>key _ _ ((s2 i hr).2.2 j hj)⟩⟩
  ·cases h
 ·rename_i l a0;injection h with h;subst h
  obtain⟨s1,s2⟩:=Ado (rfl:l.findIdx? (λb=>a0 == b)=_);have key:∀i b,(a0 == (l.getD i default))=b->Ae1 [.val (.bool a0)] ((LX.t4 l).row i)=some b:=λi b hb=>congrArg some hb;exact⟨λhr i hi=>key _ _ (s1 hr i hi),λi hr=>⟨(s2 i hr).1,key _ _ (s2 i hr).2.1,λj hj=>key _ _ ((s2 i hr).2.2 j hj)⟩⟩
 ·rename_i l a0;injection h with h;subst h
  obtain⟨s1,s2⟩:=Ado (rfl:l.findIdx? (λb=>a0 == b)=_);have key:∀i b,(a0 == (l.getD i default))=b->Ae1 [.val (.string a0)] ((LX.t9 l).row i)=some b:=λi b hb=>congrArg some hb;exact⟨λhr i hi=>key _ _ (s1 hr i hi),λi hr=>⟨(s2 i hr).1,key _ _ (s2 i hr).2.1,λj hj=>key _ _ ((s2 i hr).2.2 j hj)⟩⟩
 ·rename_i l k0 a0;split at h
  ·rename_i hk0;have e0:=of_decide_eq_true hk0;subst e0;injection h with h;subst h
   obtain⟨s1,s2⟩:=Ado (rfl:l.findIdx? (λb=>a0 == b)=_);have key:∀i b,(a0 == (l.getD i default))=b->Ae1 [.val (.int .i64 a0)] ((LX.t79 l).row i)=some b:=λi b hb=>congrArg some hb;exact⟨λhr i hi=>key _ _ (s1 hr i hi),λi hr=>⟨(s2 i hr).1,key _ _ (s2 i hr).2.1,λj hj=>key _ _ ((s2 i hr).2.2 j hj)⟩⟩
  ·cases h
 ·rename_i l a0 a1;injection h with h;subst h
  obtain⟨s1,s2⟩:=Ado (rfl:l.findIdx? (λb=>(a0 == b.a0 && (a1 == b.a1)))=_);have key:∀i b,((a0 == (l.getD i default).a0 && (a1 == (l.getD i default).a1)))=b->Ae1 [.val (.string a0),.val (.string a1)] ((LX.t228 l).row i)=some b:=λi b hb=>congrArg some hb;exact⟨λhr i hi=>key _ _ (s1 hr i hi),λi hr=>⟨(s2 i hr).1,key _ _ (s2 i hr).2.1,λj hj=>key _ _ ((s2 i hr).2.2 j hj)⟩⟩
 ·cases h
def LX.str(x:LX):Option ByteArray:=match x with
 |_=>none
theorem LX.str_spec{y:LX}{s:ByteArray}(h:y.str=some s):∃l:List Int,s=strOfNums l/\y.len=l.length/\y.sz=1/\∀i,i<l.length->y.row i= [.val (.int .u8 (l.getD i 0))]:=by
 cases y<;>first
  |(injection h with h;subst h;exact⟨_,rfl,rfl,rfl,λi _=>rfl⟩)
  |cases h
def GL:List (Nat×LX):= []
def GA:List (Nat×List Value):= []
end Go.Proofs.YtgacplpjamkieaaGreat.Ev
