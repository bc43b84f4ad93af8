/-  The types of the data, and of rows of them. -/
import Derived.Test.YtgacplpjamkieaaGreatRows
import Derived.WalkKit
import Derived.LoopN
import Derived.Great.BuildSlice
import Derived.Deep.Draws
import Derived.Laws.BytesArg
set_option linter.unusedVariables false
set_option linter.unusedSimpArgs false
set_option linter.unnecessarySimpa false
namespace Go.Proofs.YtgacplpjamkieaaGreat.Ev
open Go
abbrev Yb:=ByteArray
structure Br where
 a0:Yb
 a1:Yb
 deriving Inhabited
inductive Aa where
 |mk (Op:Int) (aD:Yb) (N:Int) (aQ:(List Aa))
instance:Inhabited Aa:=⟨.mk 0 ByteArray.empty 0 []⟩
def Aa.Op:Aa->Int| .mk x _ _ _=>x
def Aa.aD:Aa->Yb| .mk _ x _ _=>x
def Aa.N:Aa->Int| .mk _ _ x _=>x
def Aa.aQ:Aa->(List Aa)| .mk _ _ _ x=>x
def Aa.cp(x:Aa):Aa:=.mk x.Op x.aD x.N x.aQ
theorem Aa.cp_eq(x:Aa):Aa.cp x=x:=by cases x;rfl
theorem Aa.eta(x:Aa):Aa.mk x.Op x.aD x.N x.aQ=x:=by cases x;rfl
structure Kl where
 gK:Bool
 gH:Aa
 deriving Inhabited
structure El where
 gK:Bool
 dI:Yb
 deriving Inhabited
structure Ap2 where
 fD:Int
 To:Int
 fT:Int
 deriving Inhabited
structure Av where
 aD:Yb
 Length:Int
 Step:Int
 deriving Inhabited
structure P7 where
 At:Int
 Units:Int
 deriving Inhabited
structure Ah where
 Op:Int
 A:Int
 B:Int
 N:Int
 bN:(List Int)
 bI:(List Int)
 deriving Inhabited
structure Ad where
 Op:Int
 A:Int
 B:Int
 C:Int
 E:Aa
 F:Aa
 bM:(List Aa)
 bW:Ah
 cZ:Bool
 deriving Inhabited
structure Gi where
 aD:Yb
 aK:Int
 gQ:Int
 Instrs:(List Ad)
 deriving Inhabited
structure Aw where
 aD:Yb
 bL:Int
 deriving Inhabited
structure Cb where
 bP:Int
 bF:Yb
 aD:Yb
 deriving Inhabited
structure Bh where
 aD:Yb
 eX:(List Cb)
 Total:Int
 deriving Inhabited
structure Qi where
 dO:Yb
 Up:Ah
 Down:Ah
 deriving Inhabited
structure Ai where
 aD:Yb
 Units:Int
 cO:(List P7)
 fJ:Int
 dA:Qi
 deriving Inhabited
inductive Ae where
 |mk (Op:Int) (aD:Yb) (Of:Yb) (E:Aa) (F:Aa) (bM:(List Aa)) (bW:Ah) (cZ:Bool) (cK:(List Ae)) (dM:(List Ae))
instance:Inhabited Ae:=⟨.mk 0 ByteArray.empty ByteArray.empty default default [] default false [] []⟩
def Ae.Op:Ae->Int| .mk x _ _ _ _ _ _ _ _ _=>x
def Ae.aD:Ae->Yb| .mk _ x _ _ _ _ _ _ _ _=>x
def Ae.Of:Ae->Yb| .mk _ _ x _ _ _ _ _ _ _=>x
def Ae.E:Ae->Aa| .mk _ _ _ x _ _ _ _ _ _=>x
def Ae.F:Ae->Aa| .mk _ _ _ _ x _ _ _ _ _=>x
def Ae.bM:Ae->(List Aa)| .mk _ _ _ _ _ x _ _ _ _=>x
def Ae.bW:Ae->Ah| .mk _ _ _ _ _ _ x _ _ _=>x
def Ae.cZ:Ae->Bool| .mk _ _ _ _ _ _ _ x _ _=>x
def Ae.cK:Ae->(List Ae)| .mk _ _ _ _ _ _ _ _ x _=>x
def Ae.dM:Ae->(List Ae)| .mk _ _ _ _ _ _ _ _ _ x=>x
def Ae.cp(x:Ae):Ae:=.mk x.Op x.aD x.Of (Aa.cp x.E) (Aa.cp x.F) x.bM x.bW x.cZ x.cK x.dM
theorem Ae.cp_eq(x:Ae):Ae.cp x=x:=by cases x;simp only[Ae.cp,Aa.cp_eq,Ae.Op,Ae.aD,Ae.Of,Ae.E,Ae.F,Ae.bM,Ae.bW,Ae.cZ,Ae.cK,Ae.dM]
theorem Ae.eta(x:Ae):Ae.mk x.Op x.aD x.Of x.E x.F x.bM x.bW x.cZ x.cK x.dM=x:=by cases x;rfl
structure Am where
 aD:Yb
 aK:(List Aw)
 aP:(List Aw)
 cK:(List Ae)
 deriving Inhabited
structure Bq where
 dW:Yb
 bM:(List Int)
 At:Int
 Every:Int
 Until:Int
 deriving Inhabited
structure Ak where
 aD:Yb
 Room:Int
 fE:Int
 deriving Inhabited
structure Ag where
 aD:Yb
 bL:Int
 N:Int
 deriving Inhabited
structure Ab where
 aD:Yb
 aX:(List Ag)
 aI:(List Ai)
 aJ:(List Ak)
 aZ:(List Av)
 aV:(List Yb)
 aR:(List Yb)
 aS:(List Yb)
 aW:(List Yb)
 aT:(List Yb)
 aG:(List Am)
 bB:(List Bq)
 Laws:(List Bh)
 deriving Inhabited
structure Ao where
 aK:(List Ag)
 aP:(List Aw)
 aF:Ab
 deriving Inhabited
structure Bs where
 fD:Yb
 To:Yb
 fT:Int
 deriving Inhabited
structure Al where
 aD:Yb
 aK:(List Ag)
 aU:(List Ab)
 bJ:(List Bs)
 deriving Inhabited
structure Wp where
 fA:Ab
 aG:(List Gi)
 deriving Inhabited
structure Ac where
 bK:Al
 aA:Ao
 bQ:Int
 deriving Inhabited
structure Bg where
 bE:Bool
 deriving Inhabited
structure Bu where
 dI:Bool
 fP:Bool
 gH:Bool
 gN:Bool
 fG:Bool
 fB:Bool
 dU:Bool
 dS:Bool
 dF:Bool
 deriving Inhabited
structure Ap where
 bK:Al
 u_site:Int
 aA:Ao
 deriving Inhabited
inductive LX where
 |t3 (l:List Int)
 |t4 (l:List Bool)
 |t9 (l:List Yb)
 |t31 (l:List (List Yb))
 |t36 (l:List Ab)
 |t40 (l:List Gi)
 |t44 (l:List (List Aw))
 |t47 (l:List Am)
 |t53 (l:List Aa)
 |t59 (l:List Ad)
 |t79 (l:List Int)
 |dG (l:List Aw)
 |t83 (l:List Ag)
 |fV (l:List Ap2)
 |eU (l:List Ae)
 |bZ (l:List Bs)
 |eH (l:List Wp)
 |t206 (l:List Ai)
 |t213 (l:List Ak)
 |bR (l:List Av)
 |bU (l:List Bq)
 |t228 (l:List Br)
 |dP (l:List P7)
 |bT (l:List Bh)
 |dK (l:List Cb)
 |dZ (l:List El)
 |dY (l:List Kl)
 deriving Inhabited
def LX.e:LX->Nat
 | .t3 l=>3
 | .t4 l=>4
 | .t9 l=>9
 | .t31 l=>31
 | .t36 l=>36
 | .t40 l=>40
 | .t44 l=>44
 | .t47 l=>47
 | .t53 l=>53
 | .t59 l=>59
 | .t79 l=>79
 | .dG l=>81
 | .t83 l=>83
 | .fV l=>94
 | .eU l=>99
 | .bZ l=>118
 | .eH l=>123
 | .t206 l=>206
 | .t213 l=>213
 | .bR l=>217
 | .bU l=>223
 | .t228 l=>228
 | .dP l=>266
 | .bT l=>272
 | .dK l=>275
 | .dZ l=>280
 | .dY l=>282
def LX.sz:LX->Nat
 | .t3 l=>1
 | .t4 l=>1
 | .t9 l=>1
 | .t31 l=>1
 | .t36 l=>13
 | .t40 l=>4
 | .t44 l=>1
 | .t47 l=>4
 | .t53 l=>4
 | .t59 l=>20
 | .t79 l=>1
 | .dG l=>2
 | .t83 l=>3
 | .fV l=>3
 | .eU l=>21
 | .bZ l=>3
 | .eH l=>14
 | .t206 l=>17
 | .t213 l=>3
 | .bR l=>3
 | .bU l=>5
 | .t228 l=>2
 | .dP l=>2
 | .bT l=>3
 | .dK l=>3
 | .dZ l=>2
 | .dY l=>5
def LX.len:LX->Nat
 | .t3 l=>l.length
 | .t4 l=>l.length
 | .t9 l=>l.length
 | .t31 l=>l.length
 | .t36 l=>l.length
 | .t40 l=>l.length
 | .t44 l=>l.length
 | .t47 l=>l.length
 | .t53 l=>l.length
 | .t59 l=>l.length
 | .t79 l=>l.length
 | .dG l=>l.length
 | .t83 l=>l.length
 | .fV l=>l.length
 | .eU l=>l.length
 | .bZ l=>l.length
 | .eH l=>l.length
 | .t206 l=>l.length
 | .t213 l=>l.length
 | .bR l=>l.length
 | .bU l=>l.length
 | .t228 l=>l.length
 | .dP l=>l.length
 | .bT l=>l.length
 | .dK l=>l.length
 | .dZ l=>l.length
 | .dY l=>l.length
def LX.g3:LX->Option (List Int)
 | .t3 l=>some l
 |_=>none
def LX.g4:LX->Option (List Bool)
 | .t4 l=>some l
 |_=>none
def LX.g9:LX->Option (List Yb)
 | .t9 l=>some l
 |_=>none
def LX.g31:LX->Option (List (List Yb))
 | .t31 l=>some l
 |_=>none
def LX.g36:LX->Option (List Ab)
 | .t36 l=>some l
 |_=>none
def LX.g40:LX->Option (List Gi)
 | .t40 l=>some l
 |_=>none
def LX.g44:LX->Option (List (List Aw))
 | .t44 l=>some l
 |_=>none
def LX.g47:LX->Option (List Am)
 | .t47 l=>some l
 |_=>none
def LX.g53:LX->Option (List Aa)
 | .t53 l=>some l
 |_=>none
def LX.g59:LX->Option (List Ad)
 | .t59 l=>some l
 |_=>none
def LX.g79:LX->Option (List Int)
 | .t79 l=>some l
 |_=>none
def LX.g81:LX->Option (List Aw)
 | .dG l=>some l
 |_=>none
def LX.g83:LX->Option (List Ag)
 | .t83 l=>some l
 |_=>none
def LX.g94:LX->Option (List Ap2)
 | .fV l=>some l
 |_=>none
def LX.g99:LX->Option (List Ae)
 | .eU l=>some l
 |_=>none
def LX.g118:LX->Option (List Bs)
 | .bZ l=>some l
 |_=>none
def LX.g123:LX->Option (List Wp)
 | .eH l=>some l
 |_=>none
def LX.g206:LX->Option (List Ai)
 | .t206 l=>some l
 |_=>none
def LX.g213:LX->Option (List Ak)
 | .t213 l=>some l
 |_=>none
def LX.g217:LX->Option (List Av)
 | .bR l=>some l
 |_=>none
def LX.g223:LX->Option (List Bq)
 | .bU l=>some l
 |_=>none
def LX.g228:LX->Option (List Br)
 | .t228 l=>some l
 |_=>none
def LX.g266:LX->Option (List P7)
 | .dP l=>some l
 |_=>none
def LX.g272:LX->Option (List Bh)
 | .bT l=>some l
 |_=>none
def LX.g275:LX->Option (List Cb)
 | .dK l=>some l
 |_=>none
def LX.g280:LX->Option (List El)
 | .dZ l=>some l
 |_=>none
def LX.g282:LX->Option (List Kl)
 | .dY l=>some l
 |_=>none
def Qs{α :Type}(K: α->LX)(o:Option α):Option LX:=match o with
 |some l=>some (K l)
 |none=>none
def Boq{α :Type}(b:Bool)(K: α->LX)(o:Option α):Option LX:=match b,o with
 |true,some l=>some (K l)
 |_,_=>none
def LX.cat(x y:LX):Option LX:=match x with
 | .t3 l=>Qs (λm=>.t3 (l++m)) y.g3
 | .t4 l=>Qs (λm=>.t4 (l++m)) y.g4
 | .t9 l=>Qs (λm=>.t9 (l++m)) y.g9
 | .t31 l=>Qs (λm=>.t31 (l++m)) y.g31
 | .t36 l=>Qs (λm=>.t36 (l++m)) y.g36
 | .t40 l=>Qs (λm=>.t40 (l++m)) y.g40
 | .t44 l=>Qs (λm=>.t44 (l++m)) y.g44
 | .t47 l=>Qs (λm=>.t47 (l++m)) y.g47
 | .t53 l=>Qs (λm=>.t53 (l++m)) y.g53
 | .t59 l=>Qs (λm=>.t59 (l++m)) y.g59
 | .t79 l=>Qs (λm=>.t79 (l++m)) y.g79
 | .dG l=>Qs (λm=>.dG (l++m)) y.g81
 | .t83 l=>Qs (λm=>.t83 (l++m)) y.g83
 | .fV l=>Qs (λm=>.fV (l++m)) y.g94
 | .eU l=>Qs (λm=>.eU (l++m)) y.g99
 | .bZ l=>Qs (λm=>.bZ (l++m)) y.g118
 | .eH l=>Qs (λm=>.eH (l++m)) y.g123
 | .t206 l=>Qs (λm=>.t206 (l++m)) y.g206
 | .t213 l=>Qs (λm=>.t213 (l++m)) y.g213
 | .bR l=>Qs (λm=>.bR (l++m)) y.g217
 | .bU l=>Qs (λm=>.bU (l++m)) y.g223
 | .t228 l=>Qs (λm=>.t228 (l++m)) y.g228
 | .dP l=>Qs (λm=>.dP (l++m)) y.g266
 | .bT l=>Qs (λm=>.bT (l++m)) y.g272
 | .dK l=>Qs (λm=>.dK (l++m)) y.g275
 | .dZ l=>Qs (λm=>.dZ (l++m)) y.g280
 | .dY l=>Qs (λm=>.dY (l++m)) y.g282
def LX.sub(x:LX)(a b:Nat):LX:=match x with
 | .t3 l=>.t3 ((l.take b).drop a)
 | .t4 l=>.t4 ((l.take b).drop a)
 | .t9 l=>.t9 ((l.take b).drop a)
 | .t31 l=>.t31 ((l.take b).drop a)
 | .t36 l=>.t36 ((l.take b).drop a)
 | .t40 l=>.t40 ((l.take b).drop a)
 | .t44 l=>.t44 ((l.take b).drop a)
 | .t47 l=>.t47 ((l.take b).drop a)
 | .t53 l=>.t53 ((l.take b).drop a)
 | .t59 l=>.t59 ((l.take b).drop a)
 | .t79 l=>.t79 ((l.take b).drop a)
 | .dG l=>.dG ((l.take b).drop a)
 | .t83 l=>.t83 ((l.take b).drop a)
 | .fV l=>.fV ((l.take b).drop a)
 | .eU l=>.eU ((l.take b).drop a)
 | .bZ l=>.bZ ((l.take b).drop a)
 | .eH l=>.eH ((l.take b).drop a)
 | .t206 l=>.t206 ((l.take b).drop a)
 | .t213 l=>.t213 ((l.take b).drop a)
 | .bR l=>.bR ((l.take b).drop a)
 | .bU l=>.bU ((l.take b).drop a)
 | .t228 l=>.t228 ((l.take b).drop a)
 | .dP l=>.dP ((l.take b).drop a)
 | .bT l=>.bT ((l.take b).drop a)
 | .dK l=>.dK ((l.take b).drop a)
 | .dZ l=>.dZ ((l.take b).drop a)
 | .dY l=>.dY ((l.take b).drop a)
def LX.rep(x:LX)(n:Nat):LX:=match x with
 | .t3 l=>.t3 (List.replicate n (l.getD 0 default))
 | .t4 l=>.t4 (List.replicate n (l.getD 0 default))
 | .t9 l=>.t9 (List.replicate n (l.getD 0 default))
 | .t31 l=>.t31 (List.replicate n (l.getD 0 default))
 | .t36 l=>.t36 (List.replicate n (l.getD 0 default))
 | .t40 l=>.t40 (List.replicate n (l.getD 0 default))
 | .t44 l=>.t44 (List.replicate n (l.getD 0 default))
 | .t47 l=>.t47 (List.replicate n (l.getD 0 default))
 | .t53 l=>.t53 (List.replicate n (l.getD 0 default))
 | .t59 l=>.t59 (List.replicate n (l.getD 0 default))
 | .t79 l=>.t79 (List.replicate n (l.getD 0 default))
 | .dG l=>.dG (List.replicate n (l.getD 0 default))
 | .t83 l=>.t83 (List.replicate n (l.getD 0 default))
 | .fV l=>.fV (List.replicate n (l.getD 0 default))
 | .eU l=>.eU (List.replicate n (l.getD 0 default))
 | .bZ l=>.bZ (List.replicate n (l.getD 0 default))
 | .eH l=>.eH (List.replicate n (l.getD 0 default))
 | .t206 l=>.t206 (List.replicate n (l.getD 0 default))
 | .t213 l=>.t213 (List.replicate n (l.getD 0 default))
 | .bR l=>.bR (List.replicate n (l.getD 0 default))
 | .bU l=>.bU (List.replicate n (l.getD 0 default))
 | .t228 l=>.t228 (List.replicate n (l.getD 0 default))
 | .dP l=>.dP (List.replicate n (l.getD 0 default))
 | .bT l=>.bT (List.replicate n (l.getD 0 default))
 | .dK l=>.dK (List.replicate n (l.getD 0 default))
 | .dZ l=>.dZ (List.replicate n (l.getD 0 default))
 | .dY l=>.dY (List.replicate n (l.getD 0 default))
end Go.Proofs.YtgacplpjamkieaaGreat.Ev
namespace Go.Proofs.YtgacplpjamkieaaGreat.Ev
open Go
inductive PV where
 |any
 |val (v:Value)
 |agg (l:List PV)
 |aY (l:List PV)
 |sl (own:Bool) (e sz:Nat) (es:List (List PV))
 |aO (own:Bool) (x:LX)
 |ref (l:List PV)
 |loc (d off:Nat)
 |el (d sz i off:Nat)
 |vw (c:Bool) (d e sz n:Nat)
 |mp (d:Nat)
 |bA (f n:Nat) (caps:List PV)
 |bG (x:LX)
 |aL (gk gv:Bool) (ks vs:LX)
 |bV (es:Array MapEntry) (clock:Nat) (gk gv:Bool) (ks vs:LX)
 deriving Inhabited
def PV.dD:PV->PV
 | .sl _ e sz es=>.sl false e sz es
 | .aO _ x=>.aO false x
 |p=>p
def PV.view:PV->PV
 | .aY (p::r)=>.aY (p.dD::r)
 | .sl _ e sz es=>.sl false e sz es
 | .aO _ x=>.aO false x
 |p=>p
def PV.flat:PV->Bool
 | .any=>true
 | .val _=>true
 | .aO _ _=>true
 |_=>false
inductive PV.Le:PV->PV->Prop
 |view (p:PV):PV.Le p p.view
 |nil (own:Bool) (y:LX) (h:y.len=0):PV.Le (.val (.slice none 0 0)) (.aO own y)
def Hy(l:List PV)(off:Nat)(new:List PV):List PV:=match l,off,new with
 | [],_,_=> []
 |l,_,[]=>l
 |_::r,0,q::new=>q::Hy r 0 new
 |p::r,n+1,new=>p::Hy r n new
def Ah6:PV->PV->Option Bool
 | .val (.int k a),.val (.int k' b)=>match decide (k=k') with
  |true=>some (a == b)
  |false=>none
 | .val (.string a),.val (.string b)=>some (a == b)
 | .val (.bool a),.val (.bool b)=>some (a == b)
 |_,_=>none
def Auo:PV->List PV->PV->List PV->Option Bool
 |a,[],b,[]=>Ah6 a b
 |a,a'::l,b,b'::m=>match Ah6 a b,Auo a' l b' m with
  |some x,some y=>some (x && y)
  |_,_=>none
 |_,_,_,_=>none
def Z1:List PV->List PV->Option Bool
 |a::l,b::m=>Auo a l b m
 |_,_=>none
end Go.Proofs.YtgacplpjamkieaaGreat.Ev
namespace Go.Proofs.YtgacplpjamkieaaGreat.Ev
open Go
def Ars(l:List PV)(n:Nat):Bool:=match l,n with
 |_,0=>true
 |_::r,n+1=>Ars r n
 |_,_=>false
def A98(k:IntKind):PV->Option Int
 | .val (.int k' a)=>match decide (k'=k) with
  |true=>some a
  |false=>none
 |_=>none
def A2k:PV->Option Bool
 | .val (.bool a)=>some a
 |_=>none
def A99:PV->Option ByteArray
 | .val (.string a)=>some a
 |_=>none
inductive Qh:List PV->List PV->Prop
 |nil:Qh [] []
 |cons {p q:PV} {r s:List PV} (h:PV.Le p q) (hr:Qh r s):Qh (p::r) (q::s)
theorem Avr{k:IntKind}{p:PV}{a:Int}(h:A98 k p=some a):PV.Le p (.val (.int k a)):=by
 unfold A98 at h;split at h
 ·split at h
  ·rename_i hk;have:=of_decide_eq_true hk;subst this;injection h with h;subst h;exact .view _
  ·cases h
 ·cases h
theorem Aq5{p:PV}{a:Bool}(h:A2k p=some a):PV.Le p (.val (.bool a)):=by
 unfold A2k at h;split at h
 ·injection h with h;subst h;exact .view _
 ·cases h
theorem Avs{p:PV}{a:ByteArray}(h:A99 p=some a):PV.Le p (.val (.string a)):=by
 unfold A99 at h;split at h
 ·injection h with h;subst h;exact .view _
 ·cases h
def A39{α :Type}(d:List PV->Option α):List (List PV)->Option (List α)
 | []=>some []
 |r::rs=>match d r,A39 d rs with
  |some a,some l=>some (a::l)
  |_,_=>none
theorem Atw{α :Type} [Inhabited α]{d:List PV->Option α}{row: α->List PV}(hd:∀r a,d r=some a->Qh r (row a)):∀(rs:List (List PV)) (l:List α),A39 d rs=some l->
  l.length=rs.length/\∀(i:Nat) (r:List PV),rs[i]? =some r->Qh r (row (l.getD i default))
 | [],l,h=>by
  simp only[A39,Option.some.injEq]at h;subst h;exact⟨rfl,λi r hr=>by simp at hr⟩
 |r::rs,l,h=>by
  simp only[A39]at h;split at h
  ·rename_i a m h1 h2;injection h with h
   subst h;obtain⟨q1,q2⟩:=Atw hd rs m h2;refine⟨by simp[q1],λi x hx=>?_⟩;cases i with
   |zero=>simp at hx;subst hx;simpa using hd _ _ h1
   |succ i=>simpa using q2 i x (by simpa using hx)
  ·cases h
def Ari:List PV->Bool
 | []=>true
 |p::r=>match p.flat with
  |true=>Ari r
  |false=>false
theorem At6:∀(l:List PV),Ari l=true->∀p∈l,p.flat=true
 | [],_,p,h=>by cases h
 |q::r,h,p,hp=>by
  simp only[Ari]at h;cases hq:q.flat with
  |false=>rw[hq]at h;cases h
  |true=>
   rw[hq]at h;rcases List.mem_cons.1 hp with e|e
   ·subst e;exact hq
   ·exact At6 r h p e
structure CD (α :Type) where
 d:PV->Option α
 w: α->PV
 le:∀ {p a},d p=some a->PV.Le p (w a)
 fl:∀a,(w a).flat=true
def oI(k:IntKind):CD Int:=⟨A98 k,λx=>.val (.int k x),Avr,λ_=>rfl⟩
def oB:CD Bool:=⟨A2k,λx=>.val (.bool x),Aq5,λ_=>rfl⟩
def oT:CD ByteArray:=⟨A99,λx=>.val (.string x),Avs,λ_=>rfl⟩
class TL {α :Type} (K:List α->LX) (g:outParam (LX->Option (List α))) (u z:outParam Nat):Prop where
 e:∀l,(K l).e=u:=by intro l;rfl
 sz:∀l,(K l).sz=z:=by intro l;rfl
 len:∀l,(K l).len=l.length:=by intro l;rfl
 gk:∀y m,g y=some m->y=K m:=by intro y m h;cases y<;>first|(injection h with h;subst h;rfl)|cases h
 of:∀x,x.e=u->∃l,x=K l:=by intro x h;cases x<;>first|exact⟨_,rfl⟩|(simp[LX.e]at h)
def dL{α :Type}(g:LX->Option (List α)):PV->Option (List α)
 | .aO _ x=>g x
 | .val (.slice none 0 0)=>some []
 |_=>none
def oW{α :Type}(K:List α->LX){g:LX->Option (List α)}{e sz:Nat} [k:TL K g e sz]:CD (List α):=⟨dL g,λx=>.aO false (K x),λ{p a} h=>(by
 unfold dL at h;split at h
 ·rw[k.gk _ _ h];exact .view _
 ·injection h with h;subst h;exact .nil false _ (k.len _)
 ·cases h),λ_=>rfl⟩
structure RF (α :Type) where
 d:List PV->Option α
 w: α->List PV
 le:∀r a,d r=some a->Qh r (w a)
 fl:∀a,Ari (w a)=true
def CD.o{α :Type}(c:CD α):RF α :=⟨fun
 | [p]=>c.d p
 |_=>none,λa=> [c.w a],λr a h=>(by
 split at h
 ·exact .cons (c.le h) .nil
 ·cases h),λa=>by simp only[Ari,c.fl]⟩
def CD.c{α β :Type}(c:CD α)(f:RF β):RF (α×β):=⟨fun
 |p::r=>match c.d p,f.d r with
  |some a,some b=>some (a,b)
  |_,_=>none
 |_=>none,λa=>c.w a.1::f.w a.2,λr a h=>(by
 split at h
 ·split at h
  ·rename_i h1 h2;injection h with h;subst h
   exact .cons (c.le h1) (f.le _ _ h2)
  ·cases h
 ·cases h),λa=>by simp only[Ari,c.fl,f.fl]⟩
def RF.to{α β :Type}(f:RF α)(g: α->β)(w: β->List PV)(h:∀a,w (g a)=f.w a:=by intro a;rfl)(h2:∀a,Ari (w a)=true:=by intro a;rfl):RF β :=⟨λr=>match f.d r with
 |some a=>some (g a)
 |none=>none,w,λr a hh=>(by
 split at hh
 ·rename_i h1;injection hh with hh;subst hh
  rw[h];exact f.le _ _ h1
 ·cases hh),h2⟩
instance:TL LX.t3 LX.g3 3 1:= {}
instance:TL LX.t4 LX.g4 4 1:= {}
instance:TL LX.t9 LX.g9 9 1:= {}
instance:TL LX.t31 LX.g31 31 1:= {}
instance:TL LX.t36 LX.g36 36 13:= {}
instance:TL LX.t40 LX.g40 40 4:= {}
instance:TL LX.t44 LX.g44 44 1:= {}
instance:TL LX.t47 LX.g47 47 4:= {}
instance:TL LX.t53 LX.g53 53 4:= {}
instance:TL LX.t59 LX.g59 59 20:= {}
instance:TL LX.t79 LX.g79 79 1:= {}
instance:TL LX.dG LX.g81 81 2:= {}
instance:TL LX.t83 LX.g83 83 3:= {}
instance:TL LX.fV LX.g94 94 3:= {}
instance:TL LX.eU LX.g99 99 21:= {}
instance:TL LX.bZ LX.g118 118 3:= {}
instance:TL LX.eH LX.g123 123 14:= {}
instance:TL LX.t206 LX.g206 206 17:= {}
instance:TL LX.t213 LX.g213 213 3:= {}
instance:TL LX.bR LX.g217 217 3:= {}
instance:TL LX.bU LX.g223 223 5:= {}
instance:TL LX.t228 LX.g228 228 2:= {}
instance:TL LX.dP LX.g266 266 2:= {}
instance:TL LX.bT LX.g272 272 3:= {}
instance:TL LX.dK LX.g275 275 3:= {}
instance:TL LX.dZ LX.g280 280 2:= {}
instance:TL LX.dY LX.g282 282 5:= {}
def Bi(x:Al):List PV:= [.val (.string x.aD),.aO false (.t83 x.aK),.aO false (.t36 x.aU),.aO false (.bZ x.bJ)]
def Awu:RF Al:=RF.to (oT.c ((oW LX.t83).c ((oW LX.t36).c ((oW LX.bZ).o)))) (λ(a0,a1,a2,a3)=>.mk a0 a1 a2 a3) Bi
def Af(x:Ab):List PV:= [.val (.string x.aD),.aO false (.t83 x.aX),.aO false (.t206 x.aI),.aO false (.t213 x.aJ),.aO false (.bR x.aZ),.aO false (.t9 x.aV),.aO false (.t9 x.aR),.aO false (.t9 x.aS),.aO false (.t9 x.aW),.aO false (.t9 x.aT),.aO false (.t47 x.aG),.aO false (.bU x.bB),.aO false (.bT x.Laws)]
def Lu:RF Ab:=RF.to (oT.c ((oW LX.t83).c ((oW LX.t206).c ((oW LX.t213).c ((oW LX.bR).c ((oW LX.t9).c ((oW LX.t9).c ((oW LX.t9).c ((oW LX.t9).c ((oW LX.t9).c ((oW LX.t47).c ((oW LX.bU).c ((oW LX.bT).o))))))))))))) (λ(a0,a1,a2,a3,a4,a5,a6,a7,a8,a9,a10,a11,a12)=>.mk a0 a1 a2 a3 a4 a5 a6 a7 a8 a9 a10 a11 a12) Af
def Aq7(x:Gi):List PV:= [.val (.string x.aD),.val (.int .i64 x.aK),.val (.int .i64 x.gQ),.aO false (.t59 x.Instrs)]
def Zl:RF Gi:=RF.to (oT.c ((oI .i64).c ((oI .i64).c ((oW LX.t59).o)))) (λ(a0,a1,a2,a3)=>.mk a0 a1 a2 a3) Aq7
def B7(x:Am):List PV:= [.val (.string x.aD),.aO false (.dG x.aK),.aO false (.dG x.aP),.aO false (.eU x.cK)]
def Na:RF Am:=RF.to (oT.c ((oW LX.dG).c ((oW LX.dG).c ((oW LX.eU).o)))) (λ(a0,a1,a2,a3)=>.mk a0 a1 a2 a3) B7
def Bm(x:Aa):List PV:= [.val (.int .i64 x.Op),.val (.string x.aD),.val (.int .i64 x.N),.aO false (.t53 x.aQ)]
def U3:RF Aa:=RF.to ((oI .i64).c (oT.c ((oI .i64).c ((oW LX.t53).o)))) (λ(a0,a1,a2,a3)=>.mk a0 a1 a2 a3) Bm
def Aq8(x:Ah):List PV:= [.val (.int .i64 x.Op),.val (.int .i64 x.A),.val (.int .i64 x.B),.val (.int .i64 x.N),.aO false (.t3 x.bN),.aO false (.t3 x.bI)]
def Azg:RF Ah:=RF.to ((oI .i64).c ((oI .i64).c ((oI .i64).c ((oI .i64).c ((oW LX.t3).c ((oW LX.t3).o)))))) (λ(a0,a1,a2,a3,a4,a5)=>.mk a0 a1 a2 a3 a4 a5) Aq8
def An0(x:Ad):List PV:= [.val (.int .i64 x.Op),.val (.int .i64 x.A),.val (.int .i64 x.B),.val (.int .i64 x.C),.val (.int .i64 x.E.Op),.val (.string x.E.aD),.val (.int .i64 x.E.N),.aO false (.t53 x.E.aQ),.val (.int .i64 x.F.Op),.val (.string x.F.aD),.val (.int .i64 x.F.N),.aO false (.t53 x.F.aQ),.aO false (.t53 x.bM),.val (.int .i64 x.bW.Op),.val (.int .i64 x.bW.A),.val (.int .i64 x.bW.B),.val (.int .i64 x.bW.N),.aO false (.t3 x.bW.bN),.aO false (.t3 x.bW.bI),.val (.bool x.cZ)]
def Wy:RF Ad:=RF.to ((oI .i64).c ((oI .i64).c ((oI .i64).c ((oI .i64).c ((oI .i64).c (oT.c ((oI .i64).c ((oW LX.t53).c ((oI .i64).c (oT.c ((oI .i64).c ((oW LX.t53).c ((oW LX.t53).c ((oI .i64).c ((oI .i64).c ((oI .i64).c ((oI .i64).c ((oW LX.t3).c ((oW LX.t3).c oB.o))))))))))))))))))) (λ(a0,a1,a2,a3,a4,a5,a6,a7,a8,a9,a10,a11,a12,a13,a14,a15,a16,a17,a18,a19)=>.mk a0 a1 a2 a3 (.mk a4 a5 a6 a7) (.mk a8 a9 a10 a11) a12 (.mk a13 a14 a15 a16 a17 a18) a19) An0
def Nq(x:Ao):List PV:= [.aO false (.t83 x.aK),.aO false (.dG x.aP),.val (.string x.aF.aD),.aO false (.t83 x.aF.aX),.aO false (.t206 x.aF.aI),.aO false (.t213 x.aF.aJ),.aO false (.bR x.aF.aZ),.aO false (.t9 x.aF.aV),.aO false (.t9 x.aF.aR),.aO false (.t9 x.aF.aS),.aO false (.t9 x.aF.aW),.aO false (.t9 x.aF.aT),.aO false (.t47 x.aF.aG),.aO false (.bU x.aF.bB),.aO false (.bT x.aF.Laws)]
def A1h:RF Ao:=RF.to ((oW LX.t83).c ((oW LX.dG).c (oT.c ((oW LX.t83).c ((oW LX.t206).c ((oW LX.t213).c ((oW LX.bR).c ((oW LX.t9).c ((oW LX.t9).c ((oW LX.t9).c ((oW LX.t9).c ((oW LX.t9).c ((oW LX.t47).c ((oW LX.bU).c ((oW LX.bT).o))))))))))))))) (λ(a0,a1,a2,a3,a4,a5,a6,a7,a8,a9,a10,a11,a12,a13,a14)=>.mk a0 a1 (.mk a2 a3 a4 a5 a6 a7 a8 a9 a10 a11 a12 a13 a14)) Nq
def M3(x:Aw):List PV:= [.val (.string x.aD),.val (.int .i64 x.bL)]
def Wx:RF Aw:=RF.to (oT.c ((oI .i64).o)) (λ(a0,a1)=>.mk a0 a1) M3
def Bz(x:Ag):List PV:= [.val (.string x.aD),.val (.int .i64 x.bL),.val (.int .i64 x.N)]
def Wz:RF Ag:=RF.to (oT.c ((oI .i64).c ((oI .i64).o))) (λ(a0,a1,a2)=>.mk a0 a1 a2) Bz
def A4b(x:Ap2):List PV:= [.val (.int .i64 x.fD),.val (.int .i64 x.To),.val (.int .i64 x.fT)]
def Adi:RF Ap2:=RF.to ((oI .i64).c ((oI .i64).c ((oI .i64).o))) (λ(a0,a1,a2)=>.mk a0 a1 a2) A4b
def Ea(x:Ae):List PV:= [.val (.int .i64 x.Op),.val (.string x.aD),.val (.string x.Of),.val (.int .i64 x.E.Op),.val (.string x.E.aD),.val (.int .i64 x.E.N),.aO false (.t53 x.E.aQ),.val (.int .i64 x.F.Op),.val (.string x.F.aD),.val (.int .i64 x.F.N),.aO false (.t53 x.F.aQ),.aO false (.t53 x.bM),.val (.int .i64 x.bW.Op),.val (.int .i64 x.bW.A),.val (.int .i64 x.bW.B),.val (.int .i64 x.bW.N),.aO false (.t3 x.bW.bN),.aO false (.t3 x.bW.bI),.val (.bool x.cZ),.aO false (.eU x.cK),.aO false (.eU x.dM)]
def U4:RF Ae:=RF.to ((oI .i64).c (oT.c (oT.c ((oI .i64).c (oT.c ((oI .i64).c ((oW LX.t53).c ((oI .i64).c (oT.c ((oI .i64).c ((oW LX.t53).c ((oW LX.t53).c ((oI .i64).c ((oI .i64).c ((oI .i64).c ((oI .i64).c ((oW LX.t3).c ((oW LX.t3).c (oB.c ((oW LX.eU).c ((oW LX.eU).o))))))))))))))))))))) (λ(a0,a1,a2,a3,a4,a5,a6,a7,a8,a9,a10,a11,a12,a13,a14,a15,a16,a17,a18,a19,a20)=>.mk a0 a1 a2 (.mk a3 a4 a5 a6) (.mk a7 a8 a9 a10) a11 (.mk a12 a13 a14 a15 a16 a17) a18 a19 a20) Ea
def Bc(x:Ac):List PV:= [.val (.string x.bK.aD),.aO false (.t83 x.bK.aK),.aO false (.t36 x.bK.aU),.aO false (.bZ x.bK.bJ),.aO false (.t83 x.aA.aK),.aO false (.dG x.aA.aP),.val (.string x.aA.aF.aD),.aO false (.t83 x.aA.aF.aX),.aO false (.t206 x.aA.aF.aI),.aO false (.t213 x.aA.aF.aJ),.aO false (.bR x.aA.aF.aZ),.aO false (.t9 x.aA.aF.aV),.aO false (.t9 x.aA.aF.aR),.aO false (.t9 x.aA.aF.aS),.aO false (.t9 x.aA.aF.aW),.aO false (.t9 x.aA.aF.aT),.aO false (.t47 x.aA.aF.aG),.aO false (.bU x.aA.aF.bB),.aO false (.bT x.aA.aF.Laws),.val (.int .i64 x.bQ)]
def Aar:RF Ac:=RF.to (oT.c ((oW LX.t83).c ((oW LX.t36).c ((oW LX.bZ).c ((oW LX.t83).c ((oW LX.dG).c (oT.c ((oW LX.t83).c ((oW LX.t206).c ((oW LX.t213).c ((oW LX.bR).c ((oW LX.t9).c ((oW LX.t9).c ((oW LX.t9).c ((oW LX.t9).c ((oW LX.t9).c ((oW LX.t47).c ((oW LX.bU).c ((oW LX.bT).c ((oI .i64).o)))))))))))))))))))) (λ(a0,a1,a2,a3,a4,a5,a6,a7,a8,a9,a10,a11,a12,a13,a14,a15,a16,a17,a18,a19)=>.mk (.mk a0 a1 a2 a3) (.mk a4 a5 (.mk a6 a7 a8 a9 a10 a11 a12 a13 a14 a15 a16 a17 a18)) a19) Bc
def Ld(x:Bs):List PV:= [.val (.string x.fD),.val (.string x.To),.val (.int .i64 x.fT)]
def Zm:RF Bs:=RF.to (oT.c (oT.c ((oI .i64).o))) (λ(a0,a1,a2)=>.mk a0 a1 a2) Ld
def Aq9(x:Wp):List PV:= [.val (.string x.fA.aD),.aO false (.t83 x.fA.aX),.aO false (.t206 x.fA.aI),.aO false (.t213 x.fA.aJ),.aO false (.bR x.fA.aZ),.aO false (.t9 x.fA.aV),.aO false (.t9 x.fA.aR),.aO false (.t9 x.fA.aS),.aO false (.t9 x.fA.aW),.aO false (.t9 x.fA.aT),.aO false (.t47 x.fA.aG),.aO false (.bU x.fA.bB),.aO false (.bT x.fA.Laws),.aO false (.t40 x.aG)]
def Px:RF Wp:=RF.to (oT.c ((oW LX.t83).c ((oW LX.t206).c ((oW LX.t213).c ((oW LX.bR).c ((oW LX.t9).c ((oW LX.t9).c ((oW LX.t9).c ((oW LX.t9).c ((oW LX.t9).c ((oW LX.t47).c ((oW LX.bU).c ((oW LX.bT).c ((oW LX.t40).o)))))))))))))) (λ(a0,a1,a2,a3,a4,a5,a6,a7,a8,a9,a10,a11,a12,a13)=>.mk (.mk a0 a1 a2 a3 a4 a5 a6 a7 a8 a9 a10 a11 a12) a13) Aq9
def Ey(x:Ap):List PV:= [.val (.string x.bK.aD),.aO false (.t83 x.bK.aK),.aO false (.t36 x.bK.aU),.aO false (.bZ x.bK.bJ),.val (.int .i64 x.u_site),.aO false (.t83 x.aA.aK),.aO false (.dG x.aA.aP),.val (.string x.aA.aF.aD),.aO false (.t83 x.aA.aF.aX),.aO false (.t206 x.aA.aF.aI),.aO false (.t213 x.aA.aF.aJ),.aO false (.bR x.aA.aF.aZ),.aO false (.t9 x.aA.aF.aV),.aO false (.t9 x.aA.aF.aR),.aO false (.t9 x.aA.aF.aS),.aO false (.t9 x.aA.aF.aW),.aO false (.t9 x.aA.aF.aT),.aO false (.t47 x.aA.aF.aG),.aO false (.bU x.aA.aF.bB),.aO false (.bT x.aA.aF.Laws)]
def Aky:RF Ap:=RF.to (oT.c ((oW LX.t83).c ((oW LX.t36).c ((oW LX.bZ).c ((oI .i64).c ((oW LX.t83).c ((oW LX.dG).c (oT.c ((oW LX.t83).c ((oW LX.t206).c ((oW LX.t213).c ((oW LX.bR).c ((oW LX.t9).c ((oW LX.t9).c ((oW LX.t9).c ((oW LX.t9).c ((oW LX.t9).c ((oW LX.t47).c ((oW LX.bU).c ((oW LX.bT).o)))))))))))))))))))) (λ(a0,a1,a2,a3,a4,a5,a6,a7,a8,a9,a10,a11,a12,a13,a14,a15,a16,a17,a18,a19)=>.mk (.mk a0 a1 a2 a3) a4 (.mk a5 a6 (.mk a7 a8 a9 a10 a11 a12 a13 a14 a15 a16 a17 a18 a19))) Ey
def Ax4(x:Bg):List PV:= [.val (.bool x.bE)]
def Awv:RF Bg:=RF.to (oB.o) (λa0=>.mk a0) Ax4
def Anz(x:Qi):List PV:= [.val (.string x.dO),.val (.int .i64 x.Up.Op),.val (.int .i64 x.Up.A),.val (.int .i64 x.Up.B),.val (.int .i64 x.Up.N),.aO false (.t3 x.Up.bN),.aO false (.t3 x.Up.bI),.val (.int .i64 x.Down.Op),.val (.int .i64 x.Down.A),.val (.int .i64 x.Down.B),.val (.int .i64 x.Down.N),.aO false (.t3 x.Down.bN),.aO false (.t3 x.Down.bI)]
def Awt:RF Qi:=RF.to (oT.c ((oI .i64).c ((oI .i64).c ((oI .i64).c ((oI .i64).c ((oW LX.t3).c ((oW LX.t3).c ((oI .i64).c ((oI .i64).c ((oI .i64).c ((oI .i64).c ((oW LX.t3).c ((oW LX.t3).o))))))))))))) (λ(a0,a1,a2,a3,a4,a5,a6,a7,a8,a9,a10,a11,a12)=>.mk a0 (.mk a1 a2 a3 a4 a5 a6) (.mk a7 a8 a9 a10 a11 a12)) Anz
def Bt(x:Ai):List PV:= [.val (.string x.aD),.val (.int .i64 x.Units),.aO false (.dP x.cO),.val (.int .i64 x.fJ),.val (.string x.dA.dO),.val (.int .i64 x.dA.Up.Op),.val (.int .i64 x.dA.Up.A),.val (.int .i64 x.dA.Up.B),.val (.int .i64 x.dA.Up.N),.aO false (.t3 x.dA.Up.bN),.aO false (.t3 x.dA.Up.bI),.val (.int .i64 x.dA.Down.Op),.val (.int .i64 x.dA.Down.A),.val (.int .i64 x.dA.Down.B),.val (.int .i64 x.dA.Down.N),.aO false (.t3 x.dA.Down.bN),.aO false (.t3 x.dA.Down.bI)]
def Ir:RF Ai:=RF.to (oT.c ((oI .i64).c ((oW LX.dP).c ((oI .i64).c (oT.c ((oI .i64).c ((oI .i64).c ((oI .i64).c ((oI .i64).c ((oW LX.t3).c ((oW LX.t3).c ((oI .i64).c ((oI .i64).c ((oI .i64).c ((oI .i64).c ((oW LX.t3).c ((oW LX.t3).o))))))))))))))))) (λ(a0,a1,a2,a3,a4,a5,a6,a7,a8,a9,a10,a11,a12,a13,a14,a15,a16)=>.mk a0 a1 a2 a3 (.mk a4 (.mk a5 a6 a7 a8 a9 a10) (.mk a11 a12 a13 a14 a15 a16))) Bt
def Cc(x:Ak):List PV:= [.val (.string x.aD),.val (.int .i64 x.Room),.val (.int .i64 x.fE)]
def N3:RF Ak:=RF.to (oT.c ((oI .i64).c ((oI .i64).o))) (λ(a0,a1,a2)=>.mk a0 a1 a2) Cc
def Cj(x:Av):List PV:= [.val (.string x.aD),.val (.int .i64 x.Length),.val (.int .i64 x.Step)]
def Pw:RF Av:=RF.to (oT.c ((oI .i64).c ((oI .i64).o))) (λ(a0,a1,a2)=>.mk a0 a1 a2) Cj
def Af7(x:Bq):List PV:= [.val (.string x.dW),.aO false (.t3 x.bM),.val (.int .i64 x.At),.val (.int .i64 x.Every),.val (.int .i64 x.Until)]
def Sc:RF Bq:=RF.to (oT.c ((oW LX.t3).c ((oI .i64).c ((oI .i64).c ((oI .i64).o))))) (λ(a0,a1,a2,a3,a4)=>.mk a0 a1 a2 a3 a4) Af7
def Alj(x:Br):List PV:= [.val (.string x.a0),.val (.string x.a1)]
def Ml:RF Br:=RF.to (oT.c oT.o) (λ(a0,a1)=>.mk a0 a1) Alj
def Tj(x:Bu):List PV:= [.val (.bool x.dI),.val (.bool x.fP),.val (.bool x.gH),.val (.bool x.gN),.val (.bool x.fG),.val (.bool x.fB),.val (.bool x.dU),.val (.bool x.dS),.val (.bool x.dF)]
def Azh:RF Bu:=RF.to (oB.c (oB.c (oB.c (oB.c (oB.c (oB.c (oB.c (oB.c oB.o)))))))) (λ(a0,a1,a2,a3,a4,a5,a6,a7,a8)=>.mk a0 a1 a2 a3 a4 a5 a6 a7 a8) Tj
def Aj2(x:P7):List PV:= [.val (.int .i64 x.At),.val (.int .i64 x.Units)]
def Ui:RF P7:=RF.to ((oI .i64).c ((oI .i64).o)) (λ(a0,a1)=>.mk a0 a1) Aj2
def Db(x:Bh):List PV:= [.val (.string x.aD),.aO false (.dK x.eX),.val (.int .i64 x.Total)]
def Adj:RF Bh:=RF.to (oT.c ((oW LX.dK).c ((oI .i64).o))) (λ(a0,a1,a2)=>.mk a0 a1 a2) Db
def Cy(x:Cb):List PV:= [.val (.int .i64 x.bP),.val (.string x.bF),.val (.string x.aD)]
def U5:RF Cb:=RF.to ((oI .i64).c (oT.c oT.o)) (λ(a0,a1,a2)=>.mk a0 a1 a2) Cy
def Avt(x:El):List PV:= [.val (.bool x.gK),.val (.string x.dI)]
def Uh:RF El:=RF.to (oB.c oT.o) (λ(a0,a1)=>.mk a0 a1) Avt
def A4a(x:Kl):List PV:= [.val (.bool x.gK),.val (.int .i64 x.gH.Op),.val (.string x.gH.aD),.val (.int .i64 x.gH.N),.aO false (.t53 x.gH.aQ)]
def Adh:RF Kl:=RF.to (oB.c ((oI .i64).c (oT.c ((oI .i64).c ((oW LX.t53).o))))) (λ(a0,a1,a2,a3,a4)=>.mk a0 (.mk a1 a2 a3 a4)) A4a
def lT{α :Type}(K:List α->LX)(f:RF α)(rs:List (List PV)):Option LX:=Qs K (A39 f.d rs)
def sT{α :Type} [Inhabited α](K:List α->LX)(f:RF α)(l:List α)(i off:Nat)(c:List PV):Option LX:=Boq (Ars (f.w (l.getD i default)) (off+c.length)) (λa=>K (l.set i a)) (f.d (Hy (f.w (l.getD i default)) off c))
def RF.r{α :Type} [Inhabited α](f:RF α)(l:List α)(i:Nat):List PV:=f.w (l.getD i default)
def LX.row(x:LX)(i:Nat):List PV:=match x with
 | .t3 l=>(oI .i64).o.r l i
 | .t4 l=>oB.o.r l i
 | .t9 l=>oT.o.r l i
 | .t31 l=>(oW LX.t9).o.r l i
 | .t36 l=>Lu.r l i
 | .t40 l=>Zl.r l i
 | .t44 l=>(oW LX.dG).o.r l i
 | .t47 l=>Na.r l i
 | .t53 l=>U3.r l i
 | .t59 l=>Wy.r l i
 | .t79 l=>(oI .i64).o.r l i
 | .dG l=>Wx.r l i
 | .t83 l=>Wz.r l i
 | .fV l=>Adi.r l i
 | .eU l=>U4.r l i
 | .bZ l=>Zm.r l i
 | .eH l=>Px.r l i
 | .t206 l=>Ir.r l i
 | .t213 l=>N3.r l i
 | .bR l=>Pw.r l i
 | .bU l=>Sc.r l i
 | .t228 l=>Ml.r l i
 | .dP l=>Ui.r l i
 | .bT l=>Adj.r l i
 | .dK l=>U5.r l i
 | .dZ l=>Uh.r l i
 | .dY l=>Adh.r l i
def LX.set(x:LX)(i off:Nat)(c:List PV):Option LX:=match x with
 | .t3 l=>sT .t3 (oI .i64).o l i off c
 | .t4 l=>sT .t4 oB.o l i off c
 | .t9 l=>sT .t9 oT.o l i off c
 | .t31 l=>sT .t31 (oW LX.t9).o l i off c
 | .t36 l=>sT .t36 Lu l i off c
 | .t40 l=>sT .t40 Zl l i off c
 | .t44 l=>sT .t44 (oW LX.dG).o l i off c
 | .t47 l=>sT .t47 Na l i off c
 | .t53 l=>sT .t53 U3 l i off c
 | .t59 l=>sT .t59 Wy l i off c
 | .t79 l=>sT .t79 (oI .i64).o l i off c
 | .dG l=>sT .dG Wx l i off c
 | .t83 l=>sT .t83 Wz l i off c
 | .fV l=>sT .fV Adi l i off c
 | .eU l=>sT .eU U4 l i off c
 | .bZ l=>sT .bZ Zm l i off c
 | .eH l=>sT .eH Px l i off c
 | .t206 l=>sT .t206 Ir l i off c
 | .t213 l=>sT .t213 N3 l i off c
 | .bR l=>sT .bR Pw l i off c
 | .bU l=>sT .bU Sc l i off c
 | .t228 l=>sT .t228 Ml l i off c
 | .dP l=>sT .dP Ui l i off c
 | .bT l=>sT .bT Adj l i off c
 | .dK l=>sT .dK U5 l i off c
 | .dZ l=>sT .dZ Uh l i off c
 | .dY l=>sT .dY Adh l i off c
def tbl:List (Nat×(List (List PV)->Option LX)):= [(3,lT .t3 (oI .i64).o),(4,lT .t4 oB.o),(9,lT .t9 oT.o),(31,lT .t31 (oW LX.t9).o),(36,lT .t36 Lu),(40,lT .t40 Zl),(44,lT .t44 (oW LX.dG).o),(47,lT .t47 Na),(53,lT .t53 U3),(59,lT .t59 Wy),(79,lT .t79 (oI .i64).o),(81,lT .dG Wx),(83,lT .t83 Wz),(94,lT .fV Adi),(99,lT .eU U4),(118,lT .bZ Zm),(123,lT .eH Px),(206,lT .t206 Ir),(213,lT .t213 N3),(217,lT .bR Pw),(223,lT .bU Sc),(228,lT .t228 Ml),(266,lT .dP Ui),(272,lT .bT Adj),(275,lT .dK U5),(280,lT .dZ Uh),(282,lT .dY Adh)]
def lkT:List (Nat×(List (List PV)->Option LX))->Nat->List (List PV)->Option LX
 | [],_,_=>none
 |(a,f)::r,e,rs=>match Nat.beq e a with
  |true=>f rs
  |false=>lkT r e rs
def LX.lit(e:Nat)(rs:List (List PV)):Option LX:=lkT tbl e rs
def LX.nil(e:Nat):Option LX:=lkT tbl e []
class TG {α :Type} [Inhabited α] (K:List α->LX) (f:outParam (RF α)):Prop where
 row:∀l i,(K l).row i=f.w (l.getD i default):=by intro l i;rfl
 sz:∀a l,(f.w a).length=(K l).sz:=by intro a l;rfl
instance:TG LX.t3 (oI .i64).o:= {}
instance:TG LX.t4 oB.o:= {}
instance:TG LX.t9 oT.o:= {}
instance:TG LX.t31 (oW LX.t9).o:= {}
instance:TG LX.t36 Lu:= {}
instance:TG LX.t40 Zl:= {}
instance:TG LX.t44 (oW LX.dG).o:= {}
instance:TG LX.t47 Na:= {}
instance:TG LX.t53 U3:= {}
instance:TG LX.t59 Wy:= {}
instance:TG LX.t79 (oI .i64).o:= {}
instance:TG LX.dG Wx:= {}
instance:TG LX.t83 Wz:= {}
instance:TG LX.fV Adi:= {}
instance:TG LX.eU U4:= {}
instance:TG LX.bZ Zm:= {}
instance:TG LX.eH Px:= {}
instance:TG LX.t206 Ir:= {}
instance:TG LX.t213 N3:= {}
instance:TG LX.bR Pw:= {}
instance:TG LX.bU Sc:= {}
instance:TG LX.t228 Ml:= {}
instance:TG LX.dP Ui:= {}
instance:TG LX.bT Adj:= {}
instance:TG LX.dK U5:= {}
instance:TG LX.dZ Uh:= {}
instance:TG LX.dY Adh:= {}
def LX.find(x:LX)(c:List PV):Option (Option Nat):=match x,c with
 | .t3 l,[.val (.int k0 a0)]=>match decide (k0=.i64) with
  |true=>some (l.findIdx? λb=>a0 == b)
  |_=>none
 | .t4 l,[.val (.bool a0)]=>some (l.findIdx? λb=>a0 == b)
 | .t9 l,[.val (.string a0)]=>some (l.findIdx? λb=>a0 == b)
 | .t79 l,[.val (.int k0 a0)]=>match decide (k0=.i64) with
  |true=>some (l.findIdx? λb=>a0 == b)
  |_=>none
 | .t228 l,[.val (.string a0),.val (.string a1)]=>some (l.findIdx? λb=>(a0 == b.a0 && (a1 == b.a1)))
 |_,_=>none
def LX.push(x:LX)(c:List PV):Option LX:=match LX.lit x.e [c] with
 |some y=>x.cat y
 |none=>none
theorem A0s{α :Type} [Inhabited α](l m:List α)(i:Nat)(h:i<l.length):(l++m).getD i default=l.getD i default:=by
 simp[List.getD,List.getElem?_append_left h]
theorem A0t{α :Type} [Inhabited α](l m:List α)(i:Nat):(l++m).getD (l.length+i) default=m.getD i default:=by
 simp[List.getD,List.getElem?_append_right]
theorem A6o{α :Type} [Inhabited α](l:List α)(a b i:Nat)(h1:b<=l.length)(h2:i<b-a):((l.take b).drop a).getD i default=l.getD (a+i) default:=by
 simp only[List.getD_eq_getElem?_getD,List.getElem?_drop,List.getElem?_take];rw[if_pos (by omega)]
theorem A6n{α :Type} [Inhabited α](n i:Nat)(a: α)(h:i<n):(List.replicate n a).getD i default=a:=by
 simp[List.getD_eq_getElem?_getD,List.getElem?_replicate,h]
theorem Ayg{α :Type} [Inhabited α](l:List α)(i:Nat)(a: α)(h:i<l.length):(l.set i a).getD i default=a:=by
 simp[List.getD_eq_getElem?_getD,h]
theorem Ayh{α :Type} [Inhabited α](l:List α)(i j:Nat)(a: α)(h:j≠i):(l.set i a).getD j default=l.getD j default:=by
 simp[List.getD_eq_getElem?_getD,List.getElem?_set_ne (λe=>h e.symm)]
theorem Rx{α :Type} [Inhabited α](l:List α)(i:Nat)(h:i<l.length):l.getD i default=l[i]:=by
 simp[List.getD_eq_getElem?_getD,h]
theorem A04(l:List PV):∀n,Ars l n=true↔n<=l.length:=by
 induction l with
 |nil=>intro n;cases n<;>simp[Ars]
 |cons p r ih=>intro n;cases n<;>simp[Ars,ih]
section
variable {α :Type} [Inhabited α] {K:List α->LX} {f:RF α} {g:LX->Option (List α)} {e sz:Nat}
theorem Bsc [q:TG K f](l:List α)(i:Nat):∀p∈(K l).row i,p.flat=true:=At6 _ (by rw[q.row];exact f.fl _)
theorem Bsd [q:TG K f](l:List α)(i:Nat):((K l).row i).length=(K l).sz:=by rw[q.row];exact q.sz _ _
def A5q(p:Nat×(List (List PV)->Option LX)):Prop:=∀rs x,p.2 rs=some x->x.e=p.1/\x.len=rs.length/\∀(i:Nat) (r:List PV),rs[i]? =some r->Qh r (x.row i)
theorem Br4 [k:TL K g e sz] [q:TG K f]:A5q (e,lT K f):=by
 intro rs x h;simp only[lT,Qs]at h;cases hl:A39 f.d rs with
 |none=>rw[hl]at h;cases h
 |some l=>
  rw[hl]at h;injection h with h;subst h
  obtain⟨q1,q2⟩:=Atw f.le rs l hl;exact⟨k.e _,by rw[k.len];exact q1,λi r hr=>by rw[q.row];exact q2 i r hr⟩
theorem Bru [k:TL K g e sz] [q:TG K f]{y z:LX}{l:List α}(h:Qs (λm=>K (l++m)) (g y)=some z):y.e=(K l).e/\z.e=(K l).e/\y.sz=(K l).sz/\z.sz=(K l).sz/\z.len=(K l).len+y.len/\(∀i,i<(K l).len->z.row i=(K l).row i)/\(∀i,z.row ((K l).len+i)=y.row i):=by
 cases hg:g y with
 |none=>rw[hg]at h;cases h
 |some m=>
  rw[hg]at h;injection h with h;subst h
  rw[k.gk y m hg];simp only[k.e,k.sz,k.len,q.row,List.length_append,true_and];exact⟨λi hi=>by rw[A0s l m i hi],λi=>by rw[A0t]⟩
theorem Bsw [k:TL K g e sz] [q:TG K f](l:List α)(a b:Nat)(h:b<=(K l).len):(K ((l.take b).drop a)).e=(K l).e/\(K ((l.take b).drop a)).sz=(K l).sz/\(K ((l.take b).drop a)).len=b-a/\∀i,i<b-a->(K ((l.take b).drop a)).row i=(K l).row (a+i):=by
 simp only[k.e,k.sz,k.len,q.row,true_and]at h ⊢;exact⟨by simp;omega,λi hi=>by rw[A6o l a b i h hi]⟩
theorem Bsa [k:TL K g e sz] [q:TG K f](l:List α)(n:Nat):(K (List.replicate n (l.getD 0 default))).e=(K l).e/\(K (List.replicate n (l.getD 0 default))).sz=(K l).sz/\(K (List.replicate n (l.getD 0 default))).len=n/\∀i,i<n->(K (List.replicate n (l.getD 0 default))).row i=(K l).row 0:=by
 simp only[k.e,k.sz,k.len,q.row,true_and];exact⟨List.length_replicate,λi hi=>by rw[A6n n i _ hi]⟩
theorem Bsv [k:TL K g e sz] [q:TG K f]{i off:Nat}{c:List PV}{l:List α}{y:LX}(h:sT K f l i off c=some y):y.e=(K l).e/\y.sz=(K l).sz/\y.len=(K l).len/\off+c.length<=(K l).sz/\(i<(K l).len->Qh (Hy ((K l).row i) off c) (y.row i))/\∀j,j≠i->y.row j=(K l).row j:=by
 unfold sT Boq at h;split at h
 ·rename_i a h1 h2;injection h with h;subst h
  simp only[k.e,k.sz,k.len,q.row,true_and];refine⟨List.length_set,by rw[<-k.sz l,<-q.sz (l.getD i default) l];exact(A04 _ _).1 h1,λhi=>?_,λj hj=>?_⟩
  ·rw[Ayg l i a hi];exact f.le _ _ h2
  ·rw[Ayh l i j a hj]
 ·cases h
end
theorem LX.row_len(x:LX)(i:Nat):(x.row i).length=x.sz:=by cases x<;>exact Bsd _ _
theorem LX.row_flat(x:LX)(i:Nat):∀p∈x.row i,p.flat=true:=by cases x<;>exact Bsc _ _
def Bfm:List (Nat×(List (List PV)->Option LX))->Prop
 | []=>True
 |p::r=>A5q p/\Bfm r
theorem Bpj:Bfm tbl:=by
 unfold tbl
 repeat (first|exact trivial|refine⟨Br4,?_⟩)
theorem A7b:∀(l:List (Nat×(List (List PV)->Option LX))),Bfm l->∀e,A5q (e,lkT l e)
 | [],_,e,rs,x,h=>by cases h
 |(a,f)::r,hl,e,rs,x,h=>by
  change (match Nat.beq e a with
   |true=>f rs
   |false=>lkT r e rs)=some x at h
  cases hb:Nat.beq e a with
  |true=>
   rw[hb]at h;rw[Nat.eq_of_beq_eq_true hb];exact hl.1 rs x h
  |false=>
   rw[hb]at h;exact A7b r hl.2 e rs x h
theorem LX.lit_spec(e:Nat)(rs:List (List PV))(x:LX)(h:LX.lit e rs=some x):x.e=e/\x.len=rs.length/\∀(i:Nat) (r:List PV),rs[i]? =some r->Qh r (x.row i):=A7b tbl Bpj e rs x h
theorem LX.nil_spec(e:Nat)(x:LX)(h:LX.nil e=some x):x.e=e/\x.len=0:=⟨(LX.lit_spec e [] x h).1,(LX.lit_spec e [] x h).2.1⟩
theorem LX.cat_spec(x y z:LX)(h:x.cat y=some z):y.e=x.e/\z.e=x.e/\y.sz=x.sz/\z.sz=x.sz/\z.len=x.len+y.len/\(∀i,i<x.len->z.row i=x.row i)/\(∀i,z.row (x.len+i)=y.row i):=by cases x<;>exact Bru h
theorem LX.sub_spec(x:LX)(a b:Nat)(h:b<=x.len):(x.sub a b).e=x.e/\(x.sub a b).sz=x.sz/\(x.sub a b).len=b-a/\∀i,i<b-a->(x.sub a b).row i=x.row (a+i):=by cases x<;>exact Bsw _ a b h
theorem LX.rep_spec(x:LX)(n:Nat):(x.rep n).e=x.e/\(x.rep n).sz=x.sz/\(x.rep n).len=n/\∀i,i<n->(x.rep n).row i=x.row 0:=by cases x<;>exact Bsa _ n
theorem LX.set_spec(x:LX)(i off:Nat)(c:List PV)(y:LX)(h:LX.set x i off c=some y):y.e=x.e/\y.sz=x.sz/\y.len=x.len/\off+c.length<=x.sz/\(i<x.len->Qh (Hy (x.row i) off c) (y.row i))/\∀j,j≠i->y.row j=x.row j:=by cases x<;>exact Bsv h
theorem Xi{α :Type} [Inhabited α]{l:List α}{p: α->Bool}{r:Option Nat}(h:l.findIdx? p=r):
  (r=none->∀i,i<l.length->p (l.getD i default)=false)/\(∀i,r=some i->i<l.length/\p (l.getD i default)=true/\∀j,j<i->p (l.getD j default)=false):=by
 subst h;refine⟨λh i hi=>?_,λi h=>?_⟩
 ·have:=List.findIdx?_eq_none_iff.1 h (l.getD i default) (by rw[Rx l i hi];exact List.getElem_mem hi);simpa using this
 ·obtain⟨h1,h2,h3⟩:=List.findIdx?_eq_some_iff_getElem.1 h;refine⟨h1,by rw[Rx l i h1];exact h2,λj hj=>?_⟩;rw[Rx l j (by omega)];simpa using h3 j hj
theorem LX.find_spec(x:LX)(c:List PV)(r:Option Nat)(h:LX.find x c=some r):(r=none->∀i,i<x.len->Z1 c (x.row i)=some false)/\(∀i,r=some i->i<x.len/\Z1 c (x.row i)=some true/\∀j,j<i->Z1 c (x.row j)=some false):=by
 unfold LX.find at h;split at h
 ·rename_i l k0 a0;split at h
  ·rename_i hk0;have e0:=of_decide_eq_true hk0;subst e0;injection h with h;subst h
   obtain⟨s1,s2⟩:=Xi (rfl:l.findIdx? (λb=>a0 == b)=_);have key:∀i b,(a0 == (l.getD i default))=b->Z1 [.val (.int .i64 a0)] ((LX.t3 l).row i)=some b:=λi b hb=>congrArg some hb;exact⟨λhr i hi=>key _ _ (s1 hr i hi),λi hr=>⟨(s2 i hr).1,key _ _ (s2 i hr).2.1,λj hj=>key _ _ ((s2 i hr).2.2 j hj)⟩⟩
  ·cases h
 ·rename_i l a0;injection h with h;subst h
  obtain⟨s1,s2⟩:=Xi (rfl:l.findIdx? (λb=>a0 == b)=_);have key:∀i b,(a0 == (l.getD i default))=b->Z1 [.val (.bool a0)] ((LX.t4 l).row i)=some b:=λi b hb=>congrArg some hb;exact⟨λhr i hi=>key _ _ (s1 hr i hi),λi hr=>⟨(s2 i hr).1,key _ _ (s2 i hr).2.1,λj hj=>key _ _ ((s2 i hr).2.2 j hj)⟩⟩
 ·rename_i l a0;injection h with h;subst h
  obtain⟨s1,s2⟩:=Xi (rfl:l.findIdx? (λb=>a0 == b)=_);have key:∀i b,(a0 == (l.getD i default))=b->Z1 [.val (.string a0)] ((LX.t9 l).row i)=some b:=λi b hb=>congrArg some hb;exact⟨λhr i hi=>key _ _ (s1 hr i hi),λi hr=>⟨(s2 i hr).1,key _ _ (s2 i hr).2.1,λj hj=>key _ _ ((s2 i hr).2.2 j hj)⟩⟩
 ·rename_i l k0 a0;split at h
  ·rename_i hk0;have e0:=of_decide_eq_true hk0;subst e0;injection h with h;subst h
   obtain⟨s1,s2⟩:=Xi (rfl:l.findIdx? (λb=>a0 == b)=_);have key:∀i b,(a0 == (l.getD i default))=b->Z1 [.val (.int .i64 a0)] ((LX.t79 l).row i)=some b:=λi b hb=>congrArg some hb;exact⟨λhr i hi=>key _ _ (s1 hr i hi),λi hr=>⟨(s2 i hr).1,key _ _ (s2 i hr).2.1,λj hj=>key _ _ ((s2 i hr).2.2 j hj)⟩⟩
  ·cases h
 ·rename_i l a0 a1;injection h with h;subst h
  obtain⟨s1,s2⟩:=Xi (rfl:l.findIdx? (λb=>(a0 == b.a0 && (a1 == b.a1)))=_);have key:∀i b,((a0 == (l.getD i default).a0 && (a1 == (l.getD i default).a1)))=b->Z1 [.val (.string a0),.val (.string a1)] ((LX.t228 l).row i)=some b:=λi b hb=>congrArg some hb;exact⟨λhr i hi=>key _ _ (s1 hr i hi),λi hr=>⟨(s2 i hr).1,key _ _ (s2 i hr).2.1,λj hj=>key _ _ ((s2 i hr).2.2 j hj)⟩⟩
 ·cases h
def LX.str(x:LX):Option ByteArray:=match x with
 |_=>none
theorem LX.str_spec{y:LX}{s:ByteArray}(h:y.str=some s):∃l:List Int,s=strOfNums l/\y.len=l.length/\y.sz=1/\∀i,i<l.length->y.row i= [.val (.int .u8 (l.getD i 0))]:=by
 cases y<;>first
  |(injection h with h;subst h;exact⟨_,rfl,rfl,rfl,λi _=>rfl⟩)
  |cases h
def GL:List (Nat×LX):= []
def GA:List (Nat×List Value):= []
end Go.Proofs.YtgacplpjamkieaaGreat.Ev
