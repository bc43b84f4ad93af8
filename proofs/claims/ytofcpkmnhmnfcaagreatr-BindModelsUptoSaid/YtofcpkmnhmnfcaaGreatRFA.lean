/-  The types of the data, and of rows of them. -/
import Derived.Test.YtofcpkmnhmnfcaaGreatRRows
import Derived.WalkKit
import Derived.LoopN
import Derived.Great.BuildSlice
import Derived.Deep.Draws
namespace Go.Proofs.YtofcpkmnhmnfcaaGreatR.Ev
open Go
set_option linter.unusedVariables false
set_option linter.unusedSimpArgs false
set_option linter.unnecessarySimpa false
structure Bs where
 a0:ByteArray
 a1:ByteArray
 deriving Inhabited
structure Cr where
 Name:Bool
 Of:Bool
 E:Bool
 F:Bool
 Args:Bool
 Dist:Bool
 Flag:Bool
 Body:Bool
 Else:Bool
 deriving Inhabited
inductive Ab where
 |mk (Op:Int) (Name:ByteArray) (N:Int) (Kids:(List Ab))
instance:Inhabited Ab:=⟨.mk 0 ByteArray.empty 0 []⟩
def Ab.Op:Ab→Int| .mk x _ _ _=>x
def Ab.Name:Ab→ByteArray| .mk _ x _ _=>x
def Ab.N:Ab→Int| .mk _ _ x _=>x
def Ab.Kids:Ab→(List Ab)| .mk _ _ _ x=>x
def Ab.cp(x:Ab):Ab:= .mk x.Op x.Name x.N x.Kids
theorem Ab.cp_eq(x:Ab):Ab.cp x=x:=by cases x;rfl
theorem Ab.eta(x:Ab):Ab.mk x.Op x.Name x.N x.Kids=x:=by cases x;rfl
structure Ud where
 u_is:Bool
 u_e:Ab
 deriving Inhabited
structure Hz where
 u_is:Bool
 u_name:ByteArray
 deriving Inhabited
structure Ax where
 Name:ByteArray
 Length:Int
 Step:Int
 deriving Inhabited
structure F1 where
 At:Int
 Units:Int
 deriving Inhabited
structure Bn where
 Op:Int
 A:Int
 B:Int
 N:Int
 Values:(List Int)
 Weights:(List Int)
 deriving Inhabited
structure Ap where
 Name:ByteArray
 Type_:Int
 deriving Inhabited
structure Ay where
 Coef:Int
 What:ByteArray
 Name:ByteArray
 deriving Inhabited
structure A9 where
 Name:ByteArray
 Terms:(List Ay)
 Total:Int
 deriving Inhabited
structure Ki where
 Stream:ByteArray
 Up:Bn
 Down:Bn
 deriving Inhabited
structure Ah where
 Name:ByteArray
 Units:Int
 Shift:(List F1)
 Cycle:Int
 Fault:Ki
 deriving Inhabited
inductive Ad where
 |mk (Op:Int) (Name:ByteArray) (Of:ByteArray) (E:Ab) (F:Ab) (Args:(List Ab)) (Dist:Bn) (Flag:Bool) (Body:(List Ad)) (Else:(List Ad))
instance:Inhabited Ad:=⟨.mk 0 ByteArray.empty ByteArray.empty default default [] default false [] []⟩
def Ad.Op:Ad→Int| .mk x _ _ _ _ _ _ _ _ _=>x
def Ad.Name:Ad→ByteArray| .mk _ x _ _ _ _ _ _ _ _=>x
def Ad.Of:Ad→ByteArray| .mk _ _ x _ _ _ _ _ _ _=>x
def Ad.E:Ad→Ab| .mk _ _ _ x _ _ _ _ _ _=>x
def Ad.F:Ad→Ab| .mk _ _ _ _ x _ _ _ _ _=>x
def Ad.Args:Ad→(List Ab)| .mk _ _ _ _ _ x _ _ _ _=>x
def Ad.Dist:Ad→Bn| .mk _ _ _ _ _ _ x _ _ _=>x
def Ad.Flag:Ad→Bool| .mk _ _ _ _ _ _ _ x _ _=>x
def Ad.Body:Ad→(List Ad)| .mk _ _ _ _ _ _ _ _ x _=>x
def Ad.Else:Ad→(List Ad)| .mk _ _ _ _ _ _ _ _ _ x=>x
def Ad.cp(x:Ad):Ad:= .mk x.Op x.Name x.Of (Ab.cp x.E) (Ab.cp x.F) x.Args x.Dist x.Flag x.Body x.Else
theorem Ad.cp_eq(x:Ad):Ad.cp x=x:=by cases x;simp only [Ad.cp,Ab.cp_eq,Ad.Op,Ad.Name,Ad.Of,Ad.E,Ad.F,Ad.Args,Ad.Dist,Ad.Flag,Ad.Body,Ad.Else]
theorem Ad.eta(x:Ad):Ad.mk x.Op x.Name x.Of x.E x.F x.Args x.Dist x.Flag x.Body x.Else=x:=by cases x;rfl
structure Am where
 Name:ByteArray
 Params:(List Ap)
 Locals:(List Ap)
 Body:(List Ad)
 deriving Inhabited
structure Br where
 Routine:ByteArray
 Args:(List Int)
 At:Int
 Every:Int
 Until:Int
 deriving Inhabited
structure Ar where
 Name:ByteArray
 Room:Int
 Policy:Int
 deriving Inhabited
structure Ag where
 Name:ByteArray
 Type_:Int
 N:Int
 deriving Inhabited
structure Aa where
 Name:ByteArray
 Vars:(List Ag)
 Resources:(List Ah)
 Stores:(List Ar)
 Belts:(List Ax)
 Queues:(List ByteArray)
 Streams:(List ByteArray)
 Tallies:(List ByteArray)
 Levels:(List ByteArray)
 Counts:(List ByteArray)
 Routines:(List Am)
 Starts:(List Br)
 Laws:(List A9)
 deriving Inhabited
structure Aq where
 Params:(List Ag)
 Locals:(List Ap)
 Site:Aa
 deriving Inhabited
structure Bk where
 From:ByteArray
 To:ByteArray
 Delay:Int
 deriving Inhabited
structure Ac where
 Name:ByteArray
 Params:(List Ag)
 Sites:(List Aa)
 Links:(List Bk)
 deriving Inhabited
structure Ae where
 Name:ByteArray
 N:Int
 deriving Inhabited
structure Bl where
 u_code:Bool
 deriving Inhabited
structure Bp where
 u_name:Bool
 u_of:Bool
 u_e:Bool
 u_f:Bool
 u_args:Bool
 u_dist:Bool
 u_flag:Bool
 u_body:Bool
 u_other:Bool
 deriving Inhabited
structure Ao where
 u_m:Ac
 u_site:Int
 u_env:Aq
 deriving Inhabited
inductive LX where
 |t3 (l:List Int)
 |t4 (l:List Bool)
 |t9 (l:List ByteArray)
 |t37 (l:List Int)
 |t39 (l:List Ag)
 |t41 (l:List Ae)
 |t48 (l:List (List ByteArray))
 |t53 (l:List Aa)
 |t55 (l:List (List Ap))
 |t58 (l:List Am)
 |t63 (l:List Ab)
 |t81 (l:List Bk)
 |t96 (l:List Ad)
 |t110 (l:List Ah)
 |t113 (l:List Ar)
 |t115 (l:List Ax)
 |t119 (l:List Br)
 |t124 (l:List A9)
 |t127 (l:List Ap)
 |t160 (l:List F1)
 |t163 (l:List Ay)
 |t193 (l:List Bs)
 |t256 (l:List Hz)
 |t258 (l:List Ud)
 deriving Inhabited
def LX.e:LX→Nat
 | .t3 l=>3
 | .t4 l=>4
 | .t9 l=>9
 | .t37 l=>37
 | .t39 l=>39
 | .t41 l=>41
 | .t48 l=>48
 | .t53 l=>53
 | .t55 l=>55
 | .t58 l=>58
 | .t63 l=>63
 | .t81 l=>81
 | .t96 l=>96
 | .t110 l=>110
 | .t113 l=>113
 | .t115 l=>115
 | .t119 l=>119
 | .t124 l=>124
 | .t127 l=>127
 | .t160 l=>160
 | .t163 l=>163
 | .t193 l=>193
 | .t256 l=>256
 | .t258 l=>258
def LX.sz:LX→Nat
 | .t3 l=>1
 | .t4 l=>1
 | .t9 l=>1
 | .t37 l=>1
 | .t39 l=>3
 | .t41 l=>2
 | .t48 l=>1
 | .t53 l=>13
 | .t55 l=>1
 | .t58 l=>4
 | .t63 l=>4
 | .t81 l=>3
 | .t96 l=>21
 | .t110 l=>17
 | .t113 l=>3
 | .t115 l=>3
 | .t119 l=>5
 | .t124 l=>3
 | .t127 l=>2
 | .t160 l=>2
 | .t163 l=>3
 | .t193 l=>2
 | .t256 l=>2
 | .t258 l=>5
def LX.len:LX→Nat
 | .t3 l=>l.length
 | .t4 l=>l.length
 | .t9 l=>l.length
 | .t37 l=>l.length
 | .t39 l=>l.length
 | .t41 l=>l.length
 | .t48 l=>l.length
 | .t53 l=>l.length
 | .t55 l=>l.length
 | .t58 l=>l.length
 | .t63 l=>l.length
 | .t81 l=>l.length
 | .t96 l=>l.length
 | .t110 l=>l.length
 | .t113 l=>l.length
 | .t115 l=>l.length
 | .t119 l=>l.length
 | .t124 l=>l.length
 | .t127 l=>l.length
 | .t160 l=>l.length
 | .t163 l=>l.length
 | .t193 l=>l.length
 | .t256 l=>l.length
 | .t258 l=>l.length
def LX.g3:LX→Option (List Int)
 | .t3 l=>some l
 |_=>none
def LX.g4:LX→Option (List Bool)
 | .t4 l=>some l
 |_=>none
def LX.g9:LX→Option (List ByteArray)
 | .t9 l=>some l
 |_=>none
def LX.g37:LX→Option (List Int)
 | .t37 l=>some l
 |_=>none
def LX.g39:LX→Option (List Ag)
 | .t39 l=>some l
 |_=>none
def LX.g41:LX→Option (List Ae)
 | .t41 l=>some l
 |_=>none
def LX.g48:LX→Option (List (List ByteArray))
 | .t48 l=>some l
 |_=>none
def LX.g53:LX→Option (List Aa)
 | .t53 l=>some l
 |_=>none
def LX.g55:LX→Option (List (List Ap))
 | .t55 l=>some l
 |_=>none
def LX.g58:LX→Option (List Am)
 | .t58 l=>some l
 |_=>none
def LX.g63:LX→Option (List Ab)
 | .t63 l=>some l
 |_=>none
def LX.g81:LX→Option (List Bk)
 | .t81 l=>some l
 |_=>none
def LX.g96:LX→Option (List Ad)
 | .t96 l=>some l
 |_=>none
def LX.g110:LX→Option (List Ah)
 | .t110 l=>some l
 |_=>none
def LX.g113:LX→Option (List Ar)
 | .t113 l=>some l
 |_=>none
def LX.g115:LX→Option (List Ax)
 | .t115 l=>some l
 |_=>none
def LX.g119:LX→Option (List Br)
 | .t119 l=>some l
 |_=>none
def LX.g124:LX→Option (List A9)
 | .t124 l=>some l
 |_=>none
def LX.g127:LX→Option (List Ap)
 | .t127 l=>some l
 |_=>none
def LX.g160:LX→Option (List F1)
 | .t160 l=>some l
 |_=>none
def LX.g163:LX→Option (List Ay)
 | .t163 l=>some l
 |_=>none
def LX.g193:LX→Option (List Bs)
 | .t193 l=>some l
 |_=>none
def LX.g256:LX→Option (List Hz)
 | .t256 l=>some l
 |_=>none
def LX.g258:LX→Option (List Ud)
 | .t258 l=>some l
 |_=>none
def Agz{α :Type}(K: α→LX)(o:Option α):Option LX:=match o with
 |some l=>some (K l)
 |none=>none
def Cme{α :Type}(b:Bool)(K: α→LX)(o:Option α):Option LX:=match b,o with
 |true,some l=>some (K l)
 |_,_=>none
def LX.cat(x y:LX):Option LX:=match x with
 | .t3 l=>Agz (fun m=> .t3 (l++m)) y.g3
 | .t4 l=>Agz (fun m=> .t4 (l++m)) y.g4
 | .t9 l=>Agz (fun m=> .t9 (l++m)) y.g9
 | .t37 l=>Agz (fun m=> .t37 (l++m)) y.g37
 | .t39 l=>Agz (fun m=> .t39 (l++m)) y.g39
 | .t41 l=>Agz (fun m=> .t41 (l++m)) y.g41
 | .t48 l=>Agz (fun m=> .t48 (l++m)) y.g48
 | .t53 l=>Agz (fun m=> .t53 (l++m)) y.g53
 | .t55 l=>Agz (fun m=> .t55 (l++m)) y.g55
 | .t58 l=>Agz (fun m=> .t58 (l++m)) y.g58
 | .t63 l=>Agz (fun m=> .t63 (l++m)) y.g63
 | .t81 l=>Agz (fun m=> .t81 (l++m)) y.g81
 | .t96 l=>Agz (fun m=> .t96 (l++m)) y.g96
 | .t110 l=>Agz (fun m=> .t110 (l++m)) y.g110
 | .t113 l=>Agz (fun m=> .t113 (l++m)) y.g113
 | .t115 l=>Agz (fun m=> .t115 (l++m)) y.g115
 | .t119 l=>Agz (fun m=> .t119 (l++m)) y.g119
 | .t124 l=>Agz (fun m=> .t124 (l++m)) y.g124
 | .t127 l=>Agz (fun m=> .t127 (l++m)) y.g127
 | .t160 l=>Agz (fun m=> .t160 (l++m)) y.g160
 | .t163 l=>Agz (fun m=> .t163 (l++m)) y.g163
 | .t193 l=>Agz (fun m=> .t193 (l++m)) y.g193
 | .t256 l=>Agz (fun m=> .t256 (l++m)) y.g256
 | .t258 l=>Agz (fun m=> .t258 (l++m)) y.g258
def LX.sub(x:LX)(a b:Nat):LX:=match x with
 | .t3 l=> .t3 ((l.take b).drop a)
 | .t4 l=> .t4 ((l.take b).drop a)
 | .t9 l=> .t9 ((l.take b).drop a)
 | .t37 l=> .t37 ((l.take b).drop a)
 | .t39 l=> .t39 ((l.take b).drop a)
 | .t41 l=> .t41 ((l.take b).drop a)
 | .t48 l=> .t48 ((l.take b).drop a)
 | .t53 l=> .t53 ((l.take b).drop a)
 | .t55 l=> .t55 ((l.take b).drop a)
 | .t58 l=> .t58 ((l.take b).drop a)
 | .t63 l=> .t63 ((l.take b).drop a)
 | .t81 l=> .t81 ((l.take b).drop a)
 | .t96 l=> .t96 ((l.take b).drop a)
 | .t110 l=> .t110 ((l.take b).drop a)
 | .t113 l=> .t113 ((l.take b).drop a)
 | .t115 l=> .t115 ((l.take b).drop a)
 | .t119 l=> .t119 ((l.take b).drop a)
 | .t124 l=> .t124 ((l.take b).drop a)
 | .t127 l=> .t127 ((l.take b).drop a)
 | .t160 l=> .t160 ((l.take b).drop a)
 | .t163 l=> .t163 ((l.take b).drop a)
 | .t193 l=> .t193 ((l.take b).drop a)
 | .t256 l=> .t256 ((l.take b).drop a)
 | .t258 l=> .t258 ((l.take b).drop a)
def LX.rep(x:LX)(n:Nat):LX:=match x with
 | .t3 l=> .t3 (List.replicate n (l.getD 0 default))
 | .t4 l=> .t4 (List.replicate n (l.getD 0 default))
 | .t9 l=> .t9 (List.replicate n (l.getD 0 default))
 | .t37 l=> .t37 (List.replicate n (l.getD 0 default))
 | .t39 l=> .t39 (List.replicate n (l.getD 0 default))
 | .t41 l=> .t41 (List.replicate n (l.getD 0 default))
 | .t48 l=> .t48 (List.replicate n (l.getD 0 default))
 | .t53 l=> .t53 (List.replicate n (l.getD 0 default))
 | .t55 l=> .t55 (List.replicate n (l.getD 0 default))
 | .t58 l=> .t58 (List.replicate n (l.getD 0 default))
 | .t63 l=> .t63 (List.replicate n (l.getD 0 default))
 | .t81 l=> .t81 (List.replicate n (l.getD 0 default))
 | .t96 l=> .t96 (List.replicate n (l.getD 0 default))
 | .t110 l=> .t110 (List.replicate n (l.getD 0 default))
 | .t113 l=> .t113 (List.replicate n (l.getD 0 default))
 | .t115 l=> .t115 (List.replicate n (l.getD 0 default))
 | .t119 l=> .t119 (List.replicate n (l.getD 0 default))
 | .t124 l=> .t124 (List.replicate n (l.getD 0 default))
 | .t127 l=> .t127 (List.replicate n (l.getD 0 default))
 | .t160 l=> .t160 (List.replicate n (l.getD 0 default))
 | .t163 l=> .t163 (List.replicate n (l.getD 0 default))
 | .t193 l=> .t193 (List.replicate n (l.getD 0 default))
 | .t256 l=> .t256 (List.replicate n (l.getD 0 default))
 | .t258 l=> .t258 (List.replicate n (l.getD 0 default))
end Go.Proofs.YtofcpkmnhmnfcaaGreatR.Ev
namespace Go.Proofs.YtofcpkmnhmnfcaaGreatR.Ev
open Go
set_option linter.unusedVariables false
set_option linter.unusedSimpArgs false
set_option linter.unnecessarySimpa false
inductive PV where
 |any
 |val (v:Value)
 |agg (l:List PV)
 |tup (l:List PV)
 |sl (own:Bool) (e sz:Nat) (es:List (List PV))
 |lst (own:Bool) (x:LX)
 |ref (l:List PV)
 |loc (d off:Nat)
 |el (d sz i off:Nat)
 |vw (c:Bool) (d e sz n:Nat)
 |mp (d:Nat)
 |clo (f n:Nat) (caps:List PV)
 |arrO (x:LX)
 |mapO (gk gv:Bool) (ks vs:LX)
 deriving Inhabited
def PV.view:PV→PV
 | .sl _ e sz es=> .sl false e sz es
 | .lst _ x=> .lst false x
 |p=>p
def PV.flat:PV→Bool
 | .any=>true
 | .val _=>true
 | .lst _ _=>true
 |_=>false
inductive PV.Le:PV→PV→Prop
 |view (p:PV):PV.Le p p.view
 |nil (own:Bool) (y:LX) (h:y.len=0):PV.Le (.val (.slice none 0 0)) (.lst own y)
def Ox(l:List PV)(off:Nat)(new:List PV):List PV:=match l,off,new with
 | [],_,_=> []
 |l,_,[]=>l
 |_::r,0,q::new=>q::Ox r 0 new
 |p::r,n+1,new=>p::Ox r n new
def Awj:PV→PV→Option Bool
 | .val (.int k a),.val (.int k' b)=>match decide (k=k') with
  |true=>some (a == b)
  |false=>none
 | .val (.string a),.val (.string b)=>some (a == b)
 | .val (.bool a),.val (.bool b)=>some (a == b)
 |_,_=>none
def Bca:PV→List PV→PV→List PV→Option Bool
 |a,[],b,[]=>Awj a b
 |a,a'::l,b,b'::m=>match Awj a b,Bca a' l b' m with
  |some x,some y=>some (x && y)
  |_,_=>none
 |_,_,_,_=>none
def Anz:List PV→List PV→Option Bool
 |a::l,b::m=>Bca a l b m
 |_,_=>none
end Go.Proofs.YtofcpkmnhmnfcaaGreatR.Ev
namespace Go.Proofs.YtofcpkmnhmnfcaaGreatR.Ev
open Go
set_option linter.unusedVariables false
set_option linter.unusedSimpArgs false
set_option linter.unnecessarySimpa false
def A7t(l:List PV)(n:Nat):Bool:=match l,n with
 |_,0=>true
 |_::r,n+1=>A7t r n
 |_,_=>false
def B1c(k:IntKind):PV→Option Int
 | .val (.int k' a)=>match decide (k'=k) with
  |true=>some a
  |false=>none
 |_=>none
def Bmd:PV→Option Bool
 | .val (.bool a)=>some a
 |_=>none
def B1d:PV→Option ByteArray
 | .val (.string a)=>some a
 |_=>none
inductive Ai8:List PV→List PV→Prop
 |nil:Ai8 [] []
 |cons {p q:PV} {r s:List PV} (h:PV.Le p q) (hr:Ai8 r s):Ai8 (p::r) (q::s)
theorem Bme{k:IntKind}{p:PV}{a:Int}(h:B1c k p=some a):PV.Le p (.val (.int k a)):=by
 unfold B1c at h
 split at h
 ·split at h
  ·rename_i hk
   have:=of_decide_eq_true hk
   subst this
   injection h with h;subst h;exact .view _
  ·cases h
 ·cases h
theorem Bfy{p:PV}{a:Bool}(h:Bmd p=some a):PV.Le p (.val (.bool a)):=by
 unfold Bmd at h
 split at h
 ·injection h with h;subst h;exact .view _
 ·cases h
theorem Bmf{p:PV}{a:ByteArray}(h:B1d p=some a):PV.Le p (.val (.string a)):=by
 unfold B1d at h
 split at h
 ·injection h with h;subst h;exact .view _
 ·cases h
def Bss{α :Type}(d:List PV→Option α):List (List PV)→Option (List α)
 | []=>some []
 |r::rs=>match d r,Bss d rs with
  |some a,some l=>some (a::l)
  |_,_=>none
theorem Bbj{α :Type} [Inhabited α]{d:List PV→Option α}{row: α→List PV}(hd:∀r a,d r=some a→Ai8 r (row a)):∀(rs:List (List PV)) (l:List α),Bss d rs=some l→
  l.length=rs.length∧∀(i:Nat) (r:List PV),rs[i]? =some r→Ai8 r (row (l.getD i default))
 | [],l,h=>by
  simp only [Bss,Option.some.injEq] at h
  subst h
  exact ⟨rfl,fun i r hr=>by simp at hr⟩
 |r::rs,l,h=>by
  simp only [Bss] at h
  split at h
  ·rename_i a m h1 h2
   injection h with h
   subst h
   obtain ⟨q1,q2⟩:=Bbj hd rs m h2
   refine ⟨by simp [q1],fun i x hx=> ?_⟩
   cases i with
   |zero=>simp at hx;subst hx;simpa using hd _ _ h1
   |succ i=>simpa using q2 i x (by simpa using hx)
  ·cases h
def A7p:List PV→Bool
 | []=>true
 |p::r=>match p.flat with
  |true=>A7p r
  |false=>false
theorem Bbq:∀(l:List PV),A7p l=true→∀p∈l,p.flat=true
 | [],_,p,h=>by cases h
 |q::r,h,p,hp=>by
  simp only [A7p] at h
  cases hq:q.flat with
  |false=>rw [hq] at h;cases h
  |true=>
   rw [hq] at h
   rcases List.mem_cons.1 hp with e|e
   ·subst e;exact hq
   ·exact Bbq r h p e
structure CD (α :Type) where
 d:PV→Option α
 w: α→PV
 le:∀ {p a},d p=some a→PV.Le p (w a)
 fl:∀a,(w a).flat=true
def oI(k:IntKind):CD Int:=⟨B1c k,fun x=> .val (.int k x),Bme,fun _=>rfl⟩
def oB:CD Bool:=⟨Bmd,fun x=> .val (.bool x),Bfy,fun _=>rfl⟩
def oT:CD ByteArray:=⟨B1d,fun x=> .val (.string x),Bmf,fun _=>rfl⟩
class TL {α :Type} (K:List α→LX) (g:outParam (LX→Option (List α))) (u z:outParam Nat):Prop where
 e:∀l,(K l).e=u:=by intro l;rfl
 sz:∀l,(K l).sz=z:=by intro l;rfl
 len:∀l,(K l).len=l.length:=by intro l;rfl
 gk:∀y m,g y=some m→y=K m:=by intro y m h;cases y<;>first|(injection h with h;subst h;rfl)|cases h
 of:∀x,x.e=u→∃l,x=K l:=by intro x h;cases x<;>first|exact ⟨_,rfl⟩|(simp [LX.e] at h)
def dL{α :Type}(g:LX→Option (List α)):PV→Option (List α)
 | .lst _ x=>g x
 | .val (.slice none 0 0)=>some []
 |_=>none
def oW{α :Type}(K:List α→LX){g:LX→Option (List α)}{e sz:Nat} [k:TL K g e sz]:CD (List α):=⟨dL g,fun x=> .lst false (K x),fun {p a} h=>(by
 unfold dL at h
 split at h
 ·rw [k.gk _ _ h];exact .view _
 ·injection h with h;subst h;exact .nil false _ (k.len _)
 ·cases h),fun _=>rfl⟩
structure RF (α :Type) where
 d:List PV→Option α
 w: α→List PV
 le:∀r a,d r=some a→Ai8 r (w a)
 fl:∀a,A7p (w a)=true
def CD.o{α :Type}(c:CD α):RF α :=⟨fun
 | [p]=>c.d p
 |_=>none,fun a=> [c.w a],fun r a h=>(by
 split at h
 ·exact .cons (c.le h) .nil
 ·cases h),fun a=>by simp only [A7p,c.fl]⟩
def CD.c{α β :Type}(c:CD α)(f:RF β):RF (α×β):=⟨fun
 |p::r=>match c.d p,f.d r with
  |some a,some b=>some (a,b)
  |_,_=>none
 |_=>none,fun a=>c.w a.1::f.w a.2,fun r a h=>(by
 split at h
 ·split at h
  ·rename_i h1 h2
   injection h with h;subst h
   exact .cons (c.le h1) (f.le _ _ h2)
  ·cases h
 ·cases h),fun a=>by simp only [A7p,c.fl,f.fl]⟩
def RF.to{α β :Type}(f:RF α)(g: α→β)(w: β→List PV)(h:∀a,w (g a)=f.w a:=by intro a;rfl)(h2:∀a,A7p (w a)=true:=by intro a;rfl):RF β :=⟨fun r=>match f.d r with
 |some a=>some (g a)
 |none=>none,w,fun r a hh=>(by
 split at hh
 ·rename_i h1
  injection hh with hh;subst hh
  rw [h];exact f.le _ _ h1
 ·cases hh),h2⟩
instance:TL LX.t3 LX.g3 3 1:= {}
instance:TL LX.t4 LX.g4 4 1:= {}
instance:TL LX.t9 LX.g9 9 1:= {}
instance:TL LX.t37 LX.g37 37 1:= {}
instance:TL LX.t39 LX.g39 39 3:= {}
instance:TL LX.t41 LX.g41 41 2:= {}
instance:TL LX.t48 LX.g48 48 1:= {}
instance:TL LX.t53 LX.g53 53 13:= {}
instance:TL LX.t55 LX.g55 55 1:= {}
instance:TL LX.t58 LX.g58 58 4:= {}
instance:TL LX.t63 LX.g63 63 4:= {}
instance:TL LX.t81 LX.g81 81 3:= {}
instance:TL LX.t96 LX.g96 96 21:= {}
instance:TL LX.t110 LX.g110 110 17:= {}
instance:TL LX.t113 LX.g113 113 3:= {}
instance:TL LX.t115 LX.g115 115 3:= {}
instance:TL LX.t119 LX.g119 119 5:= {}
instance:TL LX.t124 LX.g124 124 3:= {}
instance:TL LX.t127 LX.g127 127 2:= {}
instance:TL LX.t160 LX.g160 160 2:= {}
instance:TL LX.t163 LX.g163 163 3:= {}
instance:TL LX.t193 LX.g193 193 2:= {}
instance:TL LX.t256 LX.g256 256 2:= {}
instance:TL LX.t258 LX.g258 258 5:= {}
def Au(x:Ac):List PV:= [.val (.string x.Name),.lst false (.t39 x.Params),.lst false (.t53 x.Sites),.lst false (.t81 x.Links)]
def Be1:RF Ac:=RF.to (oT.c ((oW LX.t39).c ((oW LX.t53).c ((oW LX.t81).o)))) (fun(a0,a1,a2,a3)=> .mk a0 a1 a2 a3) Au
def B9(x:Ag):List PV:= [.val (.string x.Name),.val (.int .i64 x.Type_),.val (.int .i64 x.N)]
def Aeo:RF Ag:=RF.to (oT.c ((oI .i64).c ((oI .i64).o))) (fun(a0,a1,a2)=> .mk a0 a1 a2) B9
def B3(x:Ae):List PV:= [.val (.string x.Name),.val (.int .i64 x.N)]
def Aem:RF Ae:=RF.to (oT.c ((oI .i64).o)) (fun(a0,a1)=> .mk a0 a1) B3
def Af(x:Aa):List PV:= [.val (.string x.Name),.lst false (.t39 x.Vars),.lst false (.t110 x.Resources),.lst false (.t113 x.Stores),.lst false (.t115 x.Belts),.lst false (.t9 x.Queues),.lst false (.t9 x.Streams),.lst false (.t9 x.Tallies),.lst false (.t9 x.Levels),.lst false (.t9 x.Counts),.lst false (.t58 x.Routines),.lst false (.t119 x.Starts),.lst false (.t124 x.Laws)]
def Wm:RF Aa:=RF.to (oT.c ((oW LX.t39).c ((oW LX.t110).c ((oW LX.t113).c ((oW LX.t115).c ((oW LX.t9).c ((oW LX.t9).c ((oW LX.t9).c ((oW LX.t9).c ((oW LX.t9).c ((oW LX.t58).c ((oW LX.t119).c ((oW LX.t124).o))))))))))))) (fun(a0,a1,a2,a3,a4,a5,a6,a7,a8,a9,a10,a11,a12)=> .mk a0 a1 a2 a3 a4 a5 a6 a7 a8 a9 a10 a11 a12) Af
def Cv(x:Am):List PV:= [.val (.string x.Name),.lst false (.t127 x.Params),.lst false (.t127 x.Locals),.lst false (.t96 x.Body)]
def Ze:RF Am:=RF.to (oT.c ((oW LX.t127).c ((oW LX.t127).c ((oW LX.t96).o)))) (fun(a0,a1,a2,a3)=> .mk a0 a1 a2 a3) Cv
def F3(x:Ab):List PV:= [.val (.int .i64 x.Op),.val (.string x.Name),.val (.int .i64 x.N),.lst false (.t63 x.Kids)]
def Ajk:RF Ab:=RF.to ((oI .i64).c (oT.c ((oI .i64).c ((oW LX.t63).o)))) (fun(a0,a1,a2,a3)=> .mk a0 a1 a2 a3) F3
def P7(x:Bk):List PV:= [.val (.string x.From),.val (.string x.To),.val (.int .i64 x.Delay)]
def Any:RF Bk:=RF.to (oT.c (oT.c ((oI .i64).o))) (fun(a0,a1,a2)=> .mk a0 a1 a2) P7
def Aw9(x:Bn):List PV:= [.val (.int .i64 x.Op),.val (.int .i64 x.A),.val (.int .i64 x.B),.val (.int .i64 x.N),.lst false (.t3 x.Values),.lst false (.t3 x.Weights)]
def Bh9:RF Bn:=RF.to ((oI .i64).c ((oI .i64).c ((oI .i64).c ((oI .i64).c ((oW LX.t3).c ((oW LX.t3).o)))))) (fun(a0,a1,a2,a3,a4,a5)=> .mk a0 a1 a2 a3 a4 a5) Aw9
def Ej(x:Ad):List PV:= [.val (.int .i64 x.Op),.val (.string x.Name),.val (.string x.Of),.val (.int .i64 x.E.Op),.val (.string x.E.Name),.val (.int .i64 x.E.N),.lst false (.t63 x.E.Kids),.val (.int .i64 x.F.Op),.val (.string x.F.Name),.val (.int .i64 x.F.N),.lst false (.t63 x.F.Kids),.lst false (.t63 x.Args),.val (.int .i64 x.Dist.Op),.val (.int .i64 x.Dist.A),.val (.int .i64 x.Dist.B),.val (.int .i64 x.Dist.N),.lst false (.t3 x.Dist.Values),.lst false (.t3 x.Dist.Weights),.val (.bool x.Flag),.lst false (.t96 x.Body),.lst false (.t96 x.Else)]
def Ajl:RF Ad:=RF.to ((oI .i64).c (oT.c (oT.c ((oI .i64).c (oT.c ((oI .i64).c ((oW LX.t63).c ((oI .i64).c (oT.c ((oI .i64).c ((oW LX.t63).c ((oW LX.t63).c ((oI .i64).c ((oI .i64).c ((oI .i64).c ((oI .i64).c ((oW LX.t3).c ((oW LX.t3).c (oB.c ((oW LX.t96).c ((oW LX.t96).o))))))))))))))))))))) (fun(a0,a1,a2,a3,a4,a5,a6,a7,a8,a9,a10,a11,a12,a13,a14,a15,a16,a17,a18,a19,a20)=> .mk a0 a1 a2 (.mk a3 a4 a5 a6) (.mk a7 a8 a9 a10) a11 (.mk a12 a13 a14 a15 a16 a17) a18 a19 a20) Ej
def A3a(x:Ki):List PV:= [.val (.string x.Stream),.val (.int .i64 x.Up.Op),.val (.int .i64 x.Up.A),.val (.int .i64 x.Up.B),.val (.int .i64 x.Up.N),.lst false (.t3 x.Up.Values),.lst false (.t3 x.Up.Weights),.val (.int .i64 x.Down.Op),.val (.int .i64 x.Down.A),.val (.int .i64 x.Down.B),.val (.int .i64 x.Down.N),.lst false (.t3 x.Down.Values),.lst false (.t3 x.Down.Weights)]
def Be0:RF Ki:=RF.to (oT.c ((oI .i64).c ((oI .i64).c ((oI .i64).c ((oI .i64).c ((oW LX.t3).c ((oW LX.t3).c ((oI .i64).c ((oI .i64).c ((oI .i64).c ((oI .i64).c ((oW LX.t3).c ((oW LX.t3).o))))))))))))) (fun(a0,a1,a2,a3,a4,a5,a6,a7,a8,a9,a10,a11,a12)=> .mk a0 (.mk a1 a2 a3 a4 a5 a6) (.mk a7 a8 a9 a10 a11 a12)) A3a
def Bx(x:Ah):List PV:= [.val (.string x.Name),.val (.int .i64 x.Units),.lst false (.t160 x.Shift),.val (.int .i64 x.Cycle),.val (.string x.Fault.Stream),.val (.int .i64 x.Fault.Up.Op),.val (.int .i64 x.Fault.Up.A),.val (.int .i64 x.Fault.Up.B),.val (.int .i64 x.Fault.Up.N),.lst false (.t3 x.Fault.Up.Values),.lst false (.t3 x.Fault.Up.Weights),.val (.int .i64 x.Fault.Down.Op),.val (.int .i64 x.Fault.Down.A),.val (.int .i64 x.Fault.Down.B),.val (.int .i64 x.Fault.Down.N),.lst false (.t3 x.Fault.Down.Values),.lst false (.t3 x.Fault.Down.Weights)]
def N8:RF Ah:=RF.to (oT.c ((oI .i64).c ((oW LX.t160).c ((oI .i64).c (oT.c ((oI .i64).c ((oI .i64).c ((oI .i64).c ((oI .i64).c ((oW LX.t3).c ((oW LX.t3).c ((oI .i64).c ((oI .i64).c ((oI .i64).c ((oI .i64).c ((oW LX.t3).c ((oW LX.t3).o))))))))))))))))) (fun(a0,a1,a2,a3,a4,a5,a6,a7,a8,a9,a10,a11,a12,a13,a14,a15,a16)=> .mk a0 a1 a2 a3 (.mk a4 (.mk a5 a6 a7 a8 a9 a10) (.mk a11 a12 a13 a14 a15 a16))) Bx
def Da(x:Ar):List PV:= [.val (.string x.Name),.val (.int .i64 x.Room),.val (.int .i64 x.Policy)]
def q7:RF Ar:=RF.to (oT.c ((oI .i64).c ((oI .i64).o))) (fun(a0,a1,a2)=> .mk a0 a1 a2) Da
def Dh(x:Ax):List PV:= [.val (.string x.Name),.val (.int .i64 x.Length),.val (.int .i64 x.Step)]
def Abv:RF Ax:=RF.to (oT.c ((oI .i64).c ((oI .i64).o))) (fun(a0,a1,a2)=> .mk a0 a1 a2) Dh
def Anm(x:Br):List PV:= [.val (.string x.Routine),.lst false (.t3 x.Args),.val (.int .i64 x.At),.val (.int .i64 x.Every),.val (.int .i64 x.Until)]
def Aen:RF Br:=RF.to (oT.c ((oW LX.t3).c ((oI .i64).c ((oI .i64).c ((oI .i64).o))))) (fun(a0,a1,a2,a3,a4)=> .mk a0 a1 a2 a3 a4) Anm
def Dr(x:A9):List PV:= [.val (.string x.Name),.lst false (.t163 x.Terms),.val (.int .i64 x.Total)]
def Amv:RF A9:=RF.to (oT.c ((oW LX.t163).c ((oI .i64).o))) (fun(a0,a1,a2)=> .mk a0 a1 a2) Dr
def Y6(x:Ap):List PV:= [.val (.string x.Name),.val (.int .i64 x.Type_)]
def Alj:RF Ap:=RF.to (oT.c ((oI .i64).o)) (fun(a0,a1)=> .mk a0 a1) Y6
def Pu(x:Aq):List PV:= [.lst false (.t39 x.Params),.lst false (.t127 x.Locals),.val (.string x.Site.Name),.lst false (.t39 x.Site.Vars),.lst false (.t110 x.Site.Resources),.lst false (.t113 x.Site.Stores),.lst false (.t115 x.Site.Belts),.lst false (.t9 x.Site.Queues),.lst false (.t9 x.Site.Streams),.lst false (.t9 x.Site.Tallies),.lst false (.t9 x.Site.Levels),.lst false (.t9 x.Site.Counts),.lst false (.t58 x.Site.Routines),.lst false (.t119 x.Site.Starts),.lst false (.t124 x.Site.Laws)]
def Bko:RF Aq:=RF.to ((oW LX.t39).c ((oW LX.t127).c (oT.c ((oW LX.t39).c ((oW LX.t110).c ((oW LX.t113).c ((oW LX.t115).c ((oW LX.t9).c ((oW LX.t9).c ((oW LX.t9).c ((oW LX.t9).c ((oW LX.t9).c ((oW LX.t58).c ((oW LX.t119).c ((oW LX.t124).o))))))))))))))) (fun(a0,a1,a2,a3,a4,a5,a6,a7,a8,a9,a10,a11,a12,a13,a14)=> .mk a0 a1 (.mk a2 a3 a4 a5 a6 a7 a8 a9 a10 a11 a12 a13 a14)) Pu
def I9(x:Ao):List PV:= [.val (.string x.u_m.Name),.lst false (.t39 x.u_m.Params),.lst false (.t53 x.u_m.Sites),.lst false (.t81 x.u_m.Links),.val (.int .i64 x.u_site),.lst false (.t39 x.u_env.Params),.lst false (.t127 x.u_env.Locals),.val (.string x.u_env.Site.Name),.lst false (.t39 x.u_env.Site.Vars),.lst false (.t110 x.u_env.Site.Resources),.lst false (.t113 x.u_env.Site.Stores),.lst false (.t115 x.u_env.Site.Belts),.lst false (.t9 x.u_env.Site.Queues),.lst false (.t9 x.u_env.Site.Streams),.lst false (.t9 x.u_env.Site.Tallies),.lst false (.t9 x.u_env.Site.Levels),.lst false (.t9 x.u_env.Site.Counts),.lst false (.t58 x.u_env.Site.Routines),.lst false (.t119 x.u_env.Site.Starts),.lst false (.t124 x.u_env.Site.Laws)]
def Az4:RF Ao:=RF.to (oT.c ((oW LX.t39).c ((oW LX.t53).c ((oW LX.t81).c ((oI .i64).c ((oW LX.t39).c ((oW LX.t127).c (oT.c ((oW LX.t39).c ((oW LX.t110).c ((oW LX.t113).c ((oW LX.t115).c ((oW LX.t9).c ((oW LX.t9).c ((oW LX.t9).c ((oW LX.t9).c ((oW LX.t9).c ((oW LX.t58).c ((oW LX.t119).c ((oW LX.t124).o)))))))))))))))))))) (fun(a0,a1,a2,a3,a4,a5,a6,a7,a8,a9,a10,a11,a12,a13,a14,a15,a16,a17,a18,a19)=> .mk (.mk a0 a1 a2 a3) a4 (.mk a5 a6 (.mk a7 a8 a9 a10 a11 a12 a13 a14 a15 a16 a17 a18 a19))) I9
def Bf4(x:Bl):List PV:= [.val (.bool x.u_code)]
def Be2:RF Bl:=RF.to (oB.o) (fun a0=> .mk a0) Bf4
def Ay0(x:F1):List PV:= [.val (.int .i64 x.At),.val (.int .i64 x.Units)]
def Aij:RF F1:=RF.to ((oI .i64).c ((oI .i64).o)) (fun(a0,a1)=> .mk a0 a1) Ay0
def H0(x:Ay):List PV:= [.val (.int .i64 x.Coef),.val (.string x.What),.val (.string x.Name)]
def Ajm:RF Ay:=RF.to ((oI .i64).c (oT.c oT.o)) (fun(a0,a1,a2)=> .mk a0 a1 a2) H0
def A0p(x:Bs):List PV:= [.val (.string x.a0),.val (.string x.a1)]
def Xw:RF Bs:=RF.to (oT.c oT.o) (fun(a0,a1)=> .mk a0 a1) A0p
def Agb(x:Bp):List PV:= [.val (.bool x.u_name),.val (.bool x.u_of),.val (.bool x.u_e),.val (.bool x.u_f),.val (.bool x.u_args),.val (.bool x.u_dist),.val (.bool x.u_flag),.val (.bool x.u_body),.val (.bool x.u_other)]
def Bia:RF Bp:=RF.to (oB.c (oB.c (oB.c (oB.c (oB.c (oB.c (oB.c (oB.c oB.o)))))))) (fun(a0,a1,a2,a3,a4,a5,a6,a7,a8)=> .mk a0 a1 a2 a3 a4 a5 a6 a7 a8) Agb
def Bdj(x:Hz):List PV:= [.val (.bool x.u_is),.val (.string x.u_name)]
def Aii:RF Hz:=RF.to (oB.c oT.o) (fun(a0,a1)=> .mk a0 a1) Bdj
def Bst(x:Ud):List PV:= [.val (.bool x.u_is),.val (.int .i64 x.u_e.Op),.val (.string x.u_e.Name),.val (.int .i64 x.u_e.N),.lst false (.t63 x.u_e.Kids)]
def Ar4:RF Ud:=RF.to (oB.c ((oI .i64).c (oT.c ((oI .i64).c ((oW LX.t63).o))))) (fun(a0,a1,a2,a3,a4)=> .mk a0 (.mk a1 a2 a3 a4)) Bst
def Ark(x:Cr):List PV:= [.val (.bool x.Name),.val (.bool x.Of),.val (.bool x.E),.val (.bool x.F),.val (.bool x.Args),.val (.bool x.Dist),.val (.bool x.Flag),.val (.bool x.Body),.val (.bool x.Else)]
def Bh8:RF Cr:=RF.to (oB.c (oB.c (oB.c (oB.c (oB.c (oB.c (oB.c (oB.c oB.o)))))))) (fun(a0,a1,a2,a3,a4,a5,a6,a7,a8)=> .mk a0 a1 a2 a3 a4 a5 a6 a7 a8) Ark
def lT{α :Type}(K:List α→LX)(f:RF α)(rs:List (List PV)):Option LX:=Agz K (Bss f.d rs)
def sT{α :Type} [Inhabited α](K:List α→LX)(f:RF α)(l:List α)(i off:Nat)(c:List PV):Option LX:=Cme (A7t (f.w (l.getD i default)) (off+c.length)) (fun a=>K (l.set i a)) (f.d (Ox (f.w (l.getD i default)) off c))
def RF.r{α :Type} [Inhabited α](f:RF α)(l:List α)(i:Nat):List PV:=f.w (l.getD i default)
def LX.row(x:LX)(i:Nat):List PV:=match x with
 | .t3 l=>(oI .i64).o.r l i
 | .t4 l=>oB.o.r l i
 | .t9 l=>oT.o.r l i
 | .t37 l=>(oI .i64).o.r l i
 | .t39 l=>Aeo.r l i
 | .t41 l=>Aem.r l i
 | .t48 l=>(oW LX.t9).o.r l i
 | .t53 l=>Wm.r l i
 | .t55 l=>(oW LX.t127).o.r l i
 | .t58 l=>Ze.r l i
 | .t63 l=>Ajk.r l i
 | .t81 l=>Any.r l i
 | .t96 l=>Ajl.r l i
 | .t110 l=>N8.r l i
 | .t113 l=>q7.r l i
 | .t115 l=>Abv.r l i
 | .t119 l=>Aen.r l i
 | .t124 l=>Amv.r l i
 | .t127 l=>Alj.r l i
 | .t160 l=>Aij.r l i
 | .t163 l=>Ajm.r l i
 | .t193 l=>Xw.r l i
 | .t256 l=>Aii.r l i
 | .t258 l=>Ar4.r l i
def LX.set(x:LX)(i off:Nat)(c:List PV):Option LX:=match x with
 | .t3 l=>sT .t3 (oI .i64).o l i off c
 | .t4 l=>sT .t4 oB.o l i off c
 | .t9 l=>sT .t9 oT.o l i off c
 | .t37 l=>sT .t37 (oI .i64).o l i off c
 | .t39 l=>sT .t39 Aeo l i off c
 | .t41 l=>sT .t41 Aem l i off c
 | .t48 l=>sT .t48 (oW LX.t9).o l i off c
 | .t53 l=>sT .t53 Wm l i off c
 | .t55 l=>sT .t55 (oW LX.t127).o l i off c
 | .t58 l=>sT .t58 Ze l i off c
 | .t63 l=>sT .t63 Ajk l i off c
 | .t81 l=>sT .t81 Any l i off c
 | .t96 l=>sT .t96 Ajl l i off c
 | .t110 l=>sT .t110 N8 l i off c
 | .t113 l=>sT .t113 q7 l i off c
 | .t115 l=>sT .t115 Abv l i off c
 | .t119 l=>sT .t119 Aen l i off c
 | .t124 l=>sT .t124 Amv l i off c
 | .t127 l=>sT .t127 Alj l i off c
 | .t160 l=>sT .t160 Aij l i off c
 | .t163 l=>sT .t163 Ajm l i off c
 | .t193 l=>sT .t193 Xw l i off c
 | .t256 l=>sT .t256 Aii l i off c
 | .t258 l=>sT .t258 Ar4 l i off c
def tbl:List (Nat×(List (List PV)→Option LX)):= [(3,lT .t3 (oI .i64).o),(4,lT .t4 oB.o),(9,lT .t9 oT.o),(37,lT .t37 (oI .i64).o),(39,lT .t39 Aeo),(41,lT .t41 Aem),(48,lT .t48 (oW LX.t9).o),(53,lT .t53 Wm),(55,lT .t55 (oW LX.t127).o),(58,lT .t58 Ze),(63,lT .t63 Ajk),(81,lT .t81 Any),(96,lT .t96 Ajl),(110,lT .t110 N8),(113,lT .t113 q7),(115,lT .t115 Abv),(119,lT .t119 Aen),(124,lT .t124 Amv),(127,lT .t127 Alj),(160,lT .t160 Aij),(163,lT .t163 Ajm),(193,lT .t193 Xw),(256,lT .t256 Aii),(258,lT .t258 Ar4)]
def lkT:List (Nat×(List (List PV)→Option LX))→Nat→List (List PV)→Option LX
 | [],_,_=>none
 |(a,f)::r,e,rs=>match Nat.beq e a with
  |true=>f rs
  |false=>lkT r e rs
def LX.lit(e:Nat)(rs:List (List PV)):Option LX:=lkT tbl e rs
def LX.nil(e:Nat):Option LX:=lkT tbl e []
class TG {α :Type} [Inhabited α] (K:List α→LX) (f:outParam (RF α)):Prop where
 row:∀l i,(K l).row i=f.w (l.getD i default):=by intro l i;rfl
 sz:∀a l,(f.w a).length=(K l).sz:=by intro a l;rfl
instance:TG LX.t3 (oI .i64).o:= {}
instance:TG LX.t4 oB.o:= {}
instance:TG LX.t9 oT.o:= {}
instance:TG LX.t37 (oI .i64).o:= {}
instance:TG LX.t39 Aeo:= {}
instance:TG LX.t41 Aem:= {}
instance:TG LX.t48 (oW LX.t9).o:= {}
instance:TG LX.t53 Wm:= {}
instance:TG LX.t55 (oW LX.t127).o:= {}
instance:TG LX.t58 Ze:= {}
instance:TG LX.t63 Ajk:= {}
instance:TG LX.t81 Any:= {}
instance:TG LX.t96 Ajl:= {}
instance:TG LX.t110 N8:= {}
instance:TG LX.t113 q7:= {}
instance:TG LX.t115 Abv:= {}
instance:TG LX.t119 Aen:= {}
instance:TG LX.t124 Amv:= {}
instance:TG LX.t127 Alj:= {}
instance:TG LX.t160 Aij:= {}
instance:TG LX.t163 Ajm:= {}
instance:TG LX.t193 Xw:= {}
instance:TG LX.t256 Aii:= {}
instance:TG LX.t258 Ar4:= {}
def LX.find(x:LX)(c:List PV):Option (Option Nat):=match x,c with
 | .t3 l,[.val (.int k0 a0)]=>match decide (k0= .i64) with
  |true=>some (l.findIdx? fun b=>a0 == b)
  |_=>none
 | .t4 l,[.val (.bool a0)]=>some (l.findIdx? fun b=>a0 == b)
 | .t9 l,[.val (.string a0)]=>some (l.findIdx? fun b=>a0 == b)
 | .t37 l,[.val (.int k0 a0)]=>match decide (k0= .i64) with
  |true=>some (l.findIdx? fun b=>a0 == b)
  |_=>none
 | .t193 l,[.val (.string a0),.val (.string a1)]=>some (l.findIdx? fun b=>(a0 == b.a0 && (a1 == b.a1)))
 |_,_=>none
def LX.push(x:LX)(c:List PV):Option LX:=match LX.lit x.e [c] with
 |some y=>x.cat y
 |none=>none
theorem Bj3{α :Type} [Inhabited α](l m:List α)(i:Nat)(h:i < l.length):(l++m).getD i default=l.getD i default:=by
 simp [List.getD,List.getElem?_append_left h]
theorem Bj4{α :Type} [Inhabited α](l m:List α)(i:Nat):(l++m).getD (l.length+i) default=m.getD i default:=by
 simp [List.getD,List.getElem?_append_right]
theorem Bvc{α :Type} [Inhabited α](l:List α)(a b i:Nat)(h1:b≤l.length)(h2:i < b - a):((l.take b).drop a).getD i default=l.getD (a+i) default:=by
 simp only [List.getD_eq_getElem?_getD,List.getElem?_drop,List.getElem?_take]
 rw [if_pos (by omega)]
theorem Bvb{α :Type} [Inhabited α](n i:Nat)(a: α)(h:i < n):(List.replicate n a).getD i default=a:=by
 simp [List.getD_eq_getElem?_getD,List.getElem?_replicate,h]
theorem Bgg{α :Type} [Inhabited α](l:List α)(i:Nat)(a: α)(h:i < l.length):(l.set i a).getD i default=a:=by
 simp [List.getD_eq_getElem?_getD,h]
theorem Bgh{α :Type} [Inhabited α](l:List α)(i j:Nat)(a: α)(h:j≠i):(l.set i a).getD j default=l.getD j default:=by
 simp [List.getD_eq_getElem?_getD,List.getElem?_set_ne (fun e=>h e.symm)]
theorem Hb{α :Type} [Inhabited α](l:List α)(i:Nat)(h:i < l.length):l.getD i default=l[i]:=by
 simp [List.getD_eq_getElem?_getD,h]
theorem Bkb(l:List PV):∀n,A7t l n=true↔n≤l.length:=by
 induction l with
 |nil=>intro n;cases n<;>simp [A7t]
 |cons p r ih=>intro n;cases n<;>simp [A7t,ih]
section
variable {α :Type} [Inhabited α] {K:List α→LX} {f:RF α} {g:LX→Option (List α)} {e sz:Nat}
theorem Cra [q:TG K f](l:List α)(i:Nat):∀p∈(K l).row i,p.flat=true:=Bbq _ (by rw [q.row];exact f.fl _)
theorem Crb [q:TG K f](l:List α)(i:Nat):((K l).row i).length=(K l).sz:=by rw [q.row];exact q.sz _ _
def Buh(p:Nat×(List (List PV)→Option LX)):Prop:=∀rs x,p.2 rs=some x→x.e=p.1∧x.len=rs.length∧∀(i:Nat) (r:List PV),rs[i]? =some r→Ai8 r (x.row i)
theorem Cqm [k:TL K g e sz] [q:TG K f]:Buh (e,lT K f):=by
 intro rs x h
 simp only [lT,Agz] at h
 cases hl:Bss f.d rs with
 |none=>rw [hl] at h;cases h
 |some l=>
  rw [hl] at h
  injection h with h;subst h
  obtain ⟨q1,q2⟩:=Bbj f.le rs l hl
  exact ⟨k.e _,by rw [k.len];exact q1,fun i r hr=>by rw [q.row];exact q2 i r hr⟩
theorem Cqh [k:TL K g e sz] [q:TG K f]{y z:LX}{l:List α}(h:Agz (fun m=>K (l++m)) (g y)=some z):y.e=(K l).e∧z.e=(K l).e∧y.sz=(K l).sz∧z.sz=(K l).sz∧z.len=(K l).len+y.len∧(∀i,i < (K l).len→z.row i=(K l).row i)∧(∀i,z.row ((K l).len+i)=y.row i):=by
 cases hg:g y with
 |none=>rw [hg] at h;cases h
 |some m=>
  rw [hg] at h
  injection h with h;subst h
  rw [k.gk y m hg]
  simp only [k.e,k.sz,k.len,q.row,List.length_append,true_and]
  exact ⟨fun i hi=>by rw [Bj3 l m i hi],fun i=>by rw [Bj4]⟩
theorem Cr6 [k:TL K g e sz] [q:TG K f](l:List α)(a b:Nat)(h:b≤(K l).len):(K ((l.take b).drop a)).e=(K l).e∧(K ((l.take b).drop a)).sz=(K l).sz∧(K ((l.take b).drop a)).len=b - a∧∀i,i < b - a→(K ((l.take b).drop a)).row i=(K l).row (a+i):=by
 simp only [k.e,k.sz,k.len,q.row,true_and] at h ⊢
 exact ⟨by simp;omega,fun i hi=>by rw [Bvc l a b i h hi]⟩
theorem Cq9 [k:TL K g e sz] [q:TG K f](l:List α)(n:Nat):(K (List.replicate n (l.getD 0 default))).e=(K l).e∧(K (List.replicate n (l.getD 0 default))).sz=(K l).sz∧(K (List.replicate n (l.getD 0 default))).len=n∧∀i,i < n→(K (List.replicate n (l.getD 0 default))).row i=(K l).row 0:=by
 simp only [k.e,k.sz,k.len,q.row,true_and]
 exact ⟨List.length_replicate,fun i hi=>by rw [Bvb n i _ hi]⟩
theorem Cr5 [k:TL K g e sz] [q:TG K f]{i off:Nat}{c:List PV}{l:List α}{y:LX}(h:sT K f l i off c=some y):y.e=(K l).e∧y.sz=(K l).sz∧y.len=(K l).len∧off+c.length≤(K l).sz∧(i < (K l).len→Ai8 (Ox ((K l).row i) off c) (y.row i))∧∀j,j≠i→y.row j=(K l).row j:=by
 unfold sT Cme at h
 split at h
 ·rename_i a h1 h2
  injection h with h;subst h
  simp only [k.e,k.sz,k.len,q.row,true_and]
  refine ⟨List.length_set,by rw [←k.sz l,←q.sz (l.getD i default) l];exact (Bkb _ _).1 h1,fun hi=> ?_,fun j hj=> ?_⟩
  ·rw [Bgg l i a hi]
   exact f.le _ _ h2
  ·rw [Bgh l i j a hj]
 ·cases h
end
theorem LX.row_len(x:LX)(i:Nat):(x.row i).length=x.sz:=by cases x<;>exact Crb _ _
theorem LX.row_flat(x:LX)(i:Nat):∀p∈x.row i,p.flat=true:=by cases x<;>exact Cra _ _
def B80:List (Nat×(List (List PV)→Option LX))→Prop
 | []=>True
 |p::r=>Buh p∧B80 r
theorem Cop:B80 tbl:=by
 unfold tbl
 repeat (first|exact trivial|refine ⟨Cqm,?_⟩)
theorem Bxt:∀(l:List (Nat×(List (List PV)→Option LX))),B80 l→∀e,Buh (e,lkT l e)
 | [],_,e,rs,x,h=>by cases h
 |(a,f)::r,hl,e,rs,x,h=>by
  change (match Nat.beq e a with
   |true=>f rs
   |false=>lkT r e rs)=some x at h
  cases hb:Nat.beq e a with
  |true=>
   rw [hb] at h
   rw [Nat.eq_of_beq_eq_true hb]
   exact hl.1 rs x h
  |false=>
   rw [hb] at h
   exact Bxt r hl.2 e rs x h
theorem LX.lit_spec(e:Nat)(rs:List (List PV))(x:LX)(h:LX.lit e rs=some x):x.e=e∧x.len=rs.length∧∀(i:Nat) (r:List PV),rs[i]? =some r→Ai8 r (x.row i):=Bxt tbl Cop e rs x h
theorem LX.nil_spec(e:Nat)(x:LX)(h:LX.nil e=some x):x.e=e∧x.len=0:=⟨(LX.lit_spec e [] x h).1,(LX.lit_spec e [] x h).2.1⟩
theorem LX.cat_spec(x y z:LX)(h:x.cat y=some z):y.e=x.e∧z.e=x.e∧y.sz=x.sz∧z.sz=x.sz∧z.len=x.len+y.len∧(∀i,i < x.len→z.row i=x.row i)∧(∀i,z.row (x.len+i)=y.row i):=by cases x<;>exact Cqh h
theorem LX.sub_spec(x:LX)(a b:Nat)(h:b≤x.len):(x.sub a b).e=x.e∧(x.sub a b).sz=x.sz∧(x.sub a b).len=b - a∧∀i,i < b - a→(x.sub a b).row i=x.row (a+i):=by cases x<;>exact Cr6 _ a b h
theorem LX.rep_spec(x:LX)(n:Nat):(x.rep n).e=x.e∧(x.rep n).sz=x.sz∧(x.rep n).len=n∧∀i,i < n→(x.rep n).row i=x.row 0:=by cases x<;>exact Cq9 _ n
theorem LX.set_spec(x:LX)(i off:Nat)(c:List PV)(y:LX)(h:LX.set x i off c=some y):y.e=x.e∧y.sz=x.sz∧y.len=x.len∧off+c.length≤x.sz∧(i < x.len→Ai8 (Ox (x.row i) off c) (y.row i))∧∀j,j≠i→y.row j=x.row j:=by cases x<;>exact Cr5 h
theorem Amf{α :Type} [Inhabited α]{l:List α}{p: α→Bool}{r:Option Nat}(h:l.findIdx? p=r):
  (r=none→∀i,i < l.length→p (l.getD i default)=false)∧(∀i,r=some i→i < l.length∧p (l.getD i default)=true∧∀j,j < i→p (l.getD j default)=false):=by
 subst h
 refine ⟨fun h i hi=> ?_,fun i h=> ?_⟩
 ·have:=List.findIdx?_eq_none_iff.1 h (l.getD i default) (by rw [Hb l i hi];exact List.getElem_mem hi)
  simpa using this
 ·obtain ⟨h1,h2,h3⟩:=List.findIdx?_eq_some_iff_getElem.1 h
  refine ⟨h1,by rw [Hb l i h1];exact h2,fun j hj=> ?_⟩
  rw [Hb l j (by omega)]
  simpa using h3 j hj
theorem LX.find_spec(x:LX)(c:List PV)(r:Option Nat)(h:LX.find x c=some r):(r=none→∀i,i < x.len→Anz c (x.row i)=some false)∧(∀i,r=some i→i < x.len∧Anz c (x.row i)=some true∧∀j,j < i→Anz c (x.row j)=some false):=by
 unfold LX.find at h
 split at h
 ·rename_i l k0 a0
  split at h
  ·rename_i hk0
   have e0:=of_decide_eq_true hk0
   subst e0
   injection h with h;subst h
   obtain ⟨s1,s2⟩:=Amf (rfl:l.findIdx? (fun b=>a0 == b)=_)
   have key:∀i b,(a0 == (l.getD i default))=b→Anz [.val (.int .i64 a0)] ((LX.t3 l).row i)=some b:=fun i b hb=>congrArg some hb
   exact ⟨fun hr i hi=>key _ _ (s1 hr i hi),fun i hr=>⟨(s2 i hr).1,key _ _ (s2 i hr).2.1,fun j hj=>key _ _ ((s2 i hr).2.2 j hj)⟩⟩
  ·cases h
 ·rename_i l a0
  injection h with h;subst h
  obtain ⟨s1,s2⟩:=Amf (rfl:l.findIdx? (fun b=>a0 == b)=_)
  have key:∀i b,(a0 == (l.getD i default))=b→Anz [.val (.bool a0)] ((LX.t4 l).row i)=some b:=fun i b hb=>congrArg some hb
  exact ⟨fun hr i hi=>key _ _ (s1 hr i hi),fun i hr=>⟨(s2 i hr).1,key _ _ (s2 i hr).2.1,fun j hj=>key _ _ ((s2 i hr).2.2 j hj)⟩⟩
 ·rename_i l a0
  injection h with h;subst h
  obtain ⟨s1,s2⟩:=Amf (rfl:l.findIdx? (fun b=>a0 == b)=_)
  have key:∀i b,(a0 == (l.getD i default))=b→Anz [.val (.string a0)] ((LX.t9 l).row i)=some b:=fun i b hb=>congrArg some hb
  exact ⟨fun hr i hi=>key _ _ (s1 hr i hi),fun i hr=>⟨(s2 i hr).1,key _ _ (s2 i hr).2.1,fun j hj=>key _ _ ((s2 i hr).2.2 j hj)⟩⟩
 ·rename_i l k0 a0
  split at h
  ·rename_i hk0
   have e0:=of_decide_eq_true hk0
   subst e0
   injection h with h;subst h
   obtain ⟨s1,s2⟩:=Amf (rfl:l.findIdx? (fun b=>a0 == b)=_)
   have key:∀i b,(a0 == (l.getD i default))=b→Anz [.val (.int .i64 a0)] ((LX.t37 l).row i)=some b:=fun i b hb=>congrArg some hb
   exact ⟨fun hr i hi=>key _ _ (s1 hr i hi),fun i hr=>⟨(s2 i hr).1,key _ _ (s2 i hr).2.1,fun j hj=>key _ _ ((s2 i hr).2.2 j hj)⟩⟩
  ·cases h
 ·rename_i l a0 a1
  injection h with h;subst h
  obtain ⟨s1,s2⟩:=Amf (rfl:l.findIdx? (fun b=>(a0 == b.a0 && (a1 == b.a1)))=_)
  have key:∀i b,((a0 == (l.getD i default).a0 && (a1 == (l.getD i default).a1)))=b→Anz [.val (.string a0),.val (.string a1)] ((LX.t193 l).row i)=some b:=fun i b hb=>congrArg some hb
  exact ⟨fun hr i hi=>key _ _ (s1 hr i hi),fun i hr=>⟨(s2 i hr).1,key _ _ (s2 i hr).2.1,fun j hj=>key _ _ ((s2 i hr).2.2 j hj)⟩⟩
 ·cases h
end Go.Proofs.YtofcpkmnhmnfcaaGreatR.Ev
