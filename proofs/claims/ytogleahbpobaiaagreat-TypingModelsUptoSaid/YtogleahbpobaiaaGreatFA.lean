/-  The types of the data, and of rows of them. -/
import Derived.Test.YtogleahbpobaiaaGreatRows
import Derived.WalkKit
import Derived.LoopN
import Derived.Great.BuildSlice
import Derived.Deep.Draws
namespace Go.Proofs.YtogleahbpobaiaaGreat.Ev
open Go
set_option linter.unusedVariables false
set_option linter.unusedSimpArgs false
set_option linter.unnecessarySimpa false
structure Bq where
 a0:ByteArray
 a1:ByteArray
 deriving Inhabited
structure B9 where
 Name:Bool
 Of:Bool
 E:Bool
 F:Bool
 Args:Bool
 Dist:Bool
 Flag:Bool
 Body:Bool
 Else:Bool
 deriving Inhabited
inductive Ab where
 |mk (Op:Int) (Name:ByteArray) (N:Int) (Kids:(List Ab))
instance:Inhabited Ab:=⟨.mk 0 ByteArray.empty 0 []⟩
def Ab.Op:Ab→Int| .mk x _ _ _=>x
def Ab.Name:Ab→ByteArray| .mk _ x _ _=>x
def Ab.N:Ab→Int| .mk _ _ x _=>x
def Ab.Kids:Ab→(List Ab)| .mk _ _ _ x=>x
def Ab.cp(x:Ab):Ab:= .mk x.Op x.Name x.N x.Kids
theorem Ab.cp_eq(x:Ab):Ab.cp x=x:=by cases x;rfl
theorem Ab.eta(x:Ab):Ab.mk x.Op x.Name x.N x.Kids=x:=by cases x;rfl
structure Nh where
 u_is:Bool
 u_e:Ab
 deriving Inhabited
structure E9 where
 u_is:Bool
 u_name:ByteArray
 deriving Inhabited
structure Ar where
 Name:ByteArray
 Length:Int
 Step:Int
 deriving Inhabited
structure Cu where
 At:Int
 Units:Int
 deriving Inhabited
structure Bf where
 Op:Int
 A:Int
 B:Int
 N:Int
 Values:(List Int)
 Weights:(List Int)
 deriving Inhabited
structure Ao where
 Name:ByteArray
 Type_:Int
 deriving Inhabited
structure Au where
 Coef:Int
 What:ByteArray
 Name:ByteArray
 deriving Inhabited
structure Ax where
 Name:ByteArray
 Terms:(List Au)
 Total:Int
 deriving Inhabited
structure F4 where
 Stream:ByteArray
 Up:Bf
 Down:Bf
 deriving Inhabited
structure Af where
 Name:ByteArray
 Units:Int
 Shift:(List Cu)
 Cycle:Int
 Fault:F4
 deriving Inhabited
inductive Ac where
 |mk (Op:Int) (Name:ByteArray) (Of:ByteArray) (E:Ab) (F:Ab) (Args:(List Ab)) (Dist:Bf) (Flag:Bool) (Body:(List Ac)) (Else:(List Ac))
instance:Inhabited Ac:=⟨.mk 0 ByteArray.empty ByteArray.empty default default [] default false [] []⟩
def Ac.Op:Ac→Int| .mk x _ _ _ _ _ _ _ _ _=>x
def Ac.Name:Ac→ByteArray| .mk _ x _ _ _ _ _ _ _ _=>x
def Ac.Of:Ac→ByteArray| .mk _ _ x _ _ _ _ _ _ _=>x
def Ac.E:Ac→Ab| .mk _ _ _ x _ _ _ _ _ _=>x
def Ac.F:Ac→Ab| .mk _ _ _ _ x _ _ _ _ _=>x
def Ac.Args:Ac→(List Ab)| .mk _ _ _ _ _ x _ _ _ _=>x
def Ac.Dist:Ac→Bf| .mk _ _ _ _ _ _ x _ _ _=>x
def Ac.Flag:Ac→Bool| .mk _ _ _ _ _ _ _ x _ _=>x
def Ac.Body:Ac→(List Ac)| .mk _ _ _ _ _ _ _ _ x _=>x
def Ac.Else:Ac→(List Ac)| .mk _ _ _ _ _ _ _ _ _ x=>x
def Ac.cp(x:Ac):Ac:= .mk x.Op x.Name x.Of (Ab.cp x.E) (Ab.cp x.F) x.Args x.Dist x.Flag x.Body x.Else
theorem Ac.cp_eq(x:Ac):Ac.cp x=x:=by cases x;simp only [Ac.cp,Ab.cp_eq,Ac.Op,Ac.Name,Ac.Of,Ac.E,Ac.F,Ac.Args,Ac.Dist,Ac.Flag,Ac.Body,Ac.Else]
theorem Ac.eta(x:Ac):Ac.mk x.Op x.Name x.Of x.E x.F x.Args x.Dist x.Flag x.Body x.Else=x:=by cases x;rfl
structure Ai where
 Name:ByteArray
 Params:(List Ao)
 Locals:(List Ao)
 Body:(List Ac)
 deriving Inhabited
structure Bh where
 Routine:ByteArray
 Args:(List Int)
 At:Int
 Every:Int
 Until:Int
 deriving Inhabited
structure Ap where
 Name:ByteArray
 Room:Int
 Policy:Int
 deriving Inhabited
structure Al where
 Name:ByteArray
 Type_:Int
 N:Int
 deriving Inhabited
structure Aa where
 Name:ByteArray
 Vars:(List Al)
 Resources:(List Af)
 Stores:(List Ap)
 Belts:(List Ar)
 Queues:(List ByteArray)
 Streams:(List ByteArray)
 Tallies:(List ByteArray)
 Levels:(List ByteArray)
 Counts:(List ByteArray)
 Routines:(List Ai)
 Starts:(List Bh)
 Laws:(List Ax)
 deriving Inhabited
structure Aq where
 Params:(List Al)
 Locals:(List Ao)
 Site:Aa
 deriving Inhabited
structure Bg where
 From:ByteArray
 To:ByteArray
 Delay:Int
 deriving Inhabited
structure Ad where
 Name:ByteArray
 Params:(List Al)
 Sites:(List Aa)
 Links:(List Bg)
 deriving Inhabited
structure Bt where
 u_code:Bool
 deriving Inhabited
structure Bn where
 u_name:Bool
 u_of:Bool
 u_e:Bool
 u_f:Bool
 u_args:Bool
 u_dist:Bool
 u_flag:Bool
 u_body:Bool
 u_other:Bool
 deriving Inhabited
structure Aj where
 u_m:Ad
 u_site:Int
 u_env:Aq
 deriving Inhabited
inductive LX where
 |t3 (l:List Int)
 |t4 (l:List Bool)
 |t9 (l:List ByteArray)
 |t23 (l:List (List Ao))
 |t27 (l:List (List ByteArray))
 |t32 (l:List Aa)
 |t38 (l:List Ab)
 |t41 (l:List Int)
 |t55 (l:List Ao)
 |t57 (l:List Al)
 |t60 (l:List Ai)
 |t69 (l:List Ac)
 |t116 (l:List Af)
 |t123 (l:List Ap)
 |t127 (l:List Ar)
 |t133 (l:List Bh)
 |t139 (l:List Bg)
 |t140 (l:List Bq)
 |t151 (l:List Ax)
 |t178 (l:List Cu)
 |t186 (l:List Au)
 |t199 (l:List E9)
 |t201 (l:List Nh)
 deriving Inhabited
def LX.e:LX→Nat
 | .t3 l=>3
 | .t4 l=>4
 | .t9 l=>9
 | .t23 l=>23
 | .t27 l=>27
 | .t32 l=>32
 | .t38 l=>38
 | .t41 l=>41
 | .t55 l=>55
 | .t57 l=>57
 | .t60 l=>60
 | .t69 l=>69
 | .t116 l=>116
 | .t123 l=>123
 | .t127 l=>127
 | .t133 l=>133
 | .t139 l=>139
 | .t140 l=>140
 | .t151 l=>151
 | .t178 l=>178
 | .t186 l=>186
 | .t199 l=>199
 | .t201 l=>201
def LX.sz:LX→Nat
 | .t3 l=>1
 | .t4 l=>1
 | .t9 l=>1
 | .t23 l=>1
 | .t27 l=>1
 | .t32 l=>13
 | .t38 l=>4
 | .t41 l=>1
 | .t55 l=>2
 | .t57 l=>3
 | .t60 l=>4
 | .t69 l=>21
 | .t116 l=>17
 | .t123 l=>3
 | .t127 l=>3
 | .t133 l=>5
 | .t139 l=>3
 | .t140 l=>2
 | .t151 l=>3
 | .t178 l=>2
 | .t186 l=>3
 | .t199 l=>2
 | .t201 l=>5
def LX.len:LX→Nat
 | .t3 l=>l.length
 | .t4 l=>l.length
 | .t9 l=>l.length
 | .t23 l=>l.length
 | .t27 l=>l.length
 | .t32 l=>l.length
 | .t38 l=>l.length
 | .t41 l=>l.length
 | .t55 l=>l.length
 | .t57 l=>l.length
 | .t60 l=>l.length
 | .t69 l=>l.length
 | .t116 l=>l.length
 | .t123 l=>l.length
 | .t127 l=>l.length
 | .t133 l=>l.length
 | .t139 l=>l.length
 | .t140 l=>l.length
 | .t151 l=>l.length
 | .t178 l=>l.length
 | .t186 l=>l.length
 | .t199 l=>l.length
 | .t201 l=>l.length
def LX.g3:LX→Option (List Int)
 | .t3 l=>some l
 |_=>none
def LX.g4:LX→Option (List Bool)
 | .t4 l=>some l
 |_=>none
def LX.g9:LX→Option (List ByteArray)
 | .t9 l=>some l
 |_=>none
def LX.g23:LX→Option (List (List Ao))
 | .t23 l=>some l
 |_=>none
def LX.g27:LX→Option (List (List ByteArray))
 | .t27 l=>some l
 |_=>none
def LX.g32:LX→Option (List Aa)
 | .t32 l=>some l
 |_=>none
def LX.g38:LX→Option (List Ab)
 | .t38 l=>some l
 |_=>none
def LX.g41:LX→Option (List Int)
 | .t41 l=>some l
 |_=>none
def LX.g55:LX→Option (List Ao)
 | .t55 l=>some l
 |_=>none
def LX.g57:LX→Option (List Al)
 | .t57 l=>some l
 |_=>none
def LX.g60:LX→Option (List Ai)
 | .t60 l=>some l
 |_=>none
def LX.g69:LX→Option (List Ac)
 | .t69 l=>some l
 |_=>none
def LX.g116:LX→Option (List Af)
 | .t116 l=>some l
 |_=>none
def LX.g123:LX→Option (List Ap)
 | .t123 l=>some l
 |_=>none
def LX.g127:LX→Option (List Ar)
 | .t127 l=>some l
 |_=>none
def LX.g133:LX→Option (List Bh)
 | .t133 l=>some l
 |_=>none
def LX.g139:LX→Option (List Bg)
 | .t139 l=>some l
 |_=>none
def LX.g140:LX→Option (List Bq)
 | .t140 l=>some l
 |_=>none
def LX.g151:LX→Option (List Ax)
 | .t151 l=>some l
 |_=>none
def LX.g178:LX→Option (List Cu)
 | .t178 l=>some l
 |_=>none
def LX.g186:LX→Option (List Au)
 | .t186 l=>some l
 |_=>none
def LX.g199:LX→Option (List E9)
 | .t199 l=>some l
 |_=>none
def LX.g201:LX→Option (List Nh)
 | .t201 l=>some l
 |_=>none
def Ni{α :Type}(K: α→LX)(o:Option α):Option LX:=match o with
 |some l=>some (K l)
 |none=>none
def Agt{α :Type}(b:Bool)(K: α→LX)(o:Option α):Option LX:=match b,o with
 |true,some l=>some (K l)
 |_,_=>none
def LX.cat(x y:LX):Option LX:=match x with
 | .t3 l=>Ni (fun m=> .t3 (l++m)) y.g3
 | .t4 l=>Ni (fun m=> .t4 (l++m)) y.g4
 | .t9 l=>Ni (fun m=> .t9 (l++m)) y.g9
 | .t23 l=>Ni (fun m=> .t23 (l++m)) y.g23
 | .t27 l=>Ni (fun m=> .t27 (l++m)) y.g27
 | .t32 l=>Ni (fun m=> .t32 (l++m)) y.g32
 | .t38 l=>Ni (fun m=> .t38 (l++m)) y.g38
 | .t41 l=>Ni (fun m=> .t41 (l++m)) y.g41
 | .t55 l=>Ni (fun m=> .t55 (l++m)) y.g55
 | .t57 l=>Ni (fun m=> .t57 (l++m)) y.g57
 | .t60 l=>Ni (fun m=> .t60 (l++m)) y.g60
 | .t69 l=>Ni (fun m=> .t69 (l++m)) y.g69
 | .t116 l=>Ni (fun m=> .t116 (l++m)) y.g116
 | .t123 l=>Ni (fun m=> .t123 (l++m)) y.g123
 | .t127 l=>Ni (fun m=> .t127 (l++m)) y.g127
 | .t133 l=>Ni (fun m=> .t133 (l++m)) y.g133
 | .t139 l=>Ni (fun m=> .t139 (l++m)) y.g139
 | .t140 l=>Ni (fun m=> .t140 (l++m)) y.g140
 | .t151 l=>Ni (fun m=> .t151 (l++m)) y.g151
 | .t178 l=>Ni (fun m=> .t178 (l++m)) y.g178
 | .t186 l=>Ni (fun m=> .t186 (l++m)) y.g186
 | .t199 l=>Ni (fun m=> .t199 (l++m)) y.g199
 | .t201 l=>Ni (fun m=> .t201 (l++m)) y.g201
def LX.sub(x:LX)(a b:Nat):LX:=match x with
 | .t3 l=> .t3 ((l.take b).drop a)
 | .t4 l=> .t4 ((l.take b).drop a)
 | .t9 l=> .t9 ((l.take b).drop a)
 | .t23 l=> .t23 ((l.take b).drop a)
 | .t27 l=> .t27 ((l.take b).drop a)
 | .t32 l=> .t32 ((l.take b).drop a)
 | .t38 l=> .t38 ((l.take b).drop a)
 | .t41 l=> .t41 ((l.take b).drop a)
 | .t55 l=> .t55 ((l.take b).drop a)
 | .t57 l=> .t57 ((l.take b).drop a)
 | .t60 l=> .t60 ((l.take b).drop a)
 | .t69 l=> .t69 ((l.take b).drop a)
 | .t116 l=> .t116 ((l.take b).drop a)
 | .t123 l=> .t123 ((l.take b).drop a)
 | .t127 l=> .t127 ((l.take b).drop a)
 | .t133 l=> .t133 ((l.take b).drop a)
 | .t139 l=> .t139 ((l.take b).drop a)
 | .t140 l=> .t140 ((l.take b).drop a)
 | .t151 l=> .t151 ((l.take b).drop a)
 | .t178 l=> .t178 ((l.take b).drop a)
 | .t186 l=> .t186 ((l.take b).drop a)
 | .t199 l=> .t199 ((l.take b).drop a)
 | .t201 l=> .t201 ((l.take b).drop a)
def LX.rep(x:LX)(n:Nat):LX:=match x with
 | .t3 l=> .t3 (List.replicate n (l.getD 0 default))
 | .t4 l=> .t4 (List.replicate n (l.getD 0 default))
 | .t9 l=> .t9 (List.replicate n (l.getD 0 default))
 | .t23 l=> .t23 (List.replicate n (l.getD 0 default))
 | .t27 l=> .t27 (List.replicate n (l.getD 0 default))
 | .t32 l=> .t32 (List.replicate n (l.getD 0 default))
 | .t38 l=> .t38 (List.replicate n (l.getD 0 default))
 | .t41 l=> .t41 (List.replicate n (l.getD 0 default))
 | .t55 l=> .t55 (List.replicate n (l.getD 0 default))
 | .t57 l=> .t57 (List.replicate n (l.getD 0 default))
 | .t60 l=> .t60 (List.replicate n (l.getD 0 default))
 | .t69 l=> .t69 (List.replicate n (l.getD 0 default))
 | .t116 l=> .t116 (List.replicate n (l.getD 0 default))
 | .t123 l=> .t123 (List.replicate n (l.getD 0 default))
 | .t127 l=> .t127 (List.replicate n (l.getD 0 default))
 | .t133 l=> .t133 (List.replicate n (l.getD 0 default))
 | .t139 l=> .t139 (List.replicate n (l.getD 0 default))
 | .t140 l=> .t140 (List.replicate n (l.getD 0 default))
 | .t151 l=> .t151 (List.replicate n (l.getD 0 default))
 | .t178 l=> .t178 (List.replicate n (l.getD 0 default))
 | .t186 l=> .t186 (List.replicate n (l.getD 0 default))
 | .t199 l=> .t199 (List.replicate n (l.getD 0 default))
 | .t201 l=> .t201 (List.replicate n (l.getD 0 default))
def LX.nil(e:Nat):Option LX:=match Nat.beq e 3 with
 |true=>some (.t3 [])
 |false=>match Nat.beq e 4 with
 |true=>some (.t4 [])
 |false=>match Nat.beq e 9 with
 |true=>some (.t9 [])
 |false=>match Nat.beq e 23 with
 |true=>some (.t23 [])
 |false=>match Nat.beq e 27 with
 |true=>some (.t27 [])
 |false=>match Nat.beq e 32 with
 |true=>some (.t32 [])
 |false=>match Nat.beq e 38 with
 |true=>some (.t38 [])
 |false=>match Nat.beq e 41 with
 |true=>some (.t41 [])
 |false=>match Nat.beq e 55 with
 |true=>some (.t55 [])
 |false=>match Nat.beq e 57 with
 |true=>some (.t57 [])
 |false=>match Nat.beq e 60 with
 |true=>some (.t60 [])
 |false=>match Nat.beq e 69 with
 |true=>some (.t69 [])
 |false=>match Nat.beq e 116 with
 |true=>some (.t116 [])
 |false=>match Nat.beq e 123 with
 |true=>some (.t123 [])
 |false=>match Nat.beq e 127 with
 |true=>some (.t127 [])
 |false=>match Nat.beq e 133 with
 |true=>some (.t133 [])
 |false=>match Nat.beq e 139 with
 |true=>some (.t139 [])
 |false=>match Nat.beq e 140 with
 |true=>some (.t140 [])
 |false=>match Nat.beq e 151 with
 |true=>some (.t151 [])
 |false=>match Nat.beq e 178 with
 |true=>some (.t178 [])
 |false=>match Nat.beq e 186 with
 |true=>some (.t186 [])
 |false=>match Nat.beq e 199 with
 |true=>some (.t199 [])
 |false=>match Nat.beq e 201 with
 |true=>some (.t201 [])
 |false=>none
end Go.Proofs.YtogleahbpobaiaaGreat.Ev
namespace Go.Proofs.YtogleahbpobaiaaGreat.Ev
open Go
set_option linter.unusedVariables false
set_option linter.unusedSimpArgs false
set_option linter.unnecessarySimpa false
inductive PV where
 |any
 |val (v:Value)
 |agg (l:List PV)
 |tup (l:List PV)
 |sl (own:Bool) (e sz:Nat) (es:List (List PV))
 |lst (own:Bool) (x:LX)
 |ref (l:List PV)
 |loc (d off:Nat)
 |el (d sz i off:Nat)
 |vw (c:Bool) (d e sz n:Nat)
 |mp (d:Nat)
 |clo (f n:Nat) (caps:List PV)
 |arrO (x:LX)
 |mapO (gk gv:Bool) (ks vs:LX)
 deriving Inhabited
def PV.view:PV→PV
 | .sl _ e sz es=> .sl false e sz es
 | .lst _ x=> .lst false x
 |p=>p
def PV.flat:PV→Bool
 | .any=>true
 | .val _=>true
 | .lst _ _=>true
 |_=>false
inductive PV.Le:PV→PV→Prop
 |view (p:PV):PV.Le p p.view
 |nil (own:Bool) (y:LX) (h:y.len=0):PV.Le (.val (.slice none 0 0)) (.lst own y)
def Gi(l:List PV)(off:Nat)(new:List PV):List PV:=match l,off,new with
 | [],_,_=> []
 |l,_,[]=>l
 |_::r,0,q::new=>q::Gi r 0 new
 |p::r,n+1,new=>p::Gi r n new
def Asx:PV→PV→Option Bool
 | .val (.int k a),.val (.int k' b)=>match decide (k=k') with
  |true=>some (a == b)
  |false=>none
 | .val (.string a),.val (.string b)=>some (a == b)
 | .val (.bool a),.val (.bool b)=>some (a == b)
 |_,_=>none
def A8e:PV→List PV→PV→List PV→Option Bool
 |a,[],b,[]=>Asx a b
 |a,a'::l,b,b'::m=>match Asx a b,A8e a' l b' m with
  |some x,some y=>some (x && y)
  |_,_=>none
 |_,_,_,_=>none
def Aj6:List PV→List PV→Option Bool
 |a::l,b::m=>A8e a l b m
 |_,_=>none
end Go.Proofs.YtogleahbpobaiaaGreat.Ev
namespace Go.Proofs.YtogleahbpobaiaaGreat.Ev
open Go
set_option linter.unusedVariables false
set_option linter.unusedSimpArgs false
set_option linter.unnecessarySimpa false
def Jx(l:List PV)(n:Nat):Bool:=match l,n with
 |_,0=>true
 |_::r,n+1=>Jx r n
 |_,_=>false
def Et(k:IntKind):PV→Option Int
 | .val (.int k' a)=>match decide (k'=k) with
  |true=>some a
  |false=>none
 |_=>none
def R3:PV→Option Bool
 | .val (.bool a)=>some a
 |_=>none
def O3:PV→Option ByteArray
 | .val (.string a)=>some a
 |_=>none
inductive B8:List PV→List PV→Prop
 |nil:B8 [] []
 |cons {p q:PV} {r s:List PV} (h:PV.Le p q) (hr:B8 r s):B8 (p::r) (q::s)
theorem Bm{k:IntKind}{p:PV}{a:Int}(h:Et k p=some a):PV.Le p (.val (.int k a)):=by
 unfold Et at h
 split at h
 ·split at h
  ·rename_i hk
   have:=of_decide_eq_true hk
   subst this
   injection h with h;subst h;exact .view _
  ·cases h
 ·cases h
theorem F0{p:PV}{a:Bool}(h:R3 p=some a):PV.Le p (.val (.bool a)):=by
 unfold R3 at h
 split at h
 ·injection h with h;subst h;exact .view _
 ·cases h
theorem C4{p:PV}{a:ByteArray}(h:O3 p=some a):PV.Le p (.val (.string a)):=by
 unfold O3 at h
 split at h
 ·injection h with h;subst h;exact .view _
 ·cases h
def w6{α :Type}(d:List PV→Option α):List (List PV)→Option (List α)
 | []=>some []
 |r::rs=>match d r,w6 d rs with
  |some a,some l=>some (a::l)
  |_,_=>none
theorem A7h{α :Type} [Inhabited α]{d:List PV→Option α}{row: α→List PV}(hd:∀r a,d r=some a→B8 r (row a)):∀(rs:List (List PV)) (l:List α),w6 d rs=some l→
  l.length=rs.length∧∀(i:Nat) (r:List PV),rs[i]? =some r→B8 r (row (l.getD i default))
 | [],l,h=>by
  simp only [w6,Option.some.injEq] at h
  subst h
  exact ⟨rfl,fun i r hr=>by simp at hr⟩
 |r::rs,l,h=>by
  simp only [w6] at h
  split at h
  ·rename_i a m h1 h2
   injection h with h
   subst h
   obtain ⟨q1,q2⟩:=A7h hd rs m h2
   refine ⟨by simp [q1],fun i x hx=> ?_⟩
   cases i with
   |zero=>simp at hx;subst hx;simpa using hd _ _ h1
   |succ i=>simpa using q2 i x (by simpa using hx)
  ·cases h
def Bp9:List PV→Bool
 | []=>true
 |p::r=>match p.flat with
  |true=>Bp9 r
  |false=>false
theorem A7t:∀(l:List PV),Bp9 l=true→∀p∈l,p.flat=true
 | [],_,p,h=>by cases h
 |q::r,h,p,hp=>by
  simp only [Bp9] at h
  cases hq:q.flat with
  |false=>rw [hq] at h;cases h
  |true=>
   rw [hq] at h
   rcases List.mem_cons.1 hp with e|e
   ·subst e;exact hq
   ·exact A7t r h p e
def dl3:PV→Option (List Int)
 | .lst _ x=>x.g3
 | .val (.slice none 0 0)=>some []
 |_=>none
theorem Qw{p:PV}{a:List Int}(h:dl3 p=some a):PV.Le p (.lst false (.t3 a)):=by
 unfold dl3 at h
 split at h
 ·rename_i o x
  cases x<;>simp only [LX.g3] at h<;>first|(injection h with h;subst h;exact .view _)|cases h
 ·injection h with h;subst h;exact .nil false _ rfl
 ·cases h
def dl9:PV→Option (List ByteArray)
 | .lst _ x=>x.g9
 | .val (.slice none 0 0)=>some []
 |_=>none
theorem O6{p:PV}{a:List ByteArray}(h:dl9 p=some a):PV.Le p (.lst false (.t9 a)):=by
 unfold dl9 at h
 split at h
 ·rename_i o x
  cases x<;>simp only [LX.g9] at h<;>first|(injection h with h;subst h;exact .view _)|cases h
 ·injection h with h;subst h;exact .nil false _ rfl
 ·cases h
def B3q:PV→Option (List (List Ao))
 | .lst _ x=>x.g23
 | .val (.slice none 0 0)=>some []
 |_=>none
theorem Bv9{p:PV}{a:List (List Ao)}(h:B3q p=some a):PV.Le p (.lst false (.t23 a)):=by
 unfold B3q at h
 split at h
 ·rename_i o x
  cases x<;>simp only [LX.g23] at h<;>first|(injection h with h;subst h;exact .view _)|cases h
 ·injection h with h;subst h;exact .nil false _ rfl
 ·cases h
def Bwa:PV→Option (List Aa)
 | .lst _ x=>x.g32
 | .val (.slice none 0 0)=>some []
 |_=>none
theorem Bi3{p:PV}{a:List Aa}(h:Bwa p=some a):PV.Le p (.lst false (.t32 a)):=by
 unfold Bwa at h
 split at h
 ·rename_i o x
  cases x<;>simp only [LX.g32] at h<;>first|(injection h with h;subst h;exact .view _)|cases h
 ·injection h with h;subst h;exact .nil false _ rfl
 ·cases h
def Az6:PV→Option (List Ab)
 | .lst _ x=>x.g38
 | .val (.slice none 0 0)=>some []
 |_=>none
theorem Aes{p:PV}{a:List Ab}(h:Az6 p=some a):PV.Le p (.lst false (.t38 a)):=by
 unfold Az6 at h
 split at h
 ·rename_i o x
  cases x<;>simp only [LX.g38] at h<;>first|(injection h with h;subst h;exact .view _)|cases h
 ·injection h with h;subst h;exact .nil false _ rfl
 ·cases h
def B3r:PV→Option (List Int)
 | .lst _ x=>x.g41
 | .val (.slice none 0 0)=>some []
 |_=>none
theorem Bwb{p:PV}{a:List Int}(h:B3r p=some a):PV.Le p (.lst false (.t41 a)):=by
 unfold B3r at h
 split at h
 ·rename_i o x
  cases x<;>simp only [LX.g41] at h<;>first|(injection h with h;subst h;exact .view _)|cases h
 ·injection h with h;subst h;exact .nil false _ rfl
 ·cases h
def A5u:PV→Option (List Ao)
 | .lst _ x=>x.g55
 | .val (.slice none 0 0)=>some []
 |_=>none
theorem Aju{p:PV}{a:List Ao}(h:A5u p=some a):PV.Le p (.lst false (.t55 a)):=by
 unfold A5u at h
 split at h
 ·rename_i o x
  cases x<;>simp only [LX.g55] at h<;>first|(injection h with h;subst h;exact .view _)|cases h
 ·injection h with h;subst h;exact .nil false _ rfl
 ·cases h
def A3b:PV→Option (List Al)
 | .lst _ x=>x.g57
 | .val (.slice none 0 0)=>some []
 |_=>none
theorem Ahf{p:PV}{a:List Al}(h:A3b p=some a):PV.Le p (.lst false (.t57 a)):=by
 unfold A3b at h
 split at h
 ·rename_i o x
  cases x<;>simp only [LX.g57] at h<;>first|(injection h with h;subst h;exact .view _)|cases h
 ·injection h with h;subst h;exact .nil false _ rfl
 ·cases h
def Bns:PV→Option (List Ai)
 | .lst _ x=>x.g60
 | .val (.slice none 0 0)=>some []
 |_=>none
theorem A1l{p:PV}{a:List Ai}(h:Bns p=some a):PV.Le p (.lst false (.t60 a)):=by
 unfold Bns at h
 split at h
 ·rename_i o x
  cases x<;>simp only [LX.g60] at h<;>first|(injection h with h;subst h;exact .view _)|cases h
 ·injection h with h;subst h;exact .nil false _ rfl
 ·cases h
def A9z:PV→Option (List Ac)
 | .lst _ x=>x.g69
 | .val (.slice none 0 0)=>some []
 |_=>none
theorem Ans{p:PV}{a:List Ac}(h:A9z p=some a):PV.Le p (.lst false (.t69 a)):=by
 unfold A9z at h
 split at h
 ·rename_i o x
  cases x<;>simp only [LX.g69] at h<;>first|(injection h with h;subst h;exact .view _)|cases h
 ·injection h with h;subst h;exact .nil false _ rfl
 ·cases h
def A7i:PV→Option (List Af)
 | .lst _ x=>x.g116
 | .val (.slice none 0 0)=>some []
 |_=>none
theorem Au5{p:PV}{a:List Af}(h:A7i p=some a):PV.Le p (.lst false (.t116 a)):=by
 unfold A7i at h
 split at h
 ·rename_i o x
  cases x<;>simp only [LX.g116] at h<;>first|(injection h with h;subst h;exact .view _)|cases h
 ·injection h with h;subst h;exact .nil false _ rfl
 ·cases h
def A7j:PV→Option (List Ap)
 | .lst _ x=>x.g123
 | .val (.slice none 0 0)=>some []
 |_=>none
theorem Au6{p:PV}{a:List Ap}(h:A7j p=some a):PV.Le p (.lst false (.t123 a)):=by
 unfold A7j at h
 split at h
 ·rename_i o x
  cases x<;>simp only [LX.g123] at h<;>first|(injection h with h;subst h;exact .view _)|cases h
 ·injection h with h;subst h;exact .nil false _ rfl
 ·cases h
def A7k:PV→Option (List Ar)
 | .lst _ x=>x.g127
 | .val (.slice none 0 0)=>some []
 |_=>none
theorem Au7{p:PV}{a:List Ar}(h:A7k p=some a):PV.Le p (.lst false (.t127 a)):=by
 unfold A7k at h
 split at h
 ·rename_i o x
  cases x<;>simp only [LX.g127] at h<;>first|(injection h with h;subst h;exact .view _)|cases h
 ·injection h with h;subst h;exact .nil false _ rfl
 ·cases h
def A7l:PV→Option (List Bh)
 | .lst _ x=>x.g133
 | .val (.slice none 0 0)=>some []
 |_=>none
theorem Au8{p:PV}{a:List Bh}(h:A7l p=some a):PV.Le p (.lst false (.t133 a)):=by
 unfold A7l at h
 split at h
 ·rename_i o x
  cases x<;>simp only [LX.g133] at h<;>first|(injection h with h;subst h;exact .view _)|cases h
 ·injection h with h;subst h;exact .nil false _ rfl
 ·cases h
def Bi0:PV→Option (List Bg)
 | .lst _ x=>x.g139
 | .val (.slice none 0 0)=>some []
 |_=>none
theorem Bcy{p:PV}{a:List Bg}(h:Bi0 p=some a):PV.Le p (.lst false (.t139 a)):=by
 unfold Bi0 at h
 split at h
 ·rename_i o x
  cases x<;>simp only [LX.g139] at h<;>first|(injection h with h;subst h;exact .view _)|cases h
 ·injection h with h;subst h;exact .nil false _ rfl
 ·cases h
def A7m:PV→Option (List Ax)
 | .lst _ x=>x.g151
 | .val (.slice none 0 0)=>some []
 |_=>none
theorem Au9{p:PV}{a:List Ax}(h:A7m p=some a):PV.Le p (.lst false (.t151 a)):=by
 unfold A7m at h
 split at h
 ·rename_i o x
  cases x<;>simp only [LX.g151] at h<;>first|(injection h with h;subst h;exact .view _)|cases h
 ·injection h with h;subst h;exact .nil false _ rfl
 ·cases h
def Bi1:PV→Option (List Cu)
 | .lst _ x=>x.g178
 | .val (.slice none 0 0)=>some []
 |_=>none
theorem Bcz{p:PV}{a:List Cu}(h:Bi1 p=some a):PV.Le p (.lst false (.t178 a)):=by
 unfold Bi1 at h
 split at h
 ·rename_i o x
  cases x<;>simp only [LX.g178] at h<;>first|(injection h with h;subst h;exact .view _)|cases h
 ·injection h with h;subst h;exact .nil false _ rfl
 ·cases h
def Bi2:PV→Option (List Au)
 | .lst _ x=>x.g186
 | .val (.slice none 0 0)=>some []
 |_=>none
theorem Bc0{p:PV}{a:List Au}(h:Bi2 p=some a):PV.Le p (.lst false (.t186 a)):=by
 unfold Bi2 at h
 split at h
 ·rename_i o x
  cases x<;>simp only [LX.g186] at h<;>first|(injection h with h;subst h;exact .view _)|cases h
 ·injection h with h;subst h;exact .nil false _ rfl
 ·cases h
def Bfb(x:Int):List PV:= [.val (.int .i64 x)]
def Bv6(r:List PV):Option Int:=match r with
 | [c0]=>match Et .i64 c0 with
  |some a0=>some a0
  |_=>none
 |_=>none
theorem Bir(r:List PV)(x:Int)(h:Bv6 r=some x):B8 r (Bfb x):=by
 unfold Bv6 at h
 split at h
 ·split at h
  ·rename_i h0
   injection h with h;subst h;exact (.cons (Bm h0) B8.nil)
  ·cases h
 ·cases h
def Bob(x:Bool):List PV:= [.val (.bool x)]
def Bv7(r:List PV):Option Bool:=match r with
 | [c0]=>match R3 c0 with
  |some a0=>some a0
  |_=>none
 |_=>none
theorem Biu(r:List PV)(x:Bool)(h:Bv7 r=some x):B8 r (Bob x):=by
 unfold Bv7 at h
 split at h
 ·split at h
  ·rename_i h0
   injection h with h;subst h;exact (.cons (F0 h0) B8.nil)
  ·cases h
 ·cases h
def Bfc(x:ByteArray):List PV:= [.val (.string x)]
def Bv8(r:List PV):Option ByteArray:=match r with
 | [c0]=>match O3 c0 with
  |some a0=>some a0
  |_=>none
 |_=>none
theorem Biz(r:List PV)(x:ByteArray)(h:Bv8 r=some x):B8 r (Bfc x):=by
 unfold Bv8 at h
 split at h
 ·split at h
  ·rename_i h0
   injection h with h;subst h;exact (.cons (C4 h0) B8.nil)
  ·cases h
 ·cases h
def A79(x:(List Ao)):List PV:= [.lst false (.t55 x)]
def Bin(r:List PV):Option (List Ao):=match r with
 | [c0]=>match A5u c0 with
  |some a0=>some a0
  |_=>none
 |_=>none
theorem Bcp(r:List PV)(x:(List Ao))(h:Bin r=some x):B8 r (A79 x):=by
 unfold Bin at h
 split at h
 ·split at h
  ·rename_i h0
   injection h with h;subst h;exact (.cons (Aju h0) B8.nil)
  ·cases h
 ·cases h
def A8a(x:(List ByteArray)):List PV:= [.lst false (.t9 x)]
def Bio(r:List PV):Option (List ByteArray):=match r with
 | [c0]=>match dl9 c0 with
  |some a0=>some a0
  |_=>none
 |_=>none
theorem Bcq(r:List PV)(x:(List ByteArray))(h:Bio r=some x):B8 r (A8a x):=by
 unfold Bio at h
 split at h
 ·split at h
  ·rename_i h0
   injection h with h;subst h;exact (.cons (O6 h0) B8.nil)
  ·cases h
 ·cases h
def Azo(x:Aa):List PV:= [.val (.string x.Name),.lst false (.t57 x.Vars),.lst false (.t116 x.Resources),.lst false (.t123 x.Stores),.lst false (.t127 x.Belts),.lst false (.t9 x.Queues),.lst false (.t9 x.Streams),.lst false (.t9 x.Tallies),.lst false (.t9 x.Levels),.lst false (.t9 x.Counts),.lst false (.t60 x.Routines),.lst false (.t133 x.Starts),.lst false (.t151 x.Laws)]
def Bip(r:List PV):Option Aa:=match r with
 | [c0,c1,c2,c3,c4,c5,c6,c7,c8,c9,c10,c11,c12]=>match O3 c0,A3b c1,A7i c2,A7j c3,A7k c4,dl9 c5,dl9 c6,dl9 c7,dl9 c8,dl9 c9,Bns c10,A7l c11,A7m c12 with
  |some a0,some a1,some a2,some a3,some a4,some a5,some a6,some a7,some a8,some a9,some a10,some a11,some a12=>some (Aa.mk a0 a1 a2 a3 a4 a5 a6 a7 a8 a9 a10 a11 a12)
  |_,_,_,_,_,_,_,_,_,_,_,_,_=>none
 |_=>none
theorem Bcr(r:List PV)(x:Aa)(h:Bip r=some x):B8 r (Azo x):=by
 unfold Bip at h
 split at h
 ·split at h
  ·rename_i h0 h1 h2 h3 h4 h5 h6 h7 h8 h9 h10 h11 h12
   injection h with h;subst h;exact (.cons (C4 h0) (.cons (Ahf h1) (.cons (Au5 h2) (.cons (Au6 h3) (.cons (Au7 h4) (.cons (O6 h5) (.cons (O6 h6) (.cons (O6 h7) (.cons (O6 h8) (.cons (O6 h9) (.cons (A1l h10) (.cons (Au8 h11) (.cons (Au9 h12) B8.nil)))))))))))))
  ·cases h
 ·cases h
def Asv(x:Ab):List PV:= [.val (.int .i64 x.Op),.val (.string x.Name),.val (.int .i64 x.N),.lst false (.t38 x.Kids)]
def Biq(r:List PV):Option Ab:=match r with
 | [c0,c1,c2,c3]=>match Et .i64 c0,O3 c1,Et .i64 c2,Az6 c3 with
  |some a0,some a1,some a2,some a3=>some (Ab.mk a0 a1 a2 a3)
  |_,_,_,_=>none
 |_=>none
theorem Bcs(r:List PV)(x:Ab)(h:Biq r=some x):B8 r (Asv x):=by
 unfold Biq at h
 split at h
 ·split at h
  ·rename_i h0 h1 h2 h3
   injection h with h;subst h;exact (.cons (Bm h0) (.cons (C4 h1) (.cons (Bm h2) (.cons (Aes h3) B8.nil))))
  ·cases h
 ·cases h
def A8b(x:Int):List PV:= [.val (.int .i64 x)]
def Bis(r:List PV):Option Int:=match r with
 | [c0]=>match Et .i64 c0 with
  |some a0=>some a0
  |_=>none
 |_=>none
theorem Bct(r:List PV)(x:Int)(h:Bis r=some x):B8 r (A8b x):=by
 unfold Bis at h
 split at h
 ·split at h
  ·rename_i h0
   injection h with h;subst h;exact (.cons (Bm h0) B8.nil)
  ·cases h
 ·cases h
def Azp(x:Ao):List PV:= [.val (.string x.Name),.val (.int .i64 x.Type_)]
def Biv(r:List PV):Option Ao:=match r with
 | [c0,c1]=>match O3 c0,Et .i64 c1 with
  |some a0,some a1=>some (Ao.mk a0 a1)
  |_,_=>none
 |_=>none
theorem Bcu(r:List PV)(x:Ao)(h:Biv r=some x):B8 r (Azp x):=by
 unfold Biv at h
 split at h
 ·split at h
  ·rename_i h0 h1
   injection h with h;subst h;exact (.cons (C4 h0) (.cons (Bm h1) B8.nil))
  ·cases h
 ·cases h
def Azq(x:Al):List PV:= [.val (.string x.Name),.val (.int .i64 x.Type_),.val (.int .i64 x.N)]
def Biw(r:List PV):Option Al:=match r with
 | [c0,c1,c2]=>match O3 c0,Et .i64 c1,Et .i64 c2 with
  |some a0,some a1,some a2=>some (Al.mk a0 a1 a2)
  |_,_,_=>none
 |_=>none
theorem Bcv(r:List PV)(x:Al)(h:Biw r=some x):B8 r (Azq x):=by
 unfold Biw at h
 split at h
 ·split at h
  ·rename_i h0 h1 h2
   injection h with h;subst h;exact (.cons (C4 h0) (.cons (Bm h1) (.cons (Bm h2) B8.nil)))
  ·cases h
 ·cases h
def Azr(x:Ai):List PV:= [.val (.string x.Name),.lst false (.t55 x.Params),.lst false (.t55 x.Locals),.lst false (.t69 x.Body)]
def Bix(r:List PV):Option Ai:=match r with
 | [c0,c1,c2,c3]=>match O3 c0,A5u c1,A5u c2,A9z c3 with
  |some a0,some a1,some a2,some a3=>some (Ai.mk a0 a1 a2 a3)
  |_,_,_,_=>none
 |_=>none
theorem Bcw(r:List PV)(x:Ai)(h:Bix r=some x):B8 r (Azr x):=by
 unfold Bix at h
 split at h
 ·split at h
  ·rename_i h0 h1 h2 h3
   injection h with h;subst h;exact (.cons (C4 h0) (.cons (Aju h1) (.cons (Aju h2) (.cons (Ans h3) B8.nil))))
  ·cases h
 ·cases h
def Aov(x:Ac):List PV:= [.val (.int .i64 x.Op),.val (.string x.Name),.val (.string x.Of),.val (.int .i64 x.E.Op),.val (.string x.E.Name),.val (.int .i64 x.E.N),.lst false (.t38 x.E.Kids),.val (.int .i64 x.F.Op),.val (.string x.F.Name),.val (.int .i64 x.F.N),.lst false (.t38 x.F.Kids),.lst false (.t38 x.Args),.val (.int .i64 x.Dist.Op),.val (.int .i64 x.Dist.A),.val (.int .i64 x.Dist.B),.val (.int .i64 x.Dist.N),.lst false (.t3 x.Dist.Values),.lst false (.t3 x.Dist.Weights),.val (.bool x.Flag),.lst false (.t69 x.Body),.lst false (.t69 x.Else)]
def Biy(r:List PV):Option Ac:=match r with
 | [c0,c1,c2,c3,c4,c5,c6,c7,c8,c9,c10,c11,c12,c13,c14,c15,c16,c17,c18,c19,c20]=>match Et .i64 c0,O3 c1,O3 c2,Et .i64 c3,O3 c4,Et .i64 c5,Az6 c6,Et .i64 c7,O3 c8,Et .i64 c9,Az6 c10,Az6 c11,Et .i64 c12,Et .i64 c13,Et .i64 c14,Et .i64 c15,dl3 c16,dl3 c17,R3 c18,A9z c19,A9z c20 with
  |some a0,some a1,some a2,some a3,some a4,some a5,some a6,some a7,some a8,some a9,some a10,some a11,some a12,some a13,some a14,some a15,some a16,some a17,some a18,some a19,some a20=>some (Ac.mk a0 a1 a2 (Ab.mk a3 a4 a5 a6) (Ab.mk a7 a8 a9 a10) a11 (Bf.mk a12 a13 a14 a15 a16 a17) a18 a19 a20)
  |_,_,_,_,_,_,_,_,_,_,_,_,_,_,_,_,_,_,_,_,_=>none
 |_=>none
theorem Bcx(r:List PV)(x:Ac)(h:Biy r=some x):B8 r (Aov x):=by
 unfold Biy at h
 split at h
 ·split at h
  ·rename_i h0 h1 h2 h3 h4 h5 h6 h7 h8 h9 h10 h11 h12 h13 h14 h15 h16 h17 h18 h19 h20
   injection h with h;subst h;exact (.cons (Bm h0) (.cons (C4 h1) (.cons (C4 h2) (.cons (Bm h3) (.cons (C4 h4) (.cons (Bm h5) (.cons (Aes h6) (.cons (Bm h7) (.cons (C4 h8) (.cons (Bm h9) (.cons (Aes h10) (.cons (Aes h11) (.cons (Bm h12) (.cons (Bm h13) (.cons (Bm h14) (.cons (Bm h15) (.cons (Qw h16) (.cons (Qw h17) (.cons (F0 h18) (.cons (Ans h19) (.cons (Ans h20) B8.nil)))))))))))))))))))))
  ·cases h
 ·cases h
def Aq7(x:Af):List PV:= [.val (.string x.Name),.val (.int .i64 x.Units),.lst false (.t178 x.Shift),.val (.int .i64 x.Cycle),.val (.string x.Fault.Stream),.val (.int .i64 x.Fault.Up.Op),.val (.int .i64 x.Fault.Up.A),.val (.int .i64 x.Fault.Up.B),.val (.int .i64 x.Fault.Up.N),.lst false (.t3 x.Fault.Up.Values),.lst false (.t3 x.Fault.Up.Weights),.val (.int .i64 x.Fault.Down.Op),.val (.int .i64 x.Fault.Down.A),.val (.int .i64 x.Fault.Down.B),.val (.int .i64 x.Fault.Down.N),.lst false (.t3 x.Fault.Down.Values),.lst false (.t3 x.Fault.Down.Weights)]
def A9o(r:List PV):Option Af:=match r with
 | [c0,c1,c2,c3,c4,c5,c6,c7,c8,c9,c10,c11,c12,c13,c14,c15,c16]=>match O3 c0,Et .i64 c1,Bi1 c2,Et .i64 c3,O3 c4,Et .i64 c5,Et .i64 c6,Et .i64 c7,Et .i64 c8,dl3 c9,dl3 c10,Et .i64 c11,Et .i64 c12,Et .i64 c13,Et .i64 c14,dl3 c15,dl3 c16 with
  |some a0,some a1,some a2,some a3,some a4,some a5,some a6,some a7,some a8,some a9,some a10,some a11,some a12,some a13,some a14,some a15,some a16=>some (Af.mk a0 a1 a2 a3 (F4.mk a4 (Bf.mk a5 a6 a7 a8 a9 a10) (Bf.mk a11 a12 a13 a14 a15 a16)))
  |_,_,_,_,_,_,_,_,_,_,_,_,_,_,_,_,_=>none
 |_=>none
theorem A66(r:List PV)(x:Af)(h:A9o r=some x):B8 r (Aq7 x):=by
 unfold A9o at h
 split at h
 ·split at h
  ·rename_i h0 h1 h2 h3 h4 h5 h6 h7 h8 h9 h10 h11 h12 h13 h14 h15 h16
   injection h with h;subst h;exact (.cons (C4 h0) (.cons (Bm h1) (.cons (Bcz h2) (.cons (Bm h3) (.cons (C4 h4) (.cons (Bm h5) (.cons (Bm h6) (.cons (Bm h7) (.cons (Bm h8) (.cons (Qw h9) (.cons (Qw h10) (.cons (Bm h11) (.cons (Bm h12) (.cons (Bm h13) (.cons (Bm h14) (.cons (Qw h15) (.cons (Qw h16) B8.nil)))))))))))))))))
  ·cases h
 ·cases h
def Aq8(x:Ap):List PV:= [.val (.string x.Name),.val (.int .i64 x.Room),.val (.int .i64 x.Policy)]
def A9p(r:List PV):Option Ap:=match r with
 | [c0,c1,c2]=>match O3 c0,Et .i64 c1,Et .i64 c2 with
  |some a0,some a1,some a2=>some (Ap.mk a0 a1 a2)
  |_,_,_=>none
 |_=>none
theorem A67(r:List PV)(x:Ap)(h:A9p r=some x):B8 r (Aq8 x):=by
 unfold A9p at h
 split at h
 ·split at h
  ·rename_i h0 h1 h2
   injection h with h;subst h;exact (.cons (C4 h0) (.cons (Bm h1) (.cons (Bm h2) B8.nil)))
  ·cases h
 ·cases h
def Aq9(x:Ar):List PV:= [.val (.string x.Name),.val (.int .i64 x.Length),.val (.int .i64 x.Step)]
def A9q(r:List PV):Option Ar:=match r with
 | [c0,c1,c2]=>match O3 c0,Et .i64 c1,Et .i64 c2 with
  |some a0,some a1,some a2=>some (Ar.mk a0 a1 a2)
  |_,_,_=>none
 |_=>none
theorem A68(r:List PV)(x:Ar)(h:A9q r=some x):B8 r (Aq9 x):=by
 unfold A9q at h
 split at h
 ·split at h
  ·rename_i h0 h1 h2
   injection h with h;subst h;exact (.cons (C4 h0) (.cons (Bm h1) (.cons (Bm h2) B8.nil)))
  ·cases h
 ·cases h
def Ara(x:Bh):List PV:= [.val (.string x.Routine),.lst false (.t3 x.Args),.val (.int .i64 x.At),.val (.int .i64 x.Every),.val (.int .i64 x.Until)]
def A9r(r:List PV):Option Bh:=match r with
 | [c0,c1,c2,c3,c4]=>match O3 c0,dl3 c1,Et .i64 c2,Et .i64 c3,Et .i64 c4 with
  |some a0,some a1,some a2,some a3,some a4=>some (Bh.mk a0 a1 a2 a3 a4)
  |_,_,_,_,_=>none
 |_=>none
theorem A69(r:List PV)(x:Bh)(h:A9r r=some x):B8 r (Ara x):=by
 unfold A9r at h
 split at h
 ·split at h
  ·rename_i h0 h1 h2 h3 h4
   injection h with h;subst h;exact (.cons (C4 h0) (.cons (Qw h1) (.cons (Bm h2) (.cons (Bm h3) (.cons (Bm h4) B8.nil)))))
  ·cases h
 ·cases h
def Arb(x:Bg):List PV:= [.val (.string x.From),.val (.string x.To),.val (.int .i64 x.Delay)]
def A9s(r:List PV):Option Bg:=match r with
 | [c0,c1,c2]=>match O3 c0,O3 c1,Et .i64 c2 with
  |some a0,some a1,some a2=>some (Bg.mk a0 a1 a2)
  |_,_,_=>none
 |_=>none
theorem A7a(r:List PV)(x:Bg)(h:A9s r=some x):B8 r (Arb x):=by
 unfold A9s at h
 split at h
 ·split at h
  ·rename_i h0 h1 h2
   injection h with h;subst h;exact (.cons (C4 h0) (.cons (C4 h1) (.cons (Bm h2) B8.nil)))
  ·cases h
 ·cases h
def A4t(x:Bq):List PV:= [.val (.string x.a0),.val (.string x.a1)]
def A9t(r:List PV):Option Bq:=match r with
 | [c0,c1]=>match O3 c0,O3 c1 with
  |some a0,some a1=>some (Bq.mk a0 a1)
  |_,_=>none
 |_=>none
theorem A7b(r:List PV)(x:Bq)(h:A9t r=some x):B8 r (A4t x):=by
 unfold A9t at h
 split at h
 ·split at h
  ·rename_i h0 h1
   injection h with h;subst h;exact (.cons (C4 h0) (.cons (C4 h1) B8.nil))
  ·cases h
 ·cases h
def Arc(x:Ax):List PV:= [.val (.string x.Name),.lst false (.t186 x.Terms),.val (.int .i64 x.Total)]
def A9u(r:List PV):Option Ax:=match r with
 | [c0,c1,c2]=>match O3 c0,Bi2 c1,Et .i64 c2 with
  |some a0,some a1,some a2=>some (Ax.mk a0 a1 a2)
  |_,_,_=>none
 |_=>none
theorem A7c(r:List PV)(x:Ax)(h:A9u r=some x):B8 r (Arc x):=by
 unfold A9u at h
 split at h
 ·split at h
  ·rename_i h0 h1 h2
   injection h with h;subst h;exact (.cons (C4 h0) (.cons (Bc0 h1) (.cons (Bm h2) B8.nil)))
  ·cases h
 ·cases h
def Ard(x:Cu):List PV:= [.val (.int .i64 x.At),.val (.int .i64 x.Units)]
def A9v(r:List PV):Option Cu:=match r with
 | [c0,c1]=>match Et .i64 c0,Et .i64 c1 with
  |some a0,some a1=>some (Cu.mk a0 a1)
  |_,_=>none
 |_=>none
theorem A7d(r:List PV)(x:Cu)(h:A9v r=some x):B8 r (Ard x):=by
 unfold A9v at h
 split at h
 ·split at h
  ·rename_i h0 h1
   injection h with h;subst h;exact (.cons (Bm h0) (.cons (Bm h1) B8.nil))
  ·cases h
 ·cases h
def Are(x:Au):List PV:= [.val (.int .i64 x.Coef),.val (.string x.What),.val (.string x.Name)]
def A9w(r:List PV):Option Au:=match r with
 | [c0,c1,c2]=>match Et .i64 c0,O3 c1,O3 c2 with
  |some a0,some a1,some a2=>some (Au.mk a0 a1 a2)
  |_,_,_=>none
 |_=>none
theorem A7e(r:List PV)(x:Au)(h:A9w r=some x):B8 r (Are x):=by
 unfold A9w at h
 split at h
 ·split at h
  ·rename_i h0 h1 h2
   injection h with h;subst h;exact (.cons (Bm h0) (.cons (C4 h1) (.cons (C4 h2) B8.nil)))
  ·cases h
 ·cases h
def A4u(x:E9):List PV:= [.val (.bool x.u_is),.val (.string x.u_name)]
def A9x(r:List PV):Option E9:=match r with
 | [c0,c1]=>match R3 c0,O3 c1 with
  |some a0,some a1=>some (E9.mk a0 a1)
  |_,_=>none
 |_=>none
theorem A7f(r:List PV)(x:E9)(h:A9x r=some x):B8 r (A4u x):=by
 unfold A9x at h
 split at h
 ·split at h
  ·rename_i h0 h1
   injection h with h;subst h;exact (.cons (F0 h0) (.cons (C4 h1) B8.nil))
  ·cases h
 ·cases h
def A4v(x:Nh):List PV:= [.val (.bool x.u_is),.val (.int .i64 x.u_e.Op),.val (.string x.u_e.Name),.val (.int .i64 x.u_e.N),.lst false (.t38 x.u_e.Kids)]
def A9y(r:List PV):Option Nh:=match r with
 | [c0,c1,c2,c3,c4]=>match R3 c0,Et .i64 c1,O3 c2,Et .i64 c3,Az6 c4 with
  |some a0,some a1,some a2,some a3,some a4=>some (Nh.mk a0 (Ab.mk a1 a2 a3 a4))
  |_,_,_,_,_=>none
 |_=>none
theorem A7g(r:List PV)(x:Nh)(h:A9y r=some x):B8 r (A4v x):=by
 unfold A9y at h
 split at h
 ·split at h
  ·rename_i h0 h1 h2 h3 h4
   injection h with h;subst h;exact (.cons (F0 h0) (.cons (Bm h1) (.cons (C4 h2) (.cons (Bm h3) (.cons (Aes h4) B8.nil)))))
  ·cases h
 ·cases h
def LX.row(x:LX)(i:Nat):List PV:=match x with
 | .t3 l=>Bfb (l.getD i default)
 | .t4 l=>Bob (l.getD i default)
 | .t9 l=>Bfc (l.getD i default)
 | .t23 l=>A79 (l.getD i default)
 | .t27 l=>A8a (l.getD i default)
 | .t32 l=>Azo (l.getD i default)
 | .t38 l=>Asv (l.getD i default)
 | .t41 l=>A8b (l.getD i default)
 | .t55 l=>Azp (l.getD i default)
 | .t57 l=>Azq (l.getD i default)
 | .t60 l=>Azr (l.getD i default)
 | .t69 l=>Aov (l.getD i default)
 | .t116 l=>Aq7 (l.getD i default)
 | .t123 l=>Aq8 (l.getD i default)
 | .t127 l=>Aq9 (l.getD i default)
 | .t133 l=>Ara (l.getD i default)
 | .t139 l=>Arb (l.getD i default)
 | .t140 l=>A4t (l.getD i default)
 | .t151 l=>Arc (l.getD i default)
 | .t178 l=>Ard (l.getD i default)
 | .t186 l=>Are (l.getD i default)
 | .t199 l=>A4u (l.getD i default)
 | .t201 l=>A4v (l.getD i default)
def LX.lit(e:Nat)(rs:List (List PV)):Option LX:=match Nat.beq e 3 with
 |true=>Ni .t3 (w6 Bv6 rs)
 |false=>match Nat.beq e 4 with
 |true=>Ni .t4 (w6 Bv7 rs)
 |false=>match Nat.beq e 9 with
 |true=>Ni .t9 (w6 Bv8 rs)
 |false=>match Nat.beq e 23 with
 |true=>Ni .t23 (w6 Bin rs)
 |false=>match Nat.beq e 27 with
 |true=>Ni .t27 (w6 Bio rs)
 |false=>match Nat.beq e 32 with
 |true=>Ni .t32 (w6 Bip rs)
 |false=>match Nat.beq e 38 with
 |true=>Ni .t38 (w6 Biq rs)
 |false=>match Nat.beq e 41 with
 |true=>Ni .t41 (w6 Bis rs)
 |false=>match Nat.beq e 55 with
 |true=>Ni .t55 (w6 Biv rs)
 |false=>match Nat.beq e 57 with
 |true=>Ni .t57 (w6 Biw rs)
 |false=>match Nat.beq e 60 with
 |true=>Ni .t60 (w6 Bix rs)
 |false=>match Nat.beq e 69 with
 |true=>Ni .t69 (w6 Biy rs)
 |false=>match Nat.beq e 116 with
 |true=>Ni .t116 (w6 A9o rs)
 |false=>match Nat.beq e 123 with
 |true=>Ni .t123 (w6 A9p rs)
 |false=>match Nat.beq e 127 with
 |true=>Ni .t127 (w6 A9q rs)
 |false=>match Nat.beq e 133 with
 |true=>Ni .t133 (w6 A9r rs)
 |false=>match Nat.beq e 139 with
 |true=>Ni .t139 (w6 A9s rs)
 |false=>match Nat.beq e 140 with
 |true=>Ni .t140 (w6 A9t rs)
 |false=>match Nat.beq e 151 with
 |true=>Ni .t151 (w6 A9u rs)
 |false=>match Nat.beq e 178 with
 |true=>Ni .t178 (w6 A9v rs)
 |false=>match Nat.beq e 186 with
 |true=>Ni .t186 (w6 A9w rs)
 |false=>match Nat.beq e 199 with
 |true=>Ni .t199 (w6 A9x rs)
 |false=>match Nat.beq e 201 with
 |true=>Ni .t201 (w6 A9y rs)
 |false=>none
def LX.set(x:LX)(i off:Nat)(c:List PV):Option LX:=match x with
 | .t3 l=>Agt (Jx (Bfb (l.getD i default)) (off+c.length)) (fun a=> .t3 (l.set i a)) (Bv6 (Gi (Bfb (l.getD i default)) off c))
 | .t4 l=>Agt (Jx (Bob (l.getD i default)) (off+c.length)) (fun a=> .t4 (l.set i a)) (Bv7 (Gi (Bob (l.getD i default)) off c))
 | .t9 l=>Agt (Jx (Bfc (l.getD i default)) (off+c.length)) (fun a=> .t9 (l.set i a)) (Bv8 (Gi (Bfc (l.getD i default)) off c))
 | .t23 l=>Agt (Jx (A79 (l.getD i default)) (off+c.length)) (fun a=> .t23 (l.set i a)) (Bin (Gi (A79 (l.getD i default)) off c))
 | .t27 l=>Agt (Jx (A8a (l.getD i default)) (off+c.length)) (fun a=> .t27 (l.set i a)) (Bio (Gi (A8a (l.getD i default)) off c))
 | .t32 l=>Agt (Jx (Azo (l.getD i default)) (off+c.length)) (fun a=> .t32 (l.set i a)) (Bip (Gi (Azo (l.getD i default)) off c))
 | .t38 l=>Agt (Jx (Asv (l.getD i default)) (off+c.length)) (fun a=> .t38 (l.set i a)) (Biq (Gi (Asv (l.getD i default)) off c))
 | .t41 l=>Agt (Jx (A8b (l.getD i default)) (off+c.length)) (fun a=> .t41 (l.set i a)) (Bis (Gi (A8b (l.getD i default)) off c))
 | .t55 l=>Agt (Jx (Azp (l.getD i default)) (off+c.length)) (fun a=> .t55 (l.set i a)) (Biv (Gi (Azp (l.getD i default)) off c))
 | .t57 l=>Agt (Jx (Azq (l.getD i default)) (off+c.length)) (fun a=> .t57 (l.set i a)) (Biw (Gi (Azq (l.getD i default)) off c))
 | .t60 l=>Agt (Jx (Azr (l.getD i default)) (off+c.length)) (fun a=> .t60 (l.set i a)) (Bix (Gi (Azr (l.getD i default)) off c))
 | .t69 l=>Agt (Jx (Aov (l.getD i default)) (off+c.length)) (fun a=> .t69 (l.set i a)) (Biy (Gi (Aov (l.getD i default)) off c))
 | .t116 l=>Agt (Jx (Aq7 (l.getD i default)) (off+c.length)) (fun a=> .t116 (l.set i a)) (A9o (Gi (Aq7 (l.getD i default)) off c))
 | .t123 l=>Agt (Jx (Aq8 (l.getD i default)) (off+c.length)) (fun a=> .t123 (l.set i a)) (A9p (Gi (Aq8 (l.getD i default)) off c))
 | .t127 l=>Agt (Jx (Aq9 (l.getD i default)) (off+c.length)) (fun a=> .t127 (l.set i a)) (A9q (Gi (Aq9 (l.getD i default)) off c))
 | .t133 l=>Agt (Jx (Ara (l.getD i default)) (off+c.length)) (fun a=> .t133 (l.set i a)) (A9r (Gi (Ara (l.getD i default)) off c))
 | .t139 l=>Agt (Jx (Arb (l.getD i default)) (off+c.length)) (fun a=> .t139 (l.set i a)) (A9s (Gi (Arb (l.getD i default)) off c))
 | .t140 l=>Agt (Jx (A4t (l.getD i default)) (off+c.length)) (fun a=> .t140 (l.set i a)) (A9t (Gi (A4t (l.getD i default)) off c))
 | .t151 l=>Agt (Jx (Arc (l.getD i default)) (off+c.length)) (fun a=> .t151 (l.set i a)) (A9u (Gi (Arc (l.getD i default)) off c))
 | .t178 l=>Agt (Jx (Ard (l.getD i default)) (off+c.length)) (fun a=> .t178 (l.set i a)) (A9v (Gi (Ard (l.getD i default)) off c))
 | .t186 l=>Agt (Jx (Are (l.getD i default)) (off+c.length)) (fun a=> .t186 (l.set i a)) (A9w (Gi (Are (l.getD i default)) off c))
 | .t199 l=>Agt (Jx (A4u (l.getD i default)) (off+c.length)) (fun a=> .t199 (l.set i a)) (A9x (Gi (A4u (l.getD i default)) off c))
 | .t201 l=>Agt (Jx (A4v (l.getD i default)) (off+c.length)) (fun a=> .t201 (l.set i a)) (A9y (Gi (A4v (l.getD i default)) off c))
def LX.find(x:LX)(c:List PV):Option (Option Nat):=match x,c with
 | .t3 l,[.val (.int k0 a0)]=>match decide (k0= .i64) with
  |true=>some (l.findIdx? fun b=>a0 == b)
  |_=>none
 | .t4 l,[.val (.bool a0)]=>some (l.findIdx? fun b=>a0 == b)
 | .t9 l,[.val (.string a0)]=>some (l.findIdx? fun b=>a0 == b)
 | .t41 l,[.val (.int k0 a0)]=>match decide (k0= .i64) with
  |true=>some (l.findIdx? fun b=>a0 == b)
  |_=>none
 | .t140 l,[.val (.string a0),.val (.string a1)]=>some (l.findIdx? fun b=>(a0 == b.a0 && (a1 == b.a1)))
 |_,_=>none
def LX.push(x:LX)(c:List PV):Option LX:=match LX.lit x.e [c] with
 |some y=>x.cat y
 |none=>none
theorem LX.row_len(x:LX)(i:Nat):(x.row i).length=x.sz:=by cases x<;>rfl
theorem LX.row_flat(x:LX)(i:Nat):∀p∈x.row i,p.flat=true:=A7t _ (by cases x<;>rfl)
theorem LX.nil_spec(e:Nat)(x:LX)(h:LX.nil e=some x):x.e=e∧x.len=0:=by
 unfold LX.nil at h
 cases b3:Nat.beq e 3
 case true=>simp only [b3] at h;injection h with h;subst h;exact ⟨(Nat.eq_of_beq_eq_true b3).symm,rfl⟩
 simp only [b3] at h
 cases b4:Nat.beq e 4
 case true=>simp only [b4] at h;injection h with h;subst h;exact ⟨(Nat.eq_of_beq_eq_true b4).symm,rfl⟩
 simp only [b4] at h
 cases b9:Nat.beq e 9
 case true=>simp only [b9] at h;injection h with h;subst h;exact ⟨(Nat.eq_of_beq_eq_true b9).symm,rfl⟩
 simp only [b9] at h
 cases b23:Nat.beq e 23
 case true=>simp only [b23] at h;injection h with h;subst h;exact ⟨(Nat.eq_of_beq_eq_true b23).symm,rfl⟩
 simp only [b23] at h
 cases b27:Nat.beq e 27
 case true=>simp only [b27] at h;injection h with h;subst h;exact ⟨(Nat.eq_of_beq_eq_true b27).symm,rfl⟩
 simp only [b27] at h
 cases b32:Nat.beq e 32
 case true=>simp only [b32] at h;injection h with h;subst h;exact ⟨(Nat.eq_of_beq_eq_true b32).symm,rfl⟩
 simp only [b32] at h
 cases b38:Nat.beq e 38
 case true=>simp only [b38] at h;injection h with h;subst h;exact ⟨(Nat.eq_of_beq_eq_true b38).symm,rfl⟩
 simp only [b38] at h
 cases b41:Nat.beq e 41
 case true=>simp only [b41] at h;injection h with h;subst h;exact ⟨(Nat.eq_of_beq_eq_true b41).symm,rfl⟩
 simp only [b41] at h
 cases b55:Nat.beq e 55
 case true=>simp only [b55] at h;injection h with h;subst h;exact ⟨(Nat.eq_of_beq_eq_true b55).symm,rfl⟩
 simp only [b55] at h
 cases b57:Nat.beq e 57
 case true=>simp only [b57] at h;injection h with h;subst h;exact ⟨(Nat.eq_of_beq_eq_true b57).symm,rfl⟩
 simp only [b57] at h
 cases b60:Nat.beq e 60
 case true=>simp only [b60] at h;injection h with h;subst h;exact ⟨(Nat.eq_of_beq_eq_true b60).symm,rfl⟩
 simp only [b60] at h
 cases b69:Nat.beq e 69
 case true=>simp only [b69] at h;injection h with h;subst h;exact ⟨(Nat.eq_of_beq_eq_true b69).symm,rfl⟩
 simp only [b69] at h
 cases b116:Nat.beq e 116
 case true=>simp only [b116] at h;injection h with h;subst h;exact ⟨(Nat.eq_of_beq_eq_true b116).symm,rfl⟩
 simp only [b116] at h
 cases b123:Nat.beq e 123
 case true=>simp only [b123] at h;injection h with h;subst h;exact ⟨(Nat.eq_of_beq_eq_true b123).symm,rfl⟩
 simp only [b123] at h
 cases b127:Nat.beq e 127
 case true=>simp only [b127] at h;injection h with h;subst h;exact ⟨(Nat.eq_of_beq_eq_true b127).symm,rfl⟩
 simp only [b127] at h
 cases b133:Nat.beq e 133
 case true=>simp only [b133] at h;injection h with h;subst h;exact ⟨(Nat.eq_of_beq_eq_true b133).symm,rfl⟩
 simp only [b133] at h
 cases b139:Nat.beq e 139
 case true=>simp only [b139] at h;injection h with h;subst h;exact ⟨(Nat.eq_of_beq_eq_true b139).symm,rfl⟩
 simp only [b139] at h
 cases b140:Nat.beq e 140
 case true=>simp only [b140] at h;injection h with h;subst h;exact ⟨(Nat.eq_of_beq_eq_true b140).symm,rfl⟩
 simp only [b140] at h
 cases b151:Nat.beq e 151
 case true=>simp only [b151] at h;injection h with h;subst h;exact ⟨(Nat.eq_of_beq_eq_true b151).symm,rfl⟩
 simp only [b151] at h
 cases b178:Nat.beq e 178
 case true=>simp only [b178] at h;injection h with h;subst h;exact ⟨(Nat.eq_of_beq_eq_true b178).symm,rfl⟩
 simp only [b178] at h
 cases b186:Nat.beq e 186
 case true=>simp only [b186] at h;injection h with h;subst h;exact ⟨(Nat.eq_of_beq_eq_true b186).symm,rfl⟩
 simp only [b186] at h
 cases b199:Nat.beq e 199
 case true=>simp only [b199] at h;injection h with h;subst h;exact ⟨(Nat.eq_of_beq_eq_true b199).symm,rfl⟩
 simp only [b199] at h
 cases b201:Nat.beq e 201
 case true=>simp only [b201] at h;injection h with h;subst h;exact ⟨(Nat.eq_of_beq_eq_true b201).symm,rfl⟩
 simp only [b201] at h
 cases h
theorem Bgr{α :Type} [Inhabited α](l m:List α)(i:Nat)(h:i < l.length):(l++m).getD i default=l.getD i default:=by
 simp [List.getD,List.getElem?_append_left h]
theorem Bgs{α :Type} [Inhabited α](l m:List α)(i:Nat):(l++m).getD (l.length+i) default=m.getD i default:=by
 simp [List.getD,List.getElem?_append_right]
theorem Bqd{α :Type} [Inhabited α](l:List α)(a b i:Nat)(h1:b≤l.length)(h2:i < b - a):((l.take b).drop a).getD i default=l.getD (a+i) default:=by
 simp only [List.getD_eq_getElem?_getD,List.getElem?_drop,List.getElem?_take]
 rw [if_pos (by omega)]
theorem Bqc{α :Type} [Inhabited α](n i:Nat)(a: α)(h:i < n):(List.replicate n a).getD i default=a:=by
 simp [List.getD_eq_getElem?_getD,List.getElem?_replicate,h]
theorem Bde{α :Type} [Inhabited α](l:List α)(i:Nat)(a: α)(h:i < l.length):(l.set i a).getD i default=a:=by
 simp [List.getD_eq_getElem?_getD,h]
theorem Bdf{α :Type} [Inhabited α](l:List α)(i j:Nat)(a: α)(h:j≠i):(l.set i a).getD j default=l.getD j default:=by
 simp [List.getD_eq_getElem?_getD,List.getElem?_set_ne (fun e=>h e.symm)]
theorem Hk{α :Type} [Inhabited α](l:List α)(i:Nat)(h:i < l.length):l.getD i default=l[i]:=by
 simp [List.getD_eq_getElem?_getD,h]
theorem LX.g3_eq(y:LX)(m:List Int)(h:y.g3=some m):y= .t3 m:=by cases y<;>simp only [LX.g3] at h<;>first|(injection h with h;subst h;rfl)|cases h
theorem LX.g4_eq(y:LX)(m:List Bool)(h:y.g4=some m):y= .t4 m:=by cases y<;>simp only [LX.g4] at h<;>first|(injection h with h;subst h;rfl)|cases h
theorem LX.g9_eq(y:LX)(m:List ByteArray)(h:y.g9=some m):y= .t9 m:=by cases y<;>simp only [LX.g9] at h<;>first|(injection h with h;subst h;rfl)|cases h
theorem LX.g23_eq(y:LX)(m:List (List Ao))(h:y.g23=some m):y= .t23 m:=by cases y<;>simp only [LX.g23] at h<;>first|(injection h with h;subst h;rfl)|cases h
theorem LX.g27_eq(y:LX)(m:List (List ByteArray))(h:y.g27=some m):y= .t27 m:=by cases y<;>simp only [LX.g27] at h<;>first|(injection h with h;subst h;rfl)|cases h
theorem LX.g32_eq(y:LX)(m:List Aa)(h:y.g32=some m):y= .t32 m:=by cases y<;>simp only [LX.g32] at h<;>first|(injection h with h;subst h;rfl)|cases h
theorem LX.g38_eq(y:LX)(m:List Ab)(h:y.g38=some m):y= .t38 m:=by cases y<;>simp only [LX.g38] at h<;>first|(injection h with h;subst h;rfl)|cases h
theorem LX.g41_eq(y:LX)(m:List Int)(h:y.g41=some m):y= .t41 m:=by cases y<;>simp only [LX.g41] at h<;>first|(injection h with h;subst h;rfl)|cases h
theorem LX.g55_eq(y:LX)(m:List Ao)(h:y.g55=some m):y= .t55 m:=by cases y<;>simp only [LX.g55] at h<;>first|(injection h with h;subst h;rfl)|cases h
theorem LX.g57_eq(y:LX)(m:List Al)(h:y.g57=some m):y= .t57 m:=by cases y<;>simp only [LX.g57] at h<;>first|(injection h with h;subst h;rfl)|cases h
theorem LX.g60_eq(y:LX)(m:List Ai)(h:y.g60=some m):y= .t60 m:=by cases y<;>simp only [LX.g60] at h<;>first|(injection h with h;subst h;rfl)|cases h
theorem LX.g69_eq(y:LX)(m:List Ac)(h:y.g69=some m):y= .t69 m:=by cases y<;>simp only [LX.g69] at h<;>first|(injection h with h;subst h;rfl)|cases h
theorem LX.g116_eq(y:LX)(m:List Af)(h:y.g116=some m):y= .t116 m:=by cases y<;>simp only [LX.g116] at h<;>first|(injection h with h;subst h;rfl)|cases h
theorem LX.g123_eq(y:LX)(m:List Ap)(h:y.g123=some m):y= .t123 m:=by cases y<;>simp only [LX.g123] at h<;>first|(injection h with h;subst h;rfl)|cases h
theorem LX.g127_eq(y:LX)(m:List Ar)(h:y.g127=some m):y= .t127 m:=by cases y<;>simp only [LX.g127] at h<;>first|(injection h with h;subst h;rfl)|cases h
theorem LX.g133_eq(y:LX)(m:List Bh)(h:y.g133=some m):y= .t133 m:=by cases y<;>simp only [LX.g133] at h<;>first|(injection h with h;subst h;rfl)|cases h
theorem LX.g139_eq(y:LX)(m:List Bg)(h:y.g139=some m):y= .t139 m:=by cases y<;>simp only [LX.g139] at h<;>first|(injection h with h;subst h;rfl)|cases h
theorem LX.g140_eq(y:LX)(m:List Bq)(h:y.g140=some m):y= .t140 m:=by cases y<;>simp only [LX.g140] at h<;>first|(injection h with h;subst h;rfl)|cases h
theorem LX.g151_eq(y:LX)(m:List Ax)(h:y.g151=some m):y= .t151 m:=by cases y<;>simp only [LX.g151] at h<;>first|(injection h with h;subst h;rfl)|cases h
theorem LX.g178_eq(y:LX)(m:List Cu)(h:y.g178=some m):y= .t178 m:=by cases y<;>simp only [LX.g178] at h<;>first|(injection h with h;subst h;rfl)|cases h
theorem LX.g186_eq(y:LX)(m:List Au)(h:y.g186=some m):y= .t186 m:=by cases y<;>simp only [LX.g186] at h<;>first|(injection h with h;subst h;rfl)|cases h
theorem LX.g199_eq(y:LX)(m:List E9)(h:y.g199=some m):y= .t199 m:=by cases y<;>simp only [LX.g199] at h<;>first|(injection h with h;subst h;rfl)|cases h
theorem LX.g201_eq(y:LX)(m:List Nh)(h:y.g201=some m):y= .t201 m:=by cases y<;>simp only [LX.g201] at h<;>first|(injection h with h;subst h;rfl)|cases h
structure KOK {α :Type} [Inhabited α] (K:List α→LX) (row: α→List PV) (e sz:Nat):Prop where
 e:∀l,(K l).e=e
 sz:∀l,(K l).sz=sz
 len:∀l,(K l).len=l.length
 row:∀l i,(K l).row i=row (l.getD i default)
section
variable {α :Type} [Inhabited α] {K:List α→LX} {row: α→List PV} {e0 sz:Nat}
theorem Air(k:KOK K row e0 sz){d:List PV→Option α}(hd:∀r a,d r=some a→B8 r (row a)){e:Nat}(hb:Nat.beq e e0=true){rs:List (List PV)}{x:LX}(h:Ni K (w6 d rs)=some x):x.e=e∧x.len=rs.length∧∀(i:Nat) (r:List PV),rs[i]? =some r→B8 r (x.row i):=by
 unfold Ni at h
 cases hl:w6 d rs with
 |none=>rw [hl] at h;cases h
 |some l=>
  rw [hl] at h
  injection h with h;subst h
  obtain ⟨q1,q2⟩:=A7h hd rs l hl
  exact ⟨by rw [k.e];exact (Nat.eq_of_beq_eq_true hb).symm,by rw [k.len];exact q1,fun i r hr=>by rw [k.row];exact q2 i r hr⟩
theorem Aif(k:KOK K row e0 sz){y z:LX}{l:List α}{g:Option (List α)}(hg:∀m,g=some m→y=K m)(h:Ni (fun m=>K (l++m)) g=some z):y.e=(K l).e∧z.e=(K l).e∧y.sz=(K l).sz∧z.sz=(K l).sz∧z.len=(K l).len+y.len∧(∀i,i < (K l).len→z.row i=(K l).row i)∧(∀i,z.row ((K l).len+i)=y.row i):=by
 cases g with
 |none=>cases h
 |some m=>
  injection h with h;subst h
  rw [hg m rfl]
  simp only [k.e,k.sz,k.len,k.row,List.length_append,true_and]
  exact ⟨fun i hi=>by rw [Bgr l m i hi],fun i=>by rw [Bgs]⟩
theorem Ai2(k:KOK K row e0 sz)(l:List α)(a b:Nat)(h:b≤(K l).len):(K ((l.take b).drop a)).e=(K l).e∧(K ((l.take b).drop a)).sz=(K l).sz∧(K ((l.take b).drop a)).len=b - a∧∀i,i < b - a→(K ((l.take b).drop a)).row i=(K l).row (a+i):=by
 simp only [k.e,k.sz,k.len,k.row,true_and] at h ⊢
 exact ⟨by simp;omega,fun i hi=>by rw [Bqd l a b i h hi]⟩
theorem Ai0(k:KOK K row e0 sz)(l:List α)(n:Nat):(K (List.replicate n (l.getD 0 default))).e=(K l).e∧(K (List.replicate n (l.getD 0 default))).sz=(K l).sz∧(K (List.replicate n (l.getD 0 default))).len=n∧∀i,i < n→(K (List.replicate n (l.getD 0 default))).row i=(K l).row 0:=by
 simp only [k.e,k.sz,k.len,k.row,true_and]
 exact ⟨List.length_replicate,fun i hi=>by rw [Bqc n i _ hi]⟩
end
theorem k3:KOK .t3 Bfb 3 1:=⟨fun _=>rfl,fun _=>rfl,fun _=>rfl,fun _ _=>rfl⟩
theorem k4:KOK .t4 Bob 4 1:=⟨fun _=>rfl,fun _=>rfl,fun _=>rfl,fun _ _=>rfl⟩
theorem k9:KOK .t9 Bfc 9 1:=⟨fun _=>rfl,fun _=>rfl,fun _=>rfl,fun _ _=>rfl⟩
theorem k23:KOK .t23 A79 23 1:=⟨fun _=>rfl,fun _=>rfl,fun _=>rfl,fun _ _=>rfl⟩
theorem k27:KOK .t27 A8a 27 1:=⟨fun _=>rfl,fun _=>rfl,fun _=>rfl,fun _ _=>rfl⟩
theorem k32:KOK .t32 Azo 32 13:=⟨fun _=>rfl,fun _=>rfl,fun _=>rfl,fun _ _=>rfl⟩
theorem k38:KOK .t38 Asv 38 4:=⟨fun _=>rfl,fun _=>rfl,fun _=>rfl,fun _ _=>rfl⟩
theorem k41:KOK .t41 A8b 41 1:=⟨fun _=>rfl,fun _=>rfl,fun _=>rfl,fun _ _=>rfl⟩
theorem k55:KOK .t55 Azp 55 2:=⟨fun _=>rfl,fun _=>rfl,fun _=>rfl,fun _ _=>rfl⟩
theorem k57:KOK .t57 Azq 57 3:=⟨fun _=>rfl,fun _=>rfl,fun _=>rfl,fun _ _=>rfl⟩
theorem k60:KOK .t60 Azr 60 4:=⟨fun _=>rfl,fun _=>rfl,fun _=>rfl,fun _ _=>rfl⟩
theorem k69:KOK .t69 Aov 69 21:=⟨fun _=>rfl,fun _=>rfl,fun _=>rfl,fun _ _=>rfl⟩
theorem Bqn:KOK .t116 Aq7 116 17:=⟨fun _=>rfl,fun _=>rfl,fun _=>rfl,fun _ _=>rfl⟩
theorem Bqo:KOK .t123 Aq8 123 3:=⟨fun _=>rfl,fun _=>rfl,fun _=>rfl,fun _ _=>rfl⟩
theorem Bqp:KOK .t127 Aq9 127 3:=⟨fun _=>rfl,fun _=>rfl,fun _=>rfl,fun _ _=>rfl⟩
theorem Bqq:KOK .t133 Ara 133 5:=⟨fun _=>rfl,fun _=>rfl,fun _=>rfl,fun _ _=>rfl⟩
theorem Bqr:KOK .t139 Arb 139 3:=⟨fun _=>rfl,fun _=>rfl,fun _=>rfl,fun _ _=>rfl⟩
theorem Bqs:KOK .t140 A4t 140 2:=⟨fun _=>rfl,fun _=>rfl,fun _=>rfl,fun _ _=>rfl⟩
theorem Bqt:KOK .t151 Arc 151 3:=⟨fun _=>rfl,fun _=>rfl,fun _=>rfl,fun _ _=>rfl⟩
theorem Bqu:KOK .t178 Ard 178 2:=⟨fun _=>rfl,fun _=>rfl,fun _=>rfl,fun _ _=>rfl⟩
theorem Bqv:KOK .t186 Are 186 3:=⟨fun _=>rfl,fun _=>rfl,fun _=>rfl,fun _ _=>rfl⟩
theorem Bqw:KOK .t199 A4u 199 2:=⟨fun _=>rfl,fun _=>rfl,fun _=>rfl,fun _ _=>rfl⟩
theorem Bqx:KOK .t201 A4v 201 5:=⟨fun _=>rfl,fun _=>rfl,fun _=>rfl,fun _ _=>rfl⟩
theorem LX.lit_spec(e:Nat)(rs:List (List PV))(x:LX)(h:LX.lit e rs=some x):x.e=e∧x.len=rs.length∧∀(i:Nat) (r:List PV),rs[i]? =some r→B8 r (x.row i):=by
 unfold LX.lit at h
 cases b3:Nat.beq e 3
 case true=>simp only [b3] at h;exact Air k3 Bir b3 h
 simp only [b3] at h
 cases b4:Nat.beq e 4
 case true=>simp only [b4] at h;exact Air k4 Biu b4 h
 simp only [b4] at h
 cases b9:Nat.beq e 9
 case true=>simp only [b9] at h;exact Air k9 Biz b9 h
 simp only [b9] at h
 cases b23:Nat.beq e 23
 case true=>simp only [b23] at h;exact Air k23 Bcp b23 h
 simp only [b23] at h
 cases b27:Nat.beq e 27
 case true=>simp only [b27] at h;exact Air k27 Bcq b27 h
 simp only [b27] at h
 cases b32:Nat.beq e 32
 case true=>simp only [b32] at h;exact Air k32 Bcr b32 h
 simp only [b32] at h
 cases b38:Nat.beq e 38
 case true=>simp only [b38] at h;exact Air k38 Bcs b38 h
 simp only [b38] at h
 cases b41:Nat.beq e 41
 case true=>simp only [b41] at h;exact Air k41 Bct b41 h
 simp only [b41] at h
 cases b55:Nat.beq e 55
 case true=>simp only [b55] at h;exact Air k55 Bcu b55 h
 simp only [b55] at h
 cases b57:Nat.beq e 57
 case true=>simp only [b57] at h;exact Air k57 Bcv b57 h
 simp only [b57] at h
 cases b60:Nat.beq e 60
 case true=>simp only [b60] at h;exact Air k60 Bcw b60 h
 simp only [b60] at h
 cases b69:Nat.beq e 69
 case true=>simp only [b69] at h;exact Air k69 Bcx b69 h
 simp only [b69] at h
 cases b116:Nat.beq e 116
 case true=>simp only [b116] at h;exact Air Bqn A66 b116 h
 simp only [b116] at h
 cases b123:Nat.beq e 123
 case true=>simp only [b123] at h;exact Air Bqo A67 b123 h
 simp only [b123] at h
 cases b127:Nat.beq e 127
 case true=>simp only [b127] at h;exact Air Bqp A68 b127 h
 simp only [b127] at h
 cases b133:Nat.beq e 133
 case true=>simp only [b133] at h;exact Air Bqq A69 b133 h
 simp only [b133] at h
 cases b139:Nat.beq e 139
 case true=>simp only [b139] at h;exact Air Bqr A7a b139 h
 simp only [b139] at h
 cases b140:Nat.beq e 140
 case true=>simp only [b140] at h;exact Air Bqs A7b b140 h
 simp only [b140] at h
 cases b151:Nat.beq e 151
 case true=>simp only [b151] at h;exact Air Bqt A7c b151 h
 simp only [b151] at h
 cases b178:Nat.beq e 178
 case true=>simp only [b178] at h;exact Air Bqu A7d b178 h
 simp only [b178] at h
 cases b186:Nat.beq e 186
 case true=>simp only [b186] at h;exact Air Bqv A7e b186 h
 simp only [b186] at h
 cases b199:Nat.beq e 199
 case true=>simp only [b199] at h;exact Air Bqw A7f b199 h
 simp only [b199] at h
 cases b201:Nat.beq e 201
 case true=>simp only [b201] at h;exact Air Bqx A7g b201 h
 simp only [b201] at h
 cases h
theorem LX.cat_spec(x y z:LX)(h:x.cat y=some z):y.e=x.e∧z.e=x.e∧y.sz=x.sz∧z.sz=x.sz∧z.len=x.len+y.len∧(∀i,i < x.len→z.row i=x.row i)∧(∀i,z.row (x.len+i)=y.row i):=by
 cases x with
 |t3 l=>exact Aif k3 (LX.g3_eq y) h
 |t4 l=>exact Aif k4 (LX.g4_eq y) h
 |t9 l=>exact Aif k9 (LX.g9_eq y) h
 |t23 l=>exact Aif k23 (LX.g23_eq y) h
 |t27 l=>exact Aif k27 (LX.g27_eq y) h
 |t32 l=>exact Aif k32 (LX.g32_eq y) h
 |t38 l=>exact Aif k38 (LX.g38_eq y) h
 |t41 l=>exact Aif k41 (LX.g41_eq y) h
 |t55 l=>exact Aif k55 (LX.g55_eq y) h
 |t57 l=>exact Aif k57 (LX.g57_eq y) h
 |t60 l=>exact Aif k60 (LX.g60_eq y) h
 |t69 l=>exact Aif k69 (LX.g69_eq y) h
 |t116 l=>exact Aif Bqn (LX.g116_eq y) h
 |t123 l=>exact Aif Bqo (LX.g123_eq y) h
 |t127 l=>exact Aif Bqp (LX.g127_eq y) h
 |t133 l=>exact Aif Bqq (LX.g133_eq y) h
 |t139 l=>exact Aif Bqr (LX.g139_eq y) h
 |t140 l=>exact Aif Bqs (LX.g140_eq y) h
 |t151 l=>exact Aif Bqt (LX.g151_eq y) h
 |t178 l=>exact Aif Bqu (LX.g178_eq y) h
 |t186 l=>exact Aif Bqv (LX.g186_eq y) h
 |t199 l=>exact Aif Bqw (LX.g199_eq y) h
 |t201 l=>exact Aif Bqx (LX.g201_eq y) h
theorem LX.sub_spec(x:LX)(a b:Nat)(h:b≤x.len):(x.sub a b).e=x.e∧(x.sub a b).sz=x.sz∧(x.sub a b).len=b - a∧∀i,i < b - a→(x.sub a b).row i=x.row (a+i):=by
 cases x with
 |t3 l=>exact Ai2 k3 l a b h
 |t4 l=>exact Ai2 k4 l a b h
 |t9 l=>exact Ai2 k9 l a b h
 |t23 l=>exact Ai2 k23 l a b h
 |t27 l=>exact Ai2 k27 l a b h
 |t32 l=>exact Ai2 k32 l a b h
 |t38 l=>exact Ai2 k38 l a b h
 |t41 l=>exact Ai2 k41 l a b h
 |t55 l=>exact Ai2 k55 l a b h
 |t57 l=>exact Ai2 k57 l a b h
 |t60 l=>exact Ai2 k60 l a b h
 |t69 l=>exact Ai2 k69 l a b h
 |t116 l=>exact Ai2 Bqn l a b h
 |t123 l=>exact Ai2 Bqo l a b h
 |t127 l=>exact Ai2 Bqp l a b h
 |t133 l=>exact Ai2 Bqq l a b h
 |t139 l=>exact Ai2 Bqr l a b h
 |t140 l=>exact Ai2 Bqs l a b h
 |t151 l=>exact Ai2 Bqt l a b h
 |t178 l=>exact Ai2 Bqu l a b h
 |t186 l=>exact Ai2 Bqv l a b h
 |t199 l=>exact Ai2 Bqw l a b h
 |t201 l=>exact Ai2 Bqx l a b h
theorem LX.rep_spec(x:LX)(n:Nat):(x.rep n).e=x.e∧(x.rep n).sz=x.sz∧(x.rep n).len=n∧∀i,i < n→(x.rep n).row i=x.row 0:=by
 cases x with
 |t3 l=>exact Ai0 k3 l n
 |t4 l=>exact Ai0 k4 l n
 |t9 l=>exact Ai0 k9 l n
 |t23 l=>exact Ai0 k23 l n
 |t27 l=>exact Ai0 k27 l n
 |t32 l=>exact Ai0 k32 l n
 |t38 l=>exact Ai0 k38 l n
 |t41 l=>exact Ai0 k41 l n
 |t55 l=>exact Ai0 k55 l n
 |t57 l=>exact Ai0 k57 l n
 |t60 l=>exact Ai0 k60 l n
 |t69 l=>exact Ai0 k69 l n
 |t116 l=>exact Ai0 Bqn l n
 |t123 l=>exact Ai0 Bqo l n
 |t127 l=>exact Ai0 Bqp l n
 |t133 l=>exact Ai0 Bqq l n
 |t139 l=>exact Ai0 Bqr l n
 |t140 l=>exact Ai0 Bqs l n
 |t151 l=>exact Ai0 Bqt l n
 |t178 l=>exact Ai0 Bqu l n
 |t186 l=>exact Ai0 Bqv l n
 |t199 l=>exact Ai0 Bqw l n
 |t201 l=>exact Ai0 Bqx l n
theorem Bgx(l:List PV):∀n,Jx l n=true↔n≤l.length:=by
 induction l with
 |nil=>intro n;cases n<;>simp [Jx]
 |cons p r ih=>intro n;cases n<;>simp [Jx,ih]
theorem Ai1{α :Type} [Inhabited α]{K:List α→LX}{row: α→List PV}{e0 sz:Nat}(k:KOK K row e0 sz)(hz:∀a,(row a).length=sz){d:List PV→Option α}(hd:∀r a,d r=some a→B8 r (row a)){i off:Nat}{c:List PV}{l:List α}{y:LX}(h:Agt (Jx (row (l.getD i default)) (off+c.length)) (fun a=>K (l.set i a)) (d (Gi (row (l.getD i default)) off c))=some y):y.e=(K l).e∧y.sz=(K l).sz∧y.len=(K l).len∧off+c.length≤(K l).sz∧(i < (K l).len→B8 (Gi ((K l).row i) off c) (y.row i))∧∀j,j≠i→y.row j=(K l).row j:=by
 unfold Agt at h
 split at h
 ·rename_i a h1 h2
  injection h with h;subst h
  simp only [k.e,k.sz,k.len,k.row,true_and]
  refine ⟨List.length_set,by rw [←hz (l.getD i default)];exact (Bgx _ _).1 h1,fun hi=> ?_,fun j hj=> ?_⟩
  ·rw [Bde l i a hi]
   exact hd _ _ h2
  ·rw [Bdf l i j a hj]
 ·cases h
theorem LX.set_spec(x:LX)(i off:Nat)(c:List PV)(y:LX)(h:LX.set x i off c=some y):y.e=x.e∧y.sz=x.sz∧y.len=x.len∧off+c.length≤x.sz∧(i < x.len→B8 (Gi (x.row i) off c) (y.row i))∧∀j,j≠i→y.row j=x.row j:=by
 cases x with
 |t3 l=>exact Ai1 k3 (fun _=>rfl) Bir h
 |t4 l=>exact Ai1 k4 (fun _=>rfl) Biu h
 |t9 l=>exact Ai1 k9 (fun _=>rfl) Biz h
 |t23 l=>exact Ai1 k23 (fun _=>rfl) Bcp h
 |t27 l=>exact Ai1 k27 (fun _=>rfl) Bcq h
 |t32 l=>exact Ai1 k32 (fun _=>rfl) Bcr h
 |t38 l=>exact Ai1 k38 (fun _=>rfl) Bcs h
 |t41 l=>exact Ai1 k41 (fun _=>rfl) Bct h
 |t55 l=>exact Ai1 k55 (fun _=>rfl) Bcu h
 |t57 l=>exact Ai1 k57 (fun _=>rfl) Bcv h
 |t60 l=>exact Ai1 k60 (fun _=>rfl) Bcw h
 |t69 l=>exact Ai1 k69 (fun _=>rfl) Bcx h
 |t116 l=>exact Ai1 Bqn (fun _=>rfl) A66 h
 |t123 l=>exact Ai1 Bqo (fun _=>rfl) A67 h
 |t127 l=>exact Ai1 Bqp (fun _=>rfl) A68 h
 |t133 l=>exact Ai1 Bqq (fun _=>rfl) A69 h
 |t139 l=>exact Ai1 Bqr (fun _=>rfl) A7a h
 |t140 l=>exact Ai1 Bqs (fun _=>rfl) A7b h
 |t151 l=>exact Ai1 Bqt (fun _=>rfl) A7c h
 |t178 l=>exact Ai1 Bqu (fun _=>rfl) A7d h
 |t186 l=>exact Ai1 Bqv (fun _=>rfl) A7e h
 |t199 l=>exact Ai1 Bqw (fun _=>rfl) A7f h
 |t201 l=>exact Ai1 Bqx (fun _=>rfl) A7g h
theorem Aij{α :Type} [Inhabited α]{l:List α}{p: α→Bool}{r:Option Nat}(h:l.findIdx? p=r):
  (r=none→∀i,i < l.length→p (l.getD i default)=false)∧(∀i,r=some i→i < l.length∧p (l.getD i default)=true∧∀j,j < i→p (l.getD j default)=false):=by
 subst h
 refine ⟨fun h i hi=> ?_,fun i h=> ?_⟩
 ·have:=List.findIdx?_eq_none_iff.1 h (l.getD i default) (by rw [Hk l i hi];exact List.getElem_mem hi)
  simpa using this
 ·obtain ⟨h1,h2,h3⟩:=List.findIdx?_eq_some_iff_getElem.1 h
  refine ⟨h1,by rw [Hk l i h1];exact h2,fun j hj=> ?_⟩
  rw [Hk l j (by omega)]
  simpa using h3 j hj
theorem LX.find_spec(x:LX)(c:List PV)(r:Option Nat)(h:LX.find x c=some r):(r=none→∀i,i < x.len→Aj6 c (x.row i)=some false)∧(∀i,r=some i→i < x.len∧Aj6 c (x.row i)=some true∧∀j,j < i→Aj6 c (x.row j)=some false):=by
 unfold LX.find at h
 split at h
 ·rename_i l k0 a0
  split at h
  ·rename_i hk0
   have e0:=of_decide_eq_true hk0
   subst e0
   injection h with h;subst h
   obtain ⟨s1,s2⟩:=Aij (rfl:l.findIdx? (fun b=>a0 == b)=_)
   have key:∀i b,(a0 == (l.getD i default))=b→Aj6 [.val (.int .i64 a0)] ((LX.t3 l).row i)=some b:=fun i b hb=>congrArg some hb
   exact ⟨fun hr i hi=>key _ _ (s1 hr i hi),fun i hr=>⟨(s2 i hr).1,key _ _ (s2 i hr).2.1,fun j hj=>key _ _ ((s2 i hr).2.2 j hj)⟩⟩
  ·cases h
 ·rename_i l a0
  injection h with h;subst h
  obtain ⟨s1,s2⟩:=Aij (rfl:l.findIdx? (fun b=>a0 == b)=_)
  have key:∀i b,(a0 == (l.getD i default))=b→Aj6 [.val (.bool a0)] ((LX.t4 l).row i)=some b:=fun i b hb=>congrArg some hb
  exact ⟨fun hr i hi=>key _ _ (s1 hr i hi),fun i hr=>⟨(s2 i hr).1,key _ _ (s2 i hr).2.1,fun j hj=>key _ _ ((s2 i hr).2.2 j hj)⟩⟩
 ·rename_i l a0
  injection h with h;subst h
  obtain ⟨s1,s2⟩:=Aij (rfl:l.findIdx? (fun b=>a0 == b)=_)
  have key:∀i b,(a0 == (l.getD i default))=b→Aj6 [.val (.string a0)] ((LX.t9 l).row i)=some b:=fun i b hb=>congrArg some hb
  exact ⟨fun hr i hi=>key _ _ (s1 hr i hi),fun i hr=>⟨(s2 i hr).1,key _ _ (s2 i hr).2.1,fun j hj=>key _ _ ((s2 i hr).2.2 j hj)⟩⟩
 ·rename_i l k0 a0
  split at h
  ·rename_i hk0
   have e0:=of_decide_eq_true hk0
   subst e0
   injection h with h;subst h
   obtain ⟨s1,s2⟩:=Aij (rfl:l.findIdx? (fun b=>a0 == b)=_)
   have key:∀i b,(a0 == (l.getD i default))=b→Aj6 [.val (.int .i64 a0)] ((LX.t41 l).row i)=some b:=fun i b hb=>congrArg some hb
   exact ⟨fun hr i hi=>key _ _ (s1 hr i hi),fun i hr=>⟨(s2 i hr).1,key _ _ (s2 i hr).2.1,fun j hj=>key _ _ ((s2 i hr).2.2 j hj)⟩⟩
  ·cases h
 ·rename_i l a0 a1
  injection h with h;subst h
  obtain ⟨s1,s2⟩:=Aij (rfl:l.findIdx? (fun b=>(a0 == b.a0 && (a1 == b.a1)))=_)
  have key:∀i b,((a0 == (l.getD i default).a0 && (a1 == (l.getD i default).a1)))=b→Aj6 [.val (.string a0),.val (.string a1)] ((LX.t140 l).row i)=some b:=fun i b hb=>congrArg some hb
  exact ⟨fun hr i hi=>key _ _ (s1 hr i hi),fun i hr=>⟨(s2 i hr).1,key _ _ (s2 i hr).2.1,fun j hj=>key _ _ ((s2 i hr).2.2 j hj)⟩⟩
 ·cases h
end Go.Proofs.YtogleahbpobaiaaGreat.Ev
