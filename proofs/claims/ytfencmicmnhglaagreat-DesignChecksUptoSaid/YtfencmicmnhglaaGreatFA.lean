/-  The types of the data, and of rows of them. -/
import Derived.Test.YtfencmicmnhglaaGreatRows
import Derived.WalkKit
import Derived.LoopN
import Derived.Great.BuildSlice
import Derived.Deep.Draws
namespace Go.Proofs.YtfencmicmnhglaaGreat.Ev
open Go
set_option linter.unusedVariables false
set_option linter.unusedSimpArgs false
set_option linter.unnecessarySimpa false
structure Bt where
 a0:ByteArray
 a1:ByteArray
 deriving Inhabited
structure Cn where
 Name:Bool
 Of:Bool
 E:Bool
 F:Bool
 Args:Bool
 Dist:Bool
 Flag:Bool
 Body:Bool
 Else:Bool
 deriving Inhabited
inductive Ab where
 |mk (Op:Int) (Name:ByteArray) (N:Int) (Kids:(List Ab))
instance:Inhabited Ab:=⟨.mk 0 ByteArray.empty 0 []⟩
def Ab.Op:Ab→Int| .mk x _ _ _=>x
def Ab.Name:Ab→ByteArray| .mk _ x _ _=>x
def Ab.N:Ab→Int| .mk _ _ x _=>x
def Ab.Kids:Ab→(List Ab)| .mk _ _ _ x=>x
def Ab.cp(x:Ab):Ab:= .mk x.Op x.Name x.N x.Kids
theorem Ab.cp_eq(x:Ab):Ab.cp x=x:=by cases x;rfl
theorem Ab.eta(x:Ab):Ab.mk x.Op x.Name x.N x.Kids=x:=by cases x;rfl
structure Nz where
 u_is:Bool
 u_e:Ab
 deriving Inhabited
structure Gi where
 u_is:Bool
 u_name:ByteArray
 deriving Inhabited
structure Au where
 Name:ByteArray
 Length:Int
 Step:Int
 deriving Inhabited
structure Cx where
 At:Int
 Units:Int
 deriving Inhabited
structure Bj where
 Op:Int
 A:Int
 B:Int
 N:Int
 Values:(List Int)
 Weights:(List Int)
 deriving Inhabited
structure Ap where
 Name:ByteArray
 Type_:Int
 deriving Inhabited
structure Av where
 Coef:Int
 What:ByteArray
 Name:ByteArray
 deriving Inhabited
structure Ba where
 Name:ByteArray
 Terms:(List Av)
 Total:Int
 deriving Inhabited
structure Gu where
 Stream:ByteArray
 Up:Bj
 Down:Bj
 deriving Inhabited
structure Af where
 Name:ByteArray
 Units:Int
 Shift:(List Cx)
 Cycle:Int
 Fault:Gu
 deriving Inhabited
inductive Ac where
 |mk (Op:Int) (Name:ByteArray) (Of:ByteArray) (E:Ab) (F:Ab) (Args:(List Ab)) (Dist:Bj) (Flag:Bool) (Body:(List Ac)) (Else:(List Ac))
instance:Inhabited Ac:=⟨.mk 0 ByteArray.empty ByteArray.empty default default [] default false [] []⟩
def Ac.Op:Ac→Int| .mk x _ _ _ _ _ _ _ _ _=>x
def Ac.Name:Ac→ByteArray| .mk _ x _ _ _ _ _ _ _ _=>x
def Ac.Of:Ac→ByteArray| .mk _ _ x _ _ _ _ _ _ _=>x
def Ac.E:Ac→Ab| .mk _ _ _ x _ _ _ _ _ _=>x
def Ac.F:Ac→Ab| .mk _ _ _ _ x _ _ _ _ _=>x
def Ac.Args:Ac→(List Ab)| .mk _ _ _ _ _ x _ _ _ _=>x
def Ac.Dist:Ac→Bj| .mk _ _ _ _ _ _ x _ _ _=>x
def Ac.Flag:Ac→Bool| .mk _ _ _ _ _ _ _ x _ _=>x
def Ac.Body:Ac→(List Ac)| .mk _ _ _ _ _ _ _ _ x _=>x
def Ac.Else:Ac→(List Ac)| .mk _ _ _ _ _ _ _ _ _ x=>x
def Ac.cp(x:Ac):Ac:= .mk x.Op x.Name x.Of (Ab.cp x.E) (Ab.cp x.F) x.Args x.Dist x.Flag x.Body x.Else
theorem Ac.cp_eq(x:Ac):Ac.cp x=x:=by cases x;simp only [Ac.cp,Ab.cp_eq,Ac.Op,Ac.Name,Ac.Of,Ac.E,Ac.F,Ac.Args,Ac.Dist,Ac.Flag,Ac.Body,Ac.Else]
theorem Ac.eta(x:Ac):Ac.mk x.Op x.Name x.Of x.E x.F x.Args x.Dist x.Flag x.Body x.Else=x:=by cases x;rfl
structure Ak where
 Name:ByteArray
 Params:(List Ap)
 Locals:(List Ap)
 Body:(List Ac)
 deriving Inhabited
structure Bm where
 Routine:ByteArray
 Args:(List Int)
 At:Int
 Every:Int
 Until:Int
 deriving Inhabited
structure Aq where
 Name:ByteArray
 Room:Int
 Policy:Int
 deriving Inhabited
structure Al where
 Name:ByteArray
 Type_:Int
 N:Int
 deriving Inhabited
structure Aa where
 Name:ByteArray
 Vars:(List Al)
 Resources:(List Af)
 Stores:(List Aq)
 Belts:(List Au)
 Queues:(List ByteArray)
 Streams:(List ByteArray)
 Tallies:(List ByteArray)
 Levels:(List ByteArray)
 Counts:(List ByteArray)
 Routines:(List Ak)
 Starts:(List Bm)
 Laws:(List Ba)
 deriving Inhabited
structure Ar where
 Params:(List Al)
 Locals:(List Ap)
 Site:Aa
 deriving Inhabited
structure Ah where
 Name:ByteArray
 Levels:(List Int)
 deriving Inhabited
structure Bl where
 From:ByteArray
 To:ByteArray
 Delay:Int
 deriving Inhabited
structure Ad where
 Name:ByteArray
 Params:(List Al)
 Sites:(List Aa)
 Links:(List Bl)
 deriving Inhabited
structure W3 where
 Name:ByteArray
 N:Int
 deriving Inhabited
structure Bv where
 u_code:Bool
 deriving Inhabited
structure Bs where
 u_name:Bool
 u_of:Bool
 u_e:Bool
 u_f:Bool
 u_args:Bool
 u_dist:Bool
 u_flag:Bool
 u_body:Bool
 u_other:Bool
 deriving Inhabited
structure Am where
 u_m:Ad
 u_site:Int
 u_env:Ar
 deriving Inhabited
inductive LX where
 |t3 (l:List Int)
 |t4 (l:List Bool)
 |t9 (l:List ByteArray)
 |t35 (l:List (List Int))
 |t46 (l:List Ah)
 |t50 (l:List (List ByteArray))
 |t55 (l:List Aa)
 |t57 (l:List (List Ap))
 |t60 (l:List Ak)
 |t70 (l:List W3)
 |t75 (l:List Int)
 |t77 (l:List Al)
 |t94 (l:List Ab)
 |t99 (l:List Ac)
 |t145 (l:List Af)
 |t151 (l:List Aq)
 |t155 (l:List Au)
 |t161 (l:List Bm)
 |t167 (l:List Bl)
 |t168 (l:List Bt)
 |t180 (l:List Ba)
 |t184 (l:List Cx)
 |t190 (l:List Ap)
 |t195 (l:List Av)
 |t229 (l:List Gi)
 |t231 (l:List Nz)
 deriving Inhabited
def LX.e:LX→Nat
 | .t3 l=>3
 | .t4 l=>4
 | .t9 l=>9
 | .t35 l=>35
 | .t46 l=>46
 | .t50 l=>50
 | .t55 l=>55
 | .t57 l=>57
 | .t60 l=>60
 | .t70 l=>70
 | .t75 l=>75
 | .t77 l=>77
 | .t94 l=>94
 | .t99 l=>99
 | .t145 l=>145
 | .t151 l=>151
 | .t155 l=>155
 | .t161 l=>161
 | .t167 l=>167
 | .t168 l=>168
 | .t180 l=>180
 | .t184 l=>184
 | .t190 l=>190
 | .t195 l=>195
 | .t229 l=>229
 | .t231 l=>231
def LX.sz:LX→Nat
 | .t3 l=>1
 | .t4 l=>1
 | .t9 l=>1
 | .t35 l=>1
 | .t46 l=>2
 | .t50 l=>1
 | .t55 l=>13
 | .t57 l=>1
 | .t60 l=>4
 | .t70 l=>2
 | .t75 l=>1
 | .t77 l=>3
 | .t94 l=>4
 | .t99 l=>21
 | .t145 l=>17
 | .t151 l=>3
 | .t155 l=>3
 | .t161 l=>5
 | .t167 l=>3
 | .t168 l=>2
 | .t180 l=>3
 | .t184 l=>2
 | .t190 l=>2
 | .t195 l=>3
 | .t229 l=>2
 | .t231 l=>5
def LX.len:LX→Nat
 | .t3 l=>l.length
 | .t4 l=>l.length
 | .t9 l=>l.length
 | .t35 l=>l.length
 | .t46 l=>l.length
 | .t50 l=>l.length
 | .t55 l=>l.length
 | .t57 l=>l.length
 | .t60 l=>l.length
 | .t70 l=>l.length
 | .t75 l=>l.length
 | .t77 l=>l.length
 | .t94 l=>l.length
 | .t99 l=>l.length
 | .t145 l=>l.length
 | .t151 l=>l.length
 | .t155 l=>l.length
 | .t161 l=>l.length
 | .t167 l=>l.length
 | .t168 l=>l.length
 | .t180 l=>l.length
 | .t184 l=>l.length
 | .t190 l=>l.length
 | .t195 l=>l.length
 | .t229 l=>l.length
 | .t231 l=>l.length
def LX.g3:LX→Option (List Int)
 | .t3 l=>some l
 |_=>none
def LX.g4:LX→Option (List Bool)
 | .t4 l=>some l
 |_=>none
def LX.g9:LX→Option (List ByteArray)
 | .t9 l=>some l
 |_=>none
def LX.g35:LX→Option (List (List Int))
 | .t35 l=>some l
 |_=>none
def LX.g46:LX→Option (List Ah)
 | .t46 l=>some l
 |_=>none
def LX.g50:LX→Option (List (List ByteArray))
 | .t50 l=>some l
 |_=>none
def LX.g55:LX→Option (List Aa)
 | .t55 l=>some l
 |_=>none
def LX.g57:LX→Option (List (List Ap))
 | .t57 l=>some l
 |_=>none
def LX.g60:LX→Option (List Ak)
 | .t60 l=>some l
 |_=>none
def LX.g70:LX→Option (List W3)
 | .t70 l=>some l
 |_=>none
def LX.g75:LX→Option (List Int)
 | .t75 l=>some l
 |_=>none
def LX.g77:LX→Option (List Al)
 | .t77 l=>some l
 |_=>none
def LX.g94:LX→Option (List Ab)
 | .t94 l=>some l
 |_=>none
def LX.g99:LX→Option (List Ac)
 | .t99 l=>some l
 |_=>none
def LX.g145:LX→Option (List Af)
 | .t145 l=>some l
 |_=>none
def LX.g151:LX→Option (List Aq)
 | .t151 l=>some l
 |_=>none
def LX.g155:LX→Option (List Au)
 | .t155 l=>some l
 |_=>none
def LX.g161:LX→Option (List Bm)
 | .t161 l=>some l
 |_=>none
def LX.g167:LX→Option (List Bl)
 | .t167 l=>some l
 |_=>none
def LX.g168:LX→Option (List Bt)
 | .t168 l=>some l
 |_=>none
def LX.g180:LX→Option (List Ba)
 | .t180 l=>some l
 |_=>none
def LX.g184:LX→Option (List Cx)
 | .t184 l=>some l
 |_=>none
def LX.g190:LX→Option (List Ap)
 | .t190 l=>some l
 |_=>none
def LX.g195:LX→Option (List Av)
 | .t195 l=>some l
 |_=>none
def LX.g229:LX→Option (List Gi)
 | .t229 l=>some l
 |_=>none
def LX.g231:LX→Option (List Nz)
 | .t231 l=>some l
 |_=>none
def Lf{α :Type}(K: α→LX)(o:Option α):Option LX:=match o with
 |some l=>some (K l)
 |none=>none
def Adw{α :Type}(b:Bool)(K: α→LX)(o:Option α):Option LX:=match b,o with
 |true,some l=>some (K l)
 |_,_=>none
def LX.cat(x y:LX):Option LX:=match x with
 | .t3 l=>Lf (fun m=> .t3 (l++m)) y.g3
 | .t4 l=>Lf (fun m=> .t4 (l++m)) y.g4
 | .t9 l=>Lf (fun m=> .t9 (l++m)) y.g9
 | .t35 l=>Lf (fun m=> .t35 (l++m)) y.g35
 | .t46 l=>Lf (fun m=> .t46 (l++m)) y.g46
 | .t50 l=>Lf (fun m=> .t50 (l++m)) y.g50
 | .t55 l=>Lf (fun m=> .t55 (l++m)) y.g55
 | .t57 l=>Lf (fun m=> .t57 (l++m)) y.g57
 | .t60 l=>Lf (fun m=> .t60 (l++m)) y.g60
 | .t70 l=>Lf (fun m=> .t70 (l++m)) y.g70
 | .t75 l=>Lf (fun m=> .t75 (l++m)) y.g75
 | .t77 l=>Lf (fun m=> .t77 (l++m)) y.g77
 | .t94 l=>Lf (fun m=> .t94 (l++m)) y.g94
 | .t99 l=>Lf (fun m=> .t99 (l++m)) y.g99
 | .t145 l=>Lf (fun m=> .t145 (l++m)) y.g145
 | .t151 l=>Lf (fun m=> .t151 (l++m)) y.g151
 | .t155 l=>Lf (fun m=> .t155 (l++m)) y.g155
 | .t161 l=>Lf (fun m=> .t161 (l++m)) y.g161
 | .t167 l=>Lf (fun m=> .t167 (l++m)) y.g167
 | .t168 l=>Lf (fun m=> .t168 (l++m)) y.g168
 | .t180 l=>Lf (fun m=> .t180 (l++m)) y.g180
 | .t184 l=>Lf (fun m=> .t184 (l++m)) y.g184
 | .t190 l=>Lf (fun m=> .t190 (l++m)) y.g190
 | .t195 l=>Lf (fun m=> .t195 (l++m)) y.g195
 | .t229 l=>Lf (fun m=> .t229 (l++m)) y.g229
 | .t231 l=>Lf (fun m=> .t231 (l++m)) y.g231
def LX.sub(x:LX)(a b:Nat):LX:=match x with
 | .t3 l=> .t3 ((l.take b).drop a)
 | .t4 l=> .t4 ((l.take b).drop a)
 | .t9 l=> .t9 ((l.take b).drop a)
 | .t35 l=> .t35 ((l.take b).drop a)
 | .t46 l=> .t46 ((l.take b).drop a)
 | .t50 l=> .t50 ((l.take b).drop a)
 | .t55 l=> .t55 ((l.take b).drop a)
 | .t57 l=> .t57 ((l.take b).drop a)
 | .t60 l=> .t60 ((l.take b).drop a)
 | .t70 l=> .t70 ((l.take b).drop a)
 | .t75 l=> .t75 ((l.take b).drop a)
 | .t77 l=> .t77 ((l.take b).drop a)
 | .t94 l=> .t94 ((l.take b).drop a)
 | .t99 l=> .t99 ((l.take b).drop a)
 | .t145 l=> .t145 ((l.take b).drop a)
 | .t151 l=> .t151 ((l.take b).drop a)
 | .t155 l=> .t155 ((l.take b).drop a)
 | .t161 l=> .t161 ((l.take b).drop a)
 | .t167 l=> .t167 ((l.take b).drop a)
 | .t168 l=> .t168 ((l.take b).drop a)
 | .t180 l=> .t180 ((l.take b).drop a)
 | .t184 l=> .t184 ((l.take b).drop a)
 | .t190 l=> .t190 ((l.take b).drop a)
 | .t195 l=> .t195 ((l.take b).drop a)
 | .t229 l=> .t229 ((l.take b).drop a)
 | .t231 l=> .t231 ((l.take b).drop a)
def LX.rep(x:LX)(n:Nat):LX:=match x with
 | .t3 l=> .t3 (List.replicate n (l.getD 0 default))
 | .t4 l=> .t4 (List.replicate n (l.getD 0 default))
 | .t9 l=> .t9 (List.replicate n (l.getD 0 default))
 | .t35 l=> .t35 (List.replicate n (l.getD 0 default))
 | .t46 l=> .t46 (List.replicate n (l.getD 0 default))
 | .t50 l=> .t50 (List.replicate n (l.getD 0 default))
 | .t55 l=> .t55 (List.replicate n (l.getD 0 default))
 | .t57 l=> .t57 (List.replicate n (l.getD 0 default))
 | .t60 l=> .t60 (List.replicate n (l.getD 0 default))
 | .t70 l=> .t70 (List.replicate n (l.getD 0 default))
 | .t75 l=> .t75 (List.replicate n (l.getD 0 default))
 | .t77 l=> .t77 (List.replicate n (l.getD 0 default))
 | .t94 l=> .t94 (List.replicate n (l.getD 0 default))
 | .t99 l=> .t99 (List.replicate n (l.getD 0 default))
 | .t145 l=> .t145 (List.replicate n (l.getD 0 default))
 | .t151 l=> .t151 (List.replicate n (l.getD 0 default))
 | .t155 l=> .t155 (List.replicate n (l.getD 0 default))
 | .t161 l=> .t161 (List.replicate n (l.getD 0 default))
 | .t167 l=> .t167 (List.replicate n (l.getD 0 default))
 | .t168 l=> .t168 (List.replicate n (l.getD 0 default))
 | .t180 l=> .t180 (List.replicate n (l.getD 0 default))
 | .t184 l=> .t184 (List.replicate n (l.getD 0 default))
 | .t190 l=> .t190 (List.replicate n (l.getD 0 default))
 | .t195 l=> .t195 (List.replicate n (l.getD 0 default))
 | .t229 l=> .t229 (List.replicate n (l.getD 0 default))
 | .t231 l=> .t231 (List.replicate n (l.getD 0 default))
def LX.nil(e:Nat):Option LX:=match Nat.beq e 3 with
 |true=>some (.t3 [])
 |false=>match Nat.beq e 4 with
 |true=>some (.t4 [])
 |false=>match Nat.beq e 9 with
 |true=>some (.t9 [])
 |false=>match Nat.beq e 35 with
 |true=>some (.t35 [])
 |false=>match Nat.beq e 46 with
 |true=>some (.t46 [])
 |false=>match Nat.beq e 50 with
 |true=>some (.t50 [])
 |false=>match Nat.beq e 55 with
 |true=>some (.t55 [])
 |false=>match Nat.beq e 57 with
 |true=>some (.t57 [])
 |false=>match Nat.beq e 60 with
 |true=>some (.t60 [])
 |false=>match Nat.beq e 70 with
 |true=>some (.t70 [])
 |false=>match Nat.beq e 75 with
 |true=>some (.t75 [])
 |false=>match Nat.beq e 77 with
 |true=>some (.t77 [])
 |false=>match Nat.beq e 94 with
 |true=>some (.t94 [])
 |false=>match Nat.beq e 99 with
 |true=>some (.t99 [])
 |false=>match Nat.beq e 145 with
 |true=>some (.t145 [])
 |false=>match Nat.beq e 151 with
 |true=>some (.t151 [])
 |false=>match Nat.beq e 155 with
 |true=>some (.t155 [])
 |false=>match Nat.beq e 161 with
 |true=>some (.t161 [])
 |false=>match Nat.beq e 167 with
 |true=>some (.t167 [])
 |false=>match Nat.beq e 168 with
 |true=>some (.t168 [])
 |false=>match Nat.beq e 180 with
 |true=>some (.t180 [])
 |false=>match Nat.beq e 184 with
 |true=>some (.t184 [])
 |false=>match Nat.beq e 190 with
 |true=>some (.t190 [])
 |false=>match Nat.beq e 195 with
 |true=>some (.t195 [])
 |false=>match Nat.beq e 229 with
 |true=>some (.t229 [])
 |false=>match Nat.beq e 231 with
 |true=>some (.t231 [])
 |false=>none
end Go.Proofs.YtfencmicmnhglaaGreat.Ev
namespace Go.Proofs.YtfencmicmnhglaaGreat.Ev
open Go
set_option linter.unusedVariables false
set_option linter.unusedSimpArgs false
set_option linter.unnecessarySimpa false
inductive PV where
 |any
 |val (v:Value)
 |agg (l:List PV)
 |tup (l:List PV)
 |sl (own:Bool) (e sz:Nat) (es:List (List PV))
 |lst (own:Bool) (x:LX)
 |ref (l:List PV)
 |loc (d off:Nat)
 |el (d sz i off:Nat)
 |vw (c:Bool) (d e sz n:Nat)
 |mp (d:Nat)
 |clo (f n:Nat) (caps:List PV)
 |arrO (x:LX)
 |mapO (gk gv:Bool) (ks vs:LX)
 deriving Inhabited
def PV.view:PV→PV
 | .sl _ e sz es=> .sl false e sz es
 | .lst _ x=> .lst false x
 |p=>p
def PV.flat:PV→Bool
 | .any=>true
 | .val _=>true
 | .lst _ _=>true
 |_=>false
inductive PV.Le:PV→PV→Prop
 |view (p:PV):PV.Le p p.view
 |nil (own:Bool) (y:LX) (h:y.len=0):PV.Le (.val (.slice none 0 0)) (.lst own y)
def Hc(l:List PV)(off:Nat)(new:List PV):List PV:=match l,off,new with
 | [],_,_=> []
 |l,_,[]=>l
 |_::r,0,q::new=>q::Hc r 0 new
 |p::r,n+1,new=>p::Hc r n new
def Aur:PV→PV→Option Bool
 | .val (.int k a),.val (.int k' b)=>match decide (k=k') with
  |true=>some (a == b)
  |false=>none
 | .val (.string a),.val (.string b)=>some (a == b)
 | .val (.bool a),.val (.bool b)=>some (a == b)
 |_,_=>none
def Bbn:PV→List PV→PV→List PV→Option Bool
 |a,[],b,[]=>Aur a b
 |a,a'::l,b,b'::m=>match Aur a b,Bbn a' l b' m with
  |some x,some y=>some (x && y)
  |_,_=>none
 |_,_,_,_=>none
def Alo:List PV→List PV→Option Bool
 |a::l,b::m=>Bbn a l b m
 |_,_=>none
end Go.Proofs.YtfencmicmnhglaaGreat.Ev
namespace Go.Proofs.YtfencmicmnhglaaGreat.Ev
open Go
set_option linter.unusedVariables false
set_option linter.unusedSimpArgs false
set_option linter.unnecessarySimpa false
def It(l:List PV)(n:Nat):Bool:=match l,n with
 |_,0=>true
 |_::r,n+1=>It r n
 |_,_=>false
def E9(k:IntKind):PV→Option Int
 | .val (.int k' a)=>match decide (k'=k) with
  |true=>some a
  |false=>none
 |_=>none
def Th:PV→Option Bool
 | .val (.bool a)=>some a
 |_=>none
def Oe:PV→Option ByteArray
 | .val (.string a)=>some a
 |_=>none
inductive B7:List PV→List PV→Prop
 |nil:B7 [] []
 |cons {p q:PV} {r s:List PV} (h:PV.Le p q) (hr:B7 r s):B7 (p::r) (q::s)
theorem Bp{k:IntKind}{p:PV}{a:Int}(h:E9 k p=some a):PV.Le p (.val (.int k a)):=by
 unfold E9 at h
 split at h
 ·split at h
  ·rename_i hk
   have:=of_decide_eq_true hk
   subst this
   injection h with h;subst h;exact .view _
  ·cases h
 ·cases h
theorem Gn{p:PV}{a:Bool}(h:Th p=some a):PV.Le p (.val (.bool a)):=by
 unfold Th at h
 split at h
 ·injection h with h;subst h;exact .view _
 ·cases h
theorem C1{p:PV}{a:ByteArray}(h:Oe p=some a):PV.Le p (.val (.string a)):=by
 unfold Oe at h
 split at h
 ·injection h with h;subst h;exact .view _
 ·cases h
def m0{α :Type}(d:List PV→Option α):List (List PV)→Option (List α)
 | []=>some []
 |r::rs=>match d r,m0 d rs with
  |some a,some l=>some (a::l)
  |_,_=>none
theorem Bap{α :Type} [Inhabited α]{d:List PV→Option α}{row: α→List PV}(hd:∀r a,d r=some a→B7 r (row a)):∀(rs:List (List PV)) (l:List α),m0 d rs=some l→
  l.length=rs.length∧∀(i:Nat) (r:List PV),rs[i]? =some r→B7 r (row (l.getD i default))
 | [],l,h=>by
  simp only [m0,Option.some.injEq] at h
  subst h
  exact ⟨rfl,fun i r hr=>by simp at hr⟩
 |r::rs,l,h=>by
  simp only [m0] at h
  split at h
  ·rename_i a m h1 h2
   injection h with h
   subst h
   obtain ⟨q1,q2⟩:=Bap hd rs m h2
   refine ⟨by simp [q1],fun i x hx=> ?_⟩
   cases i with
   |zero=>simp at hx;subst hx;simpa using hd _ _ h1
   |succ i=>simpa using q2 i x (by simpa using hx)
  ·cases h
def Bvn:List PV→Bool
 | []=>true
 |p::r=>match p.flat with
  |true=>Bvn r
  |false=>false
theorem Ba1:∀(l:List PV),Bvn l=true→∀p∈l,p.flat=true
 | [],_,p,h=>by cases h
 |q::r,h,p,hp=>by
  simp only [Bvn] at h
  cases hq:q.flat with
  |false=>rw [hq] at h;cases h
  |true=>
   rw [hq] at h
   rcases List.mem_cons.1 hp with e|e
   ·subst e;exact hq
   ·exact Ba1 r h p e
def dl3:PV→Option (List Int)
 | .lst _ x=>x.g3
 | .val (.slice none 0 0)=>some []
 |_=>none
theorem Ov{p:PV}{a:List Int}(h:dl3 p=some a):PV.Le p (.lst false (.t3 a)):=by
 unfold dl3 at h
 split at h
 ·rename_i o x
  cases x<;>simp only [LX.g3] at h<;>first|(injection h with h;subst h;exact .view _)|cases h
 ·injection h with h;subst h;exact .nil false _ rfl
 ·cases h
def dl9:PV→Option (List ByteArray)
 | .lst _ x=>x.g9
 | .val (.slice none 0 0)=>some []
 |_=>none
theorem Qm{p:PV}{a:List ByteArray}(h:dl9 p=some a):PV.Le p (.lst false (.t9 a)):=by
 unfold dl9 at h
 split at h
 ·rename_i o x
  cases x<;>simp only [LX.g9] at h<;>first|(injection h with h;subst h;exact .view _)|cases h
 ·injection h with h;subst h;exact .nil false _ rfl
 ·cases h
def Ca6:PV→Option (List Ah)
 | .lst _ x=>x.g46
 | .val (.slice none 0 0)=>some []
 |_=>none
theorem B0r{p:PV}{a:List Ah}(h:Ca6 p=some a):PV.Le p (.lst false (.t46 a)):=by
 unfold Ca6 at h
 split at h
 ·rename_i o x
  cases x<;>simp only [LX.g46] at h<;>first|(injection h with h;subst h;exact .view _)|cases h
 ·injection h with h;subst h;exact .nil false _ rfl
 ·cases h
def B0s:PV→Option (List Aa)
 | .lst _ x=>x.g55
 | .val (.slice none 0 0)=>some []
 |_=>none
theorem Bmv{p:PV}{a:List Aa}(h:B0s p=some a):PV.Le p (.lst false (.t55 a)):=by
 unfold B0s at h
 split at h
 ·rename_i o x
  cases x<;>simp only [LX.g55] at h<;>first|(injection h with h;subst h;exact .view _)|cases h
 ·injection h with h;subst h;exact .nil false _ rfl
 ·cases h
def Ca7:PV→Option (List (List Ap))
 | .lst _ x=>x.g57
 | .val (.slice none 0 0)=>some []
 |_=>none
theorem B0t{p:PV}{a:List (List Ap)}(h:Ca7 p=some a):PV.Le p (.lst false (.t57 a)):=by
 unfold Ca7 at h
 split at h
 ·rename_i o x
  cases x<;>simp only [LX.g57] at h<;>first|(injection h with h;subst h;exact .view _)|cases h
 ·injection h with h;subst h;exact .nil false _ rfl
 ·cases h
def Btb:PV→Option (List Ak)
 | .lst _ x=>x.g60
 | .val (.slice none 0 0)=>some []
 |_=>none
theorem A3x{p:PV}{a:List Ak}(h:Btb p=some a):PV.Le p (.lst false (.t60 a)):=by
 unfold Btb at h
 split at h
 ·rename_i o x
  cases x<;>simp only [LX.g60] at h<;>first|(injection h with h;subst h;exact .view _)|cases h
 ·injection h with h;subst h;exact .nil false _ rfl
 ·cases h
def Ca8:PV→Option (List Int)
 | .lst _ x=>x.g75
 | .val (.slice none 0 0)=>some []
 |_=>none
theorem B0u{p:PV}{a:List Int}(h:Ca8 p=some a):PV.Le p (.lst false (.t75 a)):=by
 unfold Ca8 at h
 split at h
 ·rename_i o x
  cases x<;>simp only [LX.g75] at h<;>first|(injection h with h;subst h;exact .view _)|cases h
 ·injection h with h;subst h;exact .nil false _ rfl
 ·cases h
def A56:PV→Option (List Al)
 | .lst _ x=>x.g77
 | .val (.slice none 0 0)=>some []
 |_=>none
theorem Aiu{p:PV}{a:List Al}(h:A56 p=some a):PV.Le p (.lst false (.t77 a)):=by
 unfold A56 at h
 split at h
 ·rename_i o x
  cases x<;>simp only [LX.g77] at h<;>first|(injection h with h;subst h;exact .view _)|cases h
 ·injection h with h;subst h;exact .nil false _ rfl
 ·cases h
def A2g:PV→Option (List Ab)
 | .lst _ x=>x.g94
 | .val (.slice none 0 0)=>some []
 |_=>none
theorem Af0{p:PV}{a:List Ab}(h:A2g p=some a):PV.Le p (.lst false (.t94 a)):=by
 unfold A2g at h
 split at h
 ·rename_i o x
  cases x<;>simp only [LX.g94] at h<;>first|(injection h with h;subst h;exact .view _)|cases h
 ·injection h with h;subst h;exact .nil false _ rfl
 ·cases h
def Bdc:PV→Option (List Ac)
 | .lst _ x=>x.g99
 | .val (.slice none 0 0)=>some []
 |_=>none
theorem Apn{p:PV}{a:List Ac}(h:Bdc p=some a):PV.Le p (.lst false (.t99 a)):=by
 unfold Bdc at h
 split at h
 ·rename_i o x
  cases x<;>simp only [LX.g99] at h<;>first|(injection h with h;subst h;exact .view _)|cases h
 ·injection h with h;subst h;exact .nil false _ rfl
 ·cases h
def Baq:PV→Option (List Af)
 | .lst _ x=>x.g145
 | .val (.slice none 0 0)=>some []
 |_=>none
theorem Aw4{p:PV}{a:List Af}(h:Baq p=some a):PV.Le p (.lst false (.t145 a)):=by
 unfold Baq at h
 split at h
 ·rename_i o x
  cases x<;>simp only [LX.g145] at h<;>first|(injection h with h;subst h;exact .view _)|cases h
 ·injection h with h;subst h;exact .nil false _ rfl
 ·cases h
def Bar:PV→Option (List Aq)
 | .lst _ x=>x.g151
 | .val (.slice none 0 0)=>some []
 |_=>none
theorem Aw5{p:PV}{a:List Aq}(h:Bar p=some a):PV.Le p (.lst false (.t151 a)):=by
 unfold Bar at h
 split at h
 ·rename_i o x
  cases x<;>simp only [LX.g151] at h<;>first|(injection h with h;subst h;exact .view _)|cases h
 ·injection h with h;subst h;exact .nil false _ rfl
 ·cases h
def Bas:PV→Option (List Au)
 | .lst _ x=>x.g155
 | .val (.slice none 0 0)=>some []
 |_=>none
theorem Aw6{p:PV}{a:List Au}(h:Bas p=some a):PV.Le p (.lst false (.t155 a)):=by
 unfold Bas at h
 split at h
 ·rename_i o x
  cases x<;>simp only [LX.g155] at h<;>first|(injection h with h;subst h;exact .view _)|cases h
 ·injection h with h;subst h;exact .nil false _ rfl
 ·cases h
def Bat:PV→Option (List Bm)
 | .lst _ x=>x.g161
 | .val (.slice none 0 0)=>some []
 |_=>none
theorem Aw7{p:PV}{a:List Bm}(h:Bat p=some a):PV.Le p (.lst false (.t161 a)):=by
 unfold Bat at h
 split at h
 ·rename_i o x
  cases x<;>simp only [LX.g161] at h<;>first|(injection h with h;subst h;exact .view _)|cases h
 ·injection h with h;subst h;exact .nil false _ rfl
 ·cases h
def Bms:PV→Option (List Bl)
 | .lst _ x=>x.g167
 | .val (.slice none 0 0)=>some []
 |_=>none
theorem Bf1{p:PV}{a:List Bl}(h:Bms p=some a):PV.Le p (.lst false (.t167 a)):=by
 unfold Bms at h
 split at h
 ·rename_i o x
  cases x<;>simp only [LX.g167] at h<;>first|(injection h with h;subst h;exact .view _)|cases h
 ·injection h with h;subst h;exact .nil false _ rfl
 ·cases h
def Bau:PV→Option (List Ba)
 | .lst _ x=>x.g180
 | .val (.slice none 0 0)=>some []
 |_=>none
theorem Aw8{p:PV}{a:List Ba}(h:Bau p=some a):PV.Le p (.lst false (.t180 a)):=by
 unfold Bau at h
 split at h
 ·rename_i o x
  cases x<;>simp only [LX.g180] at h<;>first|(injection h with h;subst h;exact .view _)|cases h
 ·injection h with h;subst h;exact .nil false _ rfl
 ·cases h
def Bmt:PV→Option (List Cx)
 | .lst _ x=>x.g184
 | .val (.slice none 0 0)=>some []
 |_=>none
theorem Bf2{p:PV}{a:List Cx}(h:Bmt p=some a):PV.Le p (.lst false (.t184 a)):=by
 unfold Bmt at h
 split at h
 ·rename_i o x
  cases x<;>simp only [LX.g184] at h<;>first|(injection h with h;subst h;exact .view _)|cases h
 ·injection h with h;subst h;exact .nil false _ rfl
 ·cases h
def Aug:PV→Option (List Ap)
 | .lst _ x=>x.g190
 | .val (.slice none 0 0)=>some []
 |_=>none
theorem Ag4{p:PV}{a:List Ap}(h:Aug p=some a):PV.Le p (.lst false (.t190 a)):=by
 unfold Aug at h
 split at h
 ·rename_i o x
  cases x<;>simp only [LX.g190] at h<;>first|(injection h with h;subst h;exact .view _)|cases h
 ·injection h with h;subst h;exact .nil false _ rfl
 ·cases h
def Bmu:PV→Option (List Av)
 | .lst _ x=>x.g195
 | .val (.slice none 0 0)=>some []
 |_=>none
theorem Bf3{p:PV}{a:List Av}(h:Bmu p=some a):PV.Le p (.lst false (.t195 a)):=by
 unfold Bmu at h
 split at h
 ·rename_i o x
  cases x<;>simp only [LX.g195] at h<;>first|(injection h with h;subst h;exact .view _)|cases h
 ·injection h with h;subst h;exact .nil false _ rfl
 ·cases h
def Bik(x:Int):List PV:= [.val (.int .i64 x)]
def B0o(r:List PV):Option Int:=match r with
 | [c0]=>match E9 .i64 c0 with
  |some a0=>some a0
  |_=>none
 |_=>none
theorem Bmf(r:List PV)(x:Int)(h:B0o r=some x):B7 r (Bik x):=by
 unfold B0o at h
 split at h
 ·split at h
  ·rename_i h0
   injection h with h;subst h;exact (.cons (Bp h0) B7.nil)
  ·cases h
 ·cases h
def Btu(x:Bool):List PV:= [.val (.bool x)]
def B0p(r:List PV):Option Bool:=match r with
 | [c0]=>match Th c0 with
  |some a0=>some a0
  |_=>none
 |_=>none
theorem Bmh(r:List PV)(x:Bool)(h:B0p r=some x):B7 r (Btu x):=by
 unfold B0p at h
 split at h
 ·split at h
  ·rename_i h0
   injection h with h;subst h;exact (.cons (Gn h0) B7.nil)
  ·cases h
 ·cases h
def Bim(x:ByteArray):List PV:= [.val (.string x)]
def B0q(r:List PV):Option ByteArray:=match r with
 | [c0]=>match Oe c0 with
  |some a0=>some a0
  |_=>none
 |_=>none
theorem Bmr(r:List PV)(x:ByteArray)(h:B0q r=some x):B7 r (Bim x):=by
 unfold B0q at h
 split at h
 ·split at h
  ·rename_i h0
   injection h with h;subst h;exact (.cons (C1 h0) B7.nil)
  ·cases h
 ·cases h
def Bbh(x:(List Int)):List PV:= [.lst false (.t3 x)]
def Bme(r:List PV):Option (List Int):=match r with
 | [c0]=>match dl3 c0 with
  |some a0=>some a0
  |_=>none
 |_=>none
theorem Bfq(r:List PV)(x:(List Int))(h:Bme r=some x):B7 r (Bbh x):=by
 unfold Bme at h
 split at h
 ·split at h
  ·rename_i h0
   injection h with h;subst h;exact (.cons (Ov h0) B7.nil)
  ·cases h
 ·cases h
def A1y(x:Ah):List PV:= [.val (.string x.Name),.lst false (.t3 x.Levels)]
def Bmg(r:List PV):Option Ah:=match r with
 | [c0,c1]=>match Oe c0,dl3 c1 with
  |some a0,some a1=>some (Ah.mk a0 a1)
  |_,_=>none
 |_=>none
theorem Bfr(r:List PV)(x:Ah)(h:Bmg r=some x):B7 r (A1y x):=by
 unfold Bmg at h
 split at h
 ·split at h
  ·rename_i h0 h1
   injection h with h;subst h;exact (.cons (C1 h0) (.cons (Ov h1) B7.nil))
  ·cases h
 ·cases h
def Bbi(x:(List ByteArray)):List PV:= [.lst false (.t9 x)]
def Bmi(r:List PV):Option (List ByteArray):=match r with
 | [c0]=>match dl9 c0 with
  |some a0=>some a0
  |_=>none
 |_=>none
theorem Bfs(r:List PV)(x:(List ByteArray))(h:Bmi r=some x):B7 r (Bbi x):=by
 unfold Bmi at h
 split at h
 ·split at h
  ·rename_i h0
   injection h with h;subst h;exact (.cons (Qm h0) B7.nil)
  ·cases h
 ·cases h
def A1z(x:Aa):List PV:= [.val (.string x.Name),.lst false (.t77 x.Vars),.lst false (.t145 x.Resources),.lst false (.t151 x.Stores),.lst false (.t155 x.Belts),.lst false (.t9 x.Queues),.lst false (.t9 x.Streams),.lst false (.t9 x.Tallies),.lst false (.t9 x.Levels),.lst false (.t9 x.Counts),.lst false (.t60 x.Routines),.lst false (.t161 x.Starts),.lst false (.t180 x.Laws)]
def Bmj(r:List PV):Option Aa:=match r with
 | [c0,c1,c2,c3,c4,c5,c6,c7,c8,c9,c10,c11,c12]=>match Oe c0,A56 c1,Baq c2,Bar c3,Bas c4,dl9 c5,dl9 c6,dl9 c7,dl9 c8,dl9 c9,Btb c10,Bat c11,Bau c12 with
  |some a0,some a1,some a2,some a3,some a4,some a5,some a6,some a7,some a8,some a9,some a10,some a11,some a12=>some (Aa.mk a0 a1 a2 a3 a4 a5 a6 a7 a8 a9 a10 a11 a12)
  |_,_,_,_,_,_,_,_,_,_,_,_,_=>none
 |_=>none
theorem Bft(r:List PV)(x:Aa)(h:Bmj r=some x):B7 r (A1z x):=by
 unfold Bmj at h
 split at h
 ·split at h
  ·rename_i h0 h1 h2 h3 h4 h5 h6 h7 h8 h9 h10 h11 h12
   injection h with h;subst h;exact (.cons (C1 h0) (.cons (Aiu h1) (.cons (Aw4 h2) (.cons (Aw5 h3) (.cons (Aw6 h4) (.cons (Qm h5) (.cons (Qm h6) (.cons (Qm h7) (.cons (Qm h8) (.cons (Qm h9) (.cons (A3x h10) (.cons (Aw7 h11) (.cons (Aw8 h12) B7.nil)))))))))))))
  ·cases h
 ·cases h
def Bbj(x:(List Ap)):List PV:= [.lst false (.t190 x)]
def Bmk(r:List PV):Option (List Ap):=match r with
 | [c0]=>match Aug c0 with
  |some a0=>some a0
  |_=>none
 |_=>none
theorem Bfu(r:List PV)(x:(List Ap))(h:Bmk r=some x):B7 r (Bbj x):=by
 unfold Bmk at h
 split at h
 ·split at h
  ·rename_i h0
   injection h with h;subst h;exact (.cons (Ag4 h0) B7.nil)
  ·cases h
 ·cases h
def A10(x:Ak):List PV:= [.val (.string x.Name),.lst false (.t190 x.Params),.lst false (.t190 x.Locals),.lst false (.t99 x.Body)]
def Bml(r:List PV):Option Ak:=match r with
 | [c0,c1,c2,c3]=>match Oe c0,Aug c1,Aug c2,Bdc c3 with
  |some a0,some a1,some a2,some a3=>some (Ak.mk a0 a1 a2 a3)
  |_,_,_,_=>none
 |_=>none
theorem Bfv(r:List PV)(x:Ak)(h:Bml r=some x):B7 r (A10 x):=by
 unfold Bml at h
 split at h
 ·split at h
  ·rename_i h0 h1 h2 h3
   injection h with h;subst h;exact (.cons (C1 h0) (.cons (Ag4 h1) (.cons (Ag4 h2) (.cons (Apn h3) B7.nil))))
  ·cases h
 ·cases h
def Bil(x:W3):List PV:= [.val (.string x.Name),.val (.int .i64 x.N)]
def Bmm(r:List PV):Option W3:=match r with
 | [c0,c1]=>match Oe c0,E9 .i64 c1 with
  |some a0,some a1=>some (W3.mk a0 a1)
  |_,_=>none
 |_=>none
theorem Bfw(r:List PV)(x:W3)(h:Bmm r=some x):B7 r (Bil x):=by
 unfold Bmm at h
 split at h
 ·split at h
  ·rename_i h0 h1
   injection h with h;subst h;exact (.cons (C1 h0) (.cons (Bp h1) B7.nil))
  ·cases h
 ·cases h
def Bbk(x:Int):List PV:= [.val (.int .i64 x)]
def Bmn(r:List PV):Option Int:=match r with
 | [c0]=>match E9 .i64 c0 with
  |some a0=>some a0
  |_=>none
 |_=>none
theorem Bfx(r:List PV)(x:Int)(h:Bmn r=some x):B7 r (Bbk x):=by
 unfold Bmn at h
 split at h
 ·split at h
  ·rename_i h0
   injection h with h;subst h;exact (.cons (Bp h0) B7.nil)
  ·cases h
 ·cases h
def A11(x:Al):List PV:= [.val (.string x.Name),.val (.int .i64 x.Type_),.val (.int .i64 x.N)]
def Bmo(r:List PV):Option Al:=match r with
 | [c0,c1,c2]=>match Oe c0,E9 .i64 c1,E9 .i64 c2 with
  |some a0,some a1,some a2=>some (Al.mk a0 a1 a2)
  |_,_,_=>none
 |_=>none
theorem Bfy(r:List PV)(x:Al)(h:Bmo r=some x):B7 r (A11 x):=by
 unfold Bmo at h
 split at h
 ·split at h
  ·rename_i h0 h1 h2
   injection h with h;subst h;exact (.cons (C1 h0) (.cons (Bp h1) (.cons (Bp h2) B7.nil)))
  ·cases h
 ·cases h
def Aup(x:Ab):List PV:= [.val (.int .i64 x.Op),.val (.string x.Name),.val (.int .i64 x.N),.lst false (.t94 x.Kids)]
def Bmp(r:List PV):Option Ab:=match r with
 | [c0,c1,c2,c3]=>match E9 .i64 c0,Oe c1,E9 .i64 c2,A2g c3 with
  |some a0,some a1,some a2,some a3=>some (Ab.mk a0 a1 a2 a3)
  |_,_,_,_=>none
 |_=>none
theorem Bfz(r:List PV)(x:Ab)(h:Bmp r=some x):B7 r (Aup x):=by
 unfold Bmp at h
 split at h
 ·split at h
  ·rename_i h0 h1 h2 h3
   injection h with h;subst h;exact (.cons (Bp h0) (.cons (C1 h1) (.cons (Bp h2) (.cons (Af0 h3) B7.nil))))
  ·cases h
 ·cases h
def Aqn(x:Ac):List PV:= [.val (.int .i64 x.Op),.val (.string x.Name),.val (.string x.Of),.val (.int .i64 x.E.Op),.val (.string x.E.Name),.val (.int .i64 x.E.N),.lst false (.t94 x.E.Kids),.val (.int .i64 x.F.Op),.val (.string x.F.Name),.val (.int .i64 x.F.N),.lst false (.t94 x.F.Kids),.lst false (.t94 x.Args),.val (.int .i64 x.Dist.Op),.val (.int .i64 x.Dist.A),.val (.int .i64 x.Dist.B),.val (.int .i64 x.Dist.N),.lst false (.t3 x.Dist.Values),.lst false (.t3 x.Dist.Weights),.val (.bool x.Flag),.lst false (.t99 x.Body),.lst false (.t99 x.Else)]
def Bmq(r:List PV):Option Ac:=match r with
 | [c0,c1,c2,c3,c4,c5,c6,c7,c8,c9,c10,c11,c12,c13,c14,c15,c16,c17,c18,c19,c20]=>match E9 .i64 c0,Oe c1,Oe c2,E9 .i64 c3,Oe c4,E9 .i64 c5,A2g c6,E9 .i64 c7,Oe c8,E9 .i64 c9,A2g c10,A2g c11,E9 .i64 c12,E9 .i64 c13,E9 .i64 c14,E9 .i64 c15,dl3 c16,dl3 c17,Th c18,Bdc c19,Bdc c20 with
  |some a0,some a1,some a2,some a3,some a4,some a5,some a6,some a7,some a8,some a9,some a10,some a11,some a12,some a13,some a14,some a15,some a16,some a17,some a18,some a19,some a20=>some (Ac.mk a0 a1 a2 (Ab.mk a3 a4 a5 a6) (Ab.mk a7 a8 a9 a10) a11 (Bj.mk a12 a13 a14 a15 a16 a17) a18 a19 a20)
  |_,_,_,_,_,_,_,_,_,_,_,_,_,_,_,_,_,_,_,_,_=>none
 |_=>none
theorem Bf0(r:List PV)(x:Ac)(h:Bmq r=some x):B7 r (Aqn x):=by
 unfold Bmq at h
 split at h
 ·split at h
  ·rename_i h0 h1 h2 h3 h4 h5 h6 h7 h8 h9 h10 h11 h12 h13 h14 h15 h16 h17 h18 h19 h20
   injection h with h;subst h;exact (.cons (Bp h0) (.cons (C1 h1) (.cons (C1 h2) (.cons (Bp h3) (.cons (C1 h4) (.cons (Bp h5) (.cons (Af0 h6) (.cons (Bp h7) (.cons (C1 h8) (.cons (Bp h9) (.cons (Af0 h10) (.cons (Af0 h11) (.cons (Bp h12) (.cons (Bp h13) (.cons (Bp h14) (.cons (Bp h15) (.cons (Ov h16) (.cons (Ov h17) (.cons (Gn h18) (.cons (Apn h19) (.cons (Apn h20) B7.nil)))))))))))))))))))))
  ·cases h
 ·cases h
def Asx(x:Af):List PV:= [.val (.string x.Name),.val (.int .i64 x.Units),.lst false (.t184 x.Shift),.val (.int .i64 x.Cycle),.val (.string x.Fault.Stream),.val (.int .i64 x.Fault.Up.Op),.val (.int .i64 x.Fault.Up.A),.val (.int .i64 x.Fault.Up.B),.val (.int .i64 x.Fault.Up.N),.lst false (.t3 x.Fault.Up.Values),.lst false (.t3 x.Fault.Up.Weights),.val (.int .i64 x.Fault.Down.Op),.val (.int .i64 x.Fault.Down.A),.val (.int .i64 x.Fault.Down.B),.val (.int .i64 x.Fault.Down.N),.lst false (.t3 x.Fault.Down.Values),.lst false (.t3 x.Fault.Down.Weights)]
def Bc0(r:List PV):Option Af:=match r with
 | [c0,c1,c2,c3,c4,c5,c6,c7,c8,c9,c10,c11,c12,c13,c14,c15,c16]=>match Oe c0,E9 .i64 c1,Bmt c2,E9 .i64 c3,Oe c4,E9 .i64 c5,E9 .i64 c6,E9 .i64 c7,E9 .i64 c8,dl3 c9,dl3 c10,E9 .i64 c11,E9 .i64 c12,E9 .i64 c13,E9 .i64 c14,dl3 c15,dl3 c16 with
  |some a0,some a1,some a2,some a3,some a4,some a5,some a6,some a7,some a8,some a9,some a10,some a11,some a12,some a13,some a14,some a15,some a16=>some (Af.mk a0 a1 a2 a3 (Gu.mk a4 (Bj.mk a5 a6 a7 a8 a9 a10) (Bj.mk a11 a12 a13 a14 a15 a16)))
  |_,_,_,_,_,_,_,_,_,_,_,_,_,_,_,_,_=>none
 |_=>none
theorem Bad(r:List PV)(x:Af)(h:Bc0 r=some x):B7 r (Asx x):=by
 unfold Bc0 at h
 split at h
 ·split at h
  ·rename_i h0 h1 h2 h3 h4 h5 h6 h7 h8 h9 h10 h11 h12 h13 h14 h15 h16
   injection h with h;subst h;exact (.cons (C1 h0) (.cons (Bp h1) (.cons (Bf2 h2) (.cons (Bp h3) (.cons (C1 h4) (.cons (Bp h5) (.cons (Bp h6) (.cons (Bp h7) (.cons (Bp h8) (.cons (Ov h9) (.cons (Ov h10) (.cons (Bp h11) (.cons (Bp h12) (.cons (Bp h13) (.cons (Bp h14) (.cons (Ov h15) (.cons (Ov h16) B7.nil)))))))))))))))))
  ·cases h
 ·cases h
def Asy(x:Aq):List PV:= [.val (.string x.Name),.val (.int .i64 x.Room),.val (.int .i64 x.Policy)]
def Bc1(r:List PV):Option Aq:=match r with
 | [c0,c1,c2]=>match Oe c0,E9 .i64 c1,E9 .i64 c2 with
  |some a0,some a1,some a2=>some (Aq.mk a0 a1 a2)
  |_,_,_=>none
 |_=>none
theorem Bae(r:List PV)(x:Aq)(h:Bc1 r=some x):B7 r (Asy x):=by
 unfold Bc1 at h
 split at h
 ·split at h
  ·rename_i h0 h1 h2
   injection h with h;subst h;exact (.cons (C1 h0) (.cons (Bp h1) (.cons (Bp h2) B7.nil)))
  ·cases h
 ·cases h
def Asz(x:Au):List PV:= [.val (.string x.Name),.val (.int .i64 x.Length),.val (.int .i64 x.Step)]
def Bc2(r:List PV):Option Au:=match r with
 | [c0,c1,c2]=>match Oe c0,E9 .i64 c1,E9 .i64 c2 with
  |some a0,some a1,some a2=>some (Au.mk a0 a1 a2)
  |_,_,_=>none
 |_=>none
theorem Baf(r:List PV)(x:Au)(h:Bc2 r=some x):B7 r (Asz x):=by
 unfold Bc2 at h
 split at h
 ·split at h
  ·rename_i h0 h1 h2
   injection h with h;subst h;exact (.cons (C1 h0) (.cons (Bp h1) (.cons (Bp h2) B7.nil)))
  ·cases h
 ·cases h
def As0(x:Bm):List PV:= [.val (.string x.Routine),.lst false (.t3 x.Args),.val (.int .i64 x.At),.val (.int .i64 x.Every),.val (.int .i64 x.Until)]
def Bc3(r:List PV):Option Bm:=match r with
 | [c0,c1,c2,c3,c4]=>match Oe c0,dl3 c1,E9 .i64 c2,E9 .i64 c3,E9 .i64 c4 with
  |some a0,some a1,some a2,some a3,some a4=>some (Bm.mk a0 a1 a2 a3 a4)
  |_,_,_,_,_=>none
 |_=>none
theorem Bag(r:List PV)(x:Bm)(h:Bc3 r=some x):B7 r (As0 x):=by
 unfold Bc3 at h
 split at h
 ·split at h
  ·rename_i h0 h1 h2 h3 h4
   injection h with h;subst h;exact (.cons (C1 h0) (.cons (Ov h1) (.cons (Bp h2) (.cons (Bp h3) (.cons (Bp h4) B7.nil)))))
  ·cases h
 ·cases h
def As1(x:Bl):List PV:= [.val (.string x.From),.val (.string x.To),.val (.int .i64 x.Delay)]
def Bc4(r:List PV):Option Bl:=match r with
 | [c0,c1,c2]=>match Oe c0,Oe c1,E9 .i64 c2 with
  |some a0,some a1,some a2=>some (Bl.mk a0 a1 a2)
  |_,_,_=>none
 |_=>none
theorem Bah(r:List PV)(x:Bl)(h:Bc4 r=some x):B7 r (As1 x):=by
 unfold Bc4 at h
 split at h
 ·split at h
  ·rename_i h0 h1 h2
   injection h with h;subst h;exact (.cons (C1 h0) (.cons (C1 h1) (.cons (Bp h2) B7.nil)))
  ·cases h
 ·cases h
def A7v(x:Bt):List PV:= [.val (.string x.a0),.val (.string x.a1)]
def Bc5(r:List PV):Option Bt:=match r with
 | [c0,c1]=>match Oe c0,Oe c1 with
  |some a0,some a1=>some (Bt.mk a0 a1)
  |_,_=>none
 |_=>none
theorem Bai(r:List PV)(x:Bt)(h:Bc5 r=some x):B7 r (A7v x):=by
 unfold Bc5 at h
 split at h
 ·split at h
  ·rename_i h0 h1
   injection h with h;subst h;exact (.cons (C1 h0) (.cons (C1 h1) B7.nil))
  ·cases h
 ·cases h
def As2(x:Ba):List PV:= [.val (.string x.Name),.lst false (.t195 x.Terms),.val (.int .i64 x.Total)]
def Bc6(r:List PV):Option Ba:=match r with
 | [c0,c1,c2]=>match Oe c0,Bmu c1,E9 .i64 c2 with
  |some a0,some a1,some a2=>some (Ba.mk a0 a1 a2)
  |_,_,_=>none
 |_=>none
theorem Baj(r:List PV)(x:Ba)(h:Bc6 r=some x):B7 r (As2 x):=by
 unfold Bc6 at h
 split at h
 ·split at h
  ·rename_i h0 h1 h2
   injection h with h;subst h;exact (.cons (C1 h0) (.cons (Bf3 h1) (.cons (Bp h2) B7.nil)))
  ·cases h
 ·cases h
def As3(x:Cx):List PV:= [.val (.int .i64 x.At),.val (.int .i64 x.Units)]
def Bc7(r:List PV):Option Cx:=match r with
 | [c0,c1]=>match E9 .i64 c0,E9 .i64 c1 with
  |some a0,some a1=>some (Cx.mk a0 a1)
  |_,_=>none
 |_=>none
theorem Bak(r:List PV)(x:Cx)(h:Bc7 r=some x):B7 r (As3 x):=by
 unfold Bc7 at h
 split at h
 ·split at h
  ·rename_i h0 h1
   injection h with h;subst h;exact (.cons (Bp h0) (.cons (Bp h1) B7.nil))
  ·cases h
 ·cases h
def As4(x:Ap):List PV:= [.val (.string x.Name),.val (.int .i64 x.Type_)]
def Bc8(r:List PV):Option Ap:=match r with
 | [c0,c1]=>match Oe c0,E9 .i64 c1 with
  |some a0,some a1=>some (Ap.mk a0 a1)
  |_,_=>none
 |_=>none
theorem Bal(r:List PV)(x:Ap)(h:Bc8 r=some x):B7 r (As4 x):=by
 unfold Bc8 at h
 split at h
 ·split at h
  ·rename_i h0 h1
   injection h with h;subst h;exact (.cons (C1 h0) (.cons (Bp h1) B7.nil))
  ·cases h
 ·cases h
def As5(x:Av):List PV:= [.val (.int .i64 x.Coef),.val (.string x.What),.val (.string x.Name)]
def Bc9(r:List PV):Option Av:=match r with
 | [c0,c1,c2]=>match E9 .i64 c0,Oe c1,Oe c2 with
  |some a0,some a1,some a2=>some (Av.mk a0 a1 a2)
  |_,_,_=>none
 |_=>none
theorem Bam(r:List PV)(x:Av)(h:Bc9 r=some x):B7 r (As5 x):=by
 unfold Bc9 at h
 split at h
 ·split at h
  ·rename_i h0 h1 h2
   injection h with h;subst h;exact (.cons (Bp h0) (.cons (C1 h1) (.cons (C1 h2) B7.nil)))
  ·cases h
 ·cases h
def A7w(x:Gi):List PV:= [.val (.bool x.u_is),.val (.string x.u_name)]
def Bda(r:List PV):Option Gi:=match r with
 | [c0,c1]=>match Th c0,Oe c1 with
  |some a0,some a1=>some (Gi.mk a0 a1)
  |_,_=>none
 |_=>none
theorem Ban(r:List PV)(x:Gi)(h:Bda r=some x):B7 r (A7w x):=by
 unfold Bda at h
 split at h
 ·split at h
  ·rename_i h0 h1
   injection h with h;subst h;exact (.cons (Gn h0) (.cons (C1 h1) B7.nil))
  ·cases h
 ·cases h
def A7x(x:Nz):List PV:= [.val (.bool x.u_is),.val (.int .i64 x.u_e.Op),.val (.string x.u_e.Name),.val (.int .i64 x.u_e.N),.lst false (.t94 x.u_e.Kids)]
def Bdb(r:List PV):Option Nz:=match r with
 | [c0,c1,c2,c3,c4]=>match Th c0,E9 .i64 c1,Oe c2,E9 .i64 c3,A2g c4 with
  |some a0,some a1,some a2,some a3,some a4=>some (Nz.mk a0 (Ab.mk a1 a2 a3 a4))
  |_,_,_,_,_=>none
 |_=>none
theorem Bao(r:List PV)(x:Nz)(h:Bdb r=some x):B7 r (A7x x):=by
 unfold Bdb at h
 split at h
 ·split at h
  ·rename_i h0 h1 h2 h3 h4
   injection h with h;subst h;exact (.cons (Gn h0) (.cons (Bp h1) (.cons (C1 h2) (.cons (Bp h3) (.cons (Af0 h4) B7.nil)))))
  ·cases h
 ·cases h
def LX.row(x:LX)(i:Nat):List PV:=match x with
 | .t3 l=>Bik (l.getD i default)
 | .t4 l=>Btu (l.getD i default)
 | .t9 l=>Bim (l.getD i default)
 | .t35 l=>Bbh (l.getD i default)
 | .t46 l=>A1y (l.getD i default)
 | .t50 l=>Bbi (l.getD i default)
 | .t55 l=>A1z (l.getD i default)
 | .t57 l=>Bbj (l.getD i default)
 | .t60 l=>A10 (l.getD i default)
 | .t70 l=>Bil (l.getD i default)
 | .t75 l=>Bbk (l.getD i default)
 | .t77 l=>A11 (l.getD i default)
 | .t94 l=>Aup (l.getD i default)
 | .t99 l=>Aqn (l.getD i default)
 | .t145 l=>Asx (l.getD i default)
 | .t151 l=>Asy (l.getD i default)
 | .t155 l=>Asz (l.getD i default)
 | .t161 l=>As0 (l.getD i default)
 | .t167 l=>As1 (l.getD i default)
 | .t168 l=>A7v (l.getD i default)
 | .t180 l=>As2 (l.getD i default)
 | .t184 l=>As3 (l.getD i default)
 | .t190 l=>As4 (l.getD i default)
 | .t195 l=>As5 (l.getD i default)
 | .t229 l=>A7w (l.getD i default)
 | .t231 l=>A7x (l.getD i default)
def LX.lit(e:Nat)(rs:List (List PV)):Option LX:=match Nat.beq e 3 with
 |true=>Lf .t3 (m0 B0o rs)
 |false=>match Nat.beq e 4 with
 |true=>Lf .t4 (m0 B0p rs)
 |false=>match Nat.beq e 9 with
 |true=>Lf .t9 (m0 B0q rs)
 |false=>match Nat.beq e 35 with
 |true=>Lf .t35 (m0 Bme rs)
 |false=>match Nat.beq e 46 with
 |true=>Lf .t46 (m0 Bmg rs)
 |false=>match Nat.beq e 50 with
 |true=>Lf .t50 (m0 Bmi rs)
 |false=>match Nat.beq e 55 with
 |true=>Lf .t55 (m0 Bmj rs)
 |false=>match Nat.beq e 57 with
 |true=>Lf .t57 (m0 Bmk rs)
 |false=>match Nat.beq e 60 with
 |true=>Lf .t60 (m0 Bml rs)
 |false=>match Nat.beq e 70 with
 |true=>Lf .t70 (m0 Bmm rs)
 |false=>match Nat.beq e 75 with
 |true=>Lf .t75 (m0 Bmn rs)
 |false=>match Nat.beq e 77 with
 |true=>Lf .t77 (m0 Bmo rs)
 |false=>match Nat.beq e 94 with
 |true=>Lf .t94 (m0 Bmp rs)
 |false=>match Nat.beq e 99 with
 |true=>Lf .t99 (m0 Bmq rs)
 |false=>match Nat.beq e 145 with
 |true=>Lf .t145 (m0 Bc0 rs)
 |false=>match Nat.beq e 151 with
 |true=>Lf .t151 (m0 Bc1 rs)
 |false=>match Nat.beq e 155 with
 |true=>Lf .t155 (m0 Bc2 rs)
 |false=>match Nat.beq e 161 with
 |true=>Lf .t161 (m0 Bc3 rs)
 |false=>match Nat.beq e 167 with
 |true=>Lf .t167 (m0 Bc4 rs)
 |false=>match Nat.beq e 168 with
 |true=>Lf .t168 (m0 Bc5 rs)
 |false=>match Nat.beq e 180 with
 |true=>Lf .t180 (m0 Bc6 rs)
 |false=>match Nat.beq e 184 with
 |true=>Lf .t184 (m0 Bc7 rs)
 |false=>match Nat.beq e 190 with
 |true=>Lf .t190 (m0 Bc8 rs)
 |false=>match Nat.beq e 195 with
 |true=>Lf .t195 (m0 Bc9 rs)
 |false=>match Nat.beq e 229 with
 |true=>Lf .t229 (m0 Bda rs)
 |false=>match Nat.beq e 231 with
 |true=>Lf .t231 (m0 Bdb rs)
 |false=>none
def LX.set(x:LX)(i off:Nat)(c:List PV):Option LX:=match x with
 | .t3 l=>Adw (It (Bik (l.getD i default)) (off+c.length)) (fun a=> .t3 (l.set i a)) (B0o (Hc (Bik (l.getD i default)) off c))
 | .t4 l=>Adw (It (Btu (l.getD i default)) (off+c.length)) (fun a=> .t4 (l.set i a)) (B0p (Hc (Btu (l.getD i default)) off c))
 | .t9 l=>Adw (It (Bim (l.getD i default)) (off+c.length)) (fun a=> .t9 (l.set i a)) (B0q (Hc (Bim (l.getD i default)) off c))
 | .t35 l=>Adw (It (Bbh (l.getD i default)) (off+c.length)) (fun a=> .t35 (l.set i a)) (Bme (Hc (Bbh (l.getD i default)) off c))
 | .t46 l=>Adw (It (A1y (l.getD i default)) (off+c.length)) (fun a=> .t46 (l.set i a)) (Bmg (Hc (A1y (l.getD i default)) off c))
 | .t50 l=>Adw (It (Bbi (l.getD i default)) (off+c.length)) (fun a=> .t50 (l.set i a)) (Bmi (Hc (Bbi (l.getD i default)) off c))
 | .t55 l=>Adw (It (A1z (l.getD i default)) (off+c.length)) (fun a=> .t55 (l.set i a)) (Bmj (Hc (A1z (l.getD i default)) off c))
 | .t57 l=>Adw (It (Bbj (l.getD i default)) (off+c.length)) (fun a=> .t57 (l.set i a)) (Bmk (Hc (Bbj (l.getD i default)) off c))
 | .t60 l=>Adw (It (A10 (l.getD i default)) (off+c.length)) (fun a=> .t60 (l.set i a)) (Bml (Hc (A10 (l.getD i default)) off c))
 | .t70 l=>Adw (It (Bil (l.getD i default)) (off+c.length)) (fun a=> .t70 (l.set i a)) (Bmm (Hc (Bil (l.getD i default)) off c))
 | .t75 l=>Adw (It (Bbk (l.getD i default)) (off+c.length)) (fun a=> .t75 (l.set i a)) (Bmn (Hc (Bbk (l.getD i default)) off c))
 | .t77 l=>Adw (It (A11 (l.getD i default)) (off+c.length)) (fun a=> .t77 (l.set i a)) (Bmo (Hc (A11 (l.getD i default)) off c))
 | .t94 l=>Adw (It (Aup (l.getD i default)) (off+c.length)) (fun a=> .t94 (l.set i a)) (Bmp (Hc (Aup (l.getD i default)) off c))
 | .t99 l=>Adw (It (Aqn (l.getD i default)) (off+c.length)) (fun a=> .t99 (l.set i a)) (Bmq (Hc (Aqn (l.getD i default)) off c))
 | .t145 l=>Adw (It (Asx (l.getD i default)) (off+c.length)) (fun a=> .t145 (l.set i a)) (Bc0 (Hc (Asx (l.getD i default)) off c))
 | .t151 l=>Adw (It (Asy (l.getD i default)) (off+c.length)) (fun a=> .t151 (l.set i a)) (Bc1 (Hc (Asy (l.getD i default)) off c))
 | .t155 l=>Adw (It (Asz (l.getD i default)) (off+c.length)) (fun a=> .t155 (l.set i a)) (Bc2 (Hc (Asz (l.getD i default)) off c))
 | .t161 l=>Adw (It (As0 (l.getD i default)) (off+c.length)) (fun a=> .t161 (l.set i a)) (Bc3 (Hc (As0 (l.getD i default)) off c))
 | .t167 l=>Adw (It (As1 (l.getD i default)) (off+c.length)) (fun a=> .t167 (l.set i a)) (Bc4 (Hc (As1 (l.getD i default)) off c))
 | .t168 l=>Adw (It (A7v (l.getD i default)) (off+c.length)) (fun a=> .t168 (l.set i a)) (Bc5 (Hc (A7v (l.getD i default)) off c))
 | .t180 l=>Adw (It (As2 (l.getD i default)) (off+c.length)) (fun a=> .t180 (l.set i a)) (Bc6 (Hc (As2 (l.getD i default)) off c))
 | .t184 l=>Adw (It (As3 (l.getD i default)) (off+c.length)) (fun a=> .t184 (l.set i a)) (Bc7 (Hc (As3 (l.getD i default)) off c))
 | .t190 l=>Adw (It (As4 (l.getD i default)) (off+c.length)) (fun a=> .t190 (l.set i a)) (Bc8 (Hc (As4 (l.getD i default)) off c))
 | .t195 l=>Adw (It (As5 (l.getD i default)) (off+c.length)) (fun a=> .t195 (l.set i a)) (Bc9 (Hc (As5 (l.getD i default)) off c))
 | .t229 l=>Adw (It (A7w (l.getD i default)) (off+c.length)) (fun a=> .t229 (l.set i a)) (Bda (Hc (A7w (l.getD i default)) off c))
 | .t231 l=>Adw (It (A7x (l.getD i default)) (off+c.length)) (fun a=> .t231 (l.set i a)) (Bdb (Hc (A7x (l.getD i default)) off c))
def LX.find(x:LX)(c:List PV):Option (Option Nat):=match x,c with
 | .t3 l,[.val (.int k0 a0)]=>match decide (k0= .i64) with
  |true=>some (l.findIdx? fun b=>a0 == b)
  |_=>none
 | .t4 l,[.val (.bool a0)]=>some (l.findIdx? fun b=>a0 == b)
 | .t9 l,[.val (.string a0)]=>some (l.findIdx? fun b=>a0 == b)
 | .t75 l,[.val (.int k0 a0)]=>match decide (k0= .i64) with
  |true=>some (l.findIdx? fun b=>a0 == b)
  |_=>none
 | .t168 l,[.val (.string a0),.val (.string a1)]=>some (l.findIdx? fun b=>(a0 == b.a0 && (a1 == b.a1)))
 |_,_=>none
def LX.push(x:LX)(c:List PV):Option LX:=match LX.lit x.e [c] with
 |some y=>x.cat y
 |none=>none
theorem LX.row_len(x:LX)(i:Nat):(x.row i).length=x.sz:=by cases x<;>rfl
theorem LX.row_flat(x:LX)(i:Nat):∀p∈x.row i,p.flat=true:=Ba1 _ (by cases x<;>rfl)
theorem LX.nil_spec(e:Nat)(x:LX)(h:LX.nil e=some x):x.e=e∧x.len=0:=by
 unfold LX.nil at h
 cases b3:Nat.beq e 3
 case true=>simp only [b3] at h;injection h with h;subst h;exact ⟨(Nat.eq_of_beq_eq_true b3).symm,rfl⟩
 simp only [b3] at h
 cases b4:Nat.beq e 4
 case true=>simp only [b4] at h;injection h with h;subst h;exact ⟨(Nat.eq_of_beq_eq_true b4).symm,rfl⟩
 simp only [b4] at h
 cases b9:Nat.beq e 9
 case true=>simp only [b9] at h;injection h with h;subst h;exact ⟨(Nat.eq_of_beq_eq_true b9).symm,rfl⟩
 simp only [b9] at h
 cases b35:Nat.beq e 35
 case true=>simp only [b35] at h;injection h with h;subst h;exact ⟨(Nat.eq_of_beq_eq_true b35).symm,rfl⟩
 simp only [b35] at h
 cases b46:Nat.beq e 46
 case true=>simp only [b46] at h;injection h with h;subst h;exact ⟨(Nat.eq_of_beq_eq_true b46).symm,rfl⟩
 simp only [b46] at h
 cases b50:Nat.beq e 50
 case true=>simp only [b50] at h;injection h with h;subst h;exact ⟨(Nat.eq_of_beq_eq_true b50).symm,rfl⟩
 simp only [b50] at h
 cases b55:Nat.beq e 55
 case true=>simp only [b55] at h;injection h with h;subst h;exact ⟨(Nat.eq_of_beq_eq_true b55).symm,rfl⟩
 simp only [b55] at h
 cases b57:Nat.beq e 57
 case true=>simp only [b57] at h;injection h with h;subst h;exact ⟨(Nat.eq_of_beq_eq_true b57).symm,rfl⟩
 simp only [b57] at h
 cases b60:Nat.beq e 60
 case true=>simp only [b60] at h;injection h with h;subst h;exact ⟨(Nat.eq_of_beq_eq_true b60).symm,rfl⟩
 simp only [b60] at h
 cases b70:Nat.beq e 70
 case true=>simp only [b70] at h;injection h with h;subst h;exact ⟨(Nat.eq_of_beq_eq_true b70).symm,rfl⟩
 simp only [b70] at h
 cases b75:Nat.beq e 75
 case true=>simp only [b75] at h;injection h with h;subst h;exact ⟨(Nat.eq_of_beq_eq_true b75).symm,rfl⟩
 simp only [b75] at h
 cases b77:Nat.beq e 77
 case true=>simp only [b77] at h;injection h with h;subst h;exact ⟨(Nat.eq_of_beq_eq_true b77).symm,rfl⟩
 simp only [b77] at h
 cases b94:Nat.beq e 94
 case true=>simp only [b94] at h;injection h with h;subst h;exact ⟨(Nat.eq_of_beq_eq_true b94).symm,rfl⟩
 simp only [b94] at h
 cases b99:Nat.beq e 99
 case true=>simp only [b99] at h;injection h with h;subst h;exact ⟨(Nat.eq_of_beq_eq_true b99).symm,rfl⟩
 simp only [b99] at h
 cases b145:Nat.beq e 145
 case true=>simp only [b145] at h;injection h with h;subst h;exact ⟨(Nat.eq_of_beq_eq_true b145).symm,rfl⟩
 simp only [b145] at h
 cases b151:Nat.beq e 151
 case true=>simp only [b151] at h;injection h with h;subst h;exact ⟨(Nat.eq_of_beq_eq_true b151).symm,rfl⟩
 simp only [b151] at h
 cases b155:Nat.beq e 155
 case true=>simp only [b155] at h;injection h with h;subst h;exact ⟨(Nat.eq_of_beq_eq_true b155).symm,rfl⟩
 simp only [b155] at h
 cases b161:Nat.beq e 161
 case true=>simp only [b161] at h;injection h with h;subst h;exact ⟨(Nat.eq_of_beq_eq_true b161).symm,rfl⟩
 simp only [b161] at h
 cases b167:Nat.beq e 167
 case true=>simp only [b167] at h;injection h with h;subst h;exact ⟨(Nat.eq_of_beq_eq_true b167).symm,rfl⟩
 simp only [b167] at h
 cases b168:Nat.beq e 168
 case true=>simp only [b168] at h;injection h with h;subst h;exact ⟨(Nat.eq_of_beq_eq_true b168).symm,rfl⟩
 simp only [b168] at h
 cases b180:Nat.beq e 180
 case true=>simp only [b180] at h;injection h with h;subst h;exact ⟨(Nat.eq_of_beq_eq_true b180).symm,rfl⟩
 simp only [b180] at h
 cases b184:Nat.beq e 184
 case true=>simp only [b184] at h;injection h with h;subst h;exact ⟨(Nat.eq_of_beq_eq_true b184).symm,rfl⟩
 simp only [b184] at h
 cases b190:Nat.beq e 190
 case true=>simp only [b190] at h;injection h with h;subst h;exact ⟨(Nat.eq_of_beq_eq_true b190).symm,rfl⟩
 simp only [b190] at h
 cases b195:Nat.beq e 195
 case true=>simp only [b195] at h;injection h with h;subst h;exact ⟨(Nat.eq_of_beq_eq_true b195).symm,rfl⟩
 simp only [b195] at h
 cases b229:Nat.beq e 229
 case true=>simp only [b229] at h;injection h with h;subst h;exact ⟨(Nat.eq_of_beq_eq_true b229).symm,rfl⟩
 simp only [b229] at h
 cases b231:Nat.beq e 231
 case true=>simp only [b231] at h;injection h with h;subst h;exact ⟨(Nat.eq_of_beq_eq_true b231).symm,rfl⟩
 simp only [b231] at h
 cases h
theorem Bj2{α :Type} [Inhabited α](l m:List α)(i:Nat)(h:i < l.length):(l++m).getD i default=l.getD i default:=by
 simp [List.getD,List.getElem?_append_left h]
theorem Bj3{α :Type} [Inhabited α](l m:List α)(i:Nat):(l++m).getD (l.length+i) default=m.getD i default:=by
 simp [List.getD,List.getElem?_append_right]
theorem Bvs{α :Type} [Inhabited α](l:List α)(a b i:Nat)(h1:b≤l.length)(h2:i < b - a):((l.take b).drop a).getD i default=l.getD (a+i) default:=by
 simp only [List.getD_eq_getElem?_getD,List.getElem?_drop,List.getElem?_take]
 rw [if_pos (by omega)]
theorem Bvq{α :Type} [Inhabited α](n i:Nat)(a: α)(h:i < n):(List.replicate n a).getD i default=a:=by
 simp [List.getD_eq_getElem?_getD,List.getElem?_replicate,h]
theorem Bgj{α :Type} [Inhabited α](l:List α)(i:Nat)(a: α)(h:i < l.length):(l.set i a).getD i default=a:=by
 simp [List.getD_eq_getElem?_getD,h]
theorem Bgk{α :Type} [Inhabited α](l:List α)(i j:Nat)(a: α)(h:j≠i):(l.set i a).getD j default=l.getD j default:=by
 simp [List.getD_eq_getElem?_getD,List.getElem?_set_ne (fun e=>h e.symm)]
theorem Gs{α :Type} [Inhabited α](l:List α)(i:Nat)(h:i < l.length):l.getD i default=l[i]:=by
 simp [List.getD_eq_getElem?_getD,h]
theorem LX.g3_eq(y:LX)(m:List Int)(h:y.g3=some m):y= .t3 m:=by cases y<;>simp only [LX.g3] at h<;>first|(injection h with h;subst h;rfl)|cases h
theorem LX.g4_eq(y:LX)(m:List Bool)(h:y.g4=some m):y= .t4 m:=by cases y<;>simp only [LX.g4] at h<;>first|(injection h with h;subst h;rfl)|cases h
theorem LX.g9_eq(y:LX)(m:List ByteArray)(h:y.g9=some m):y= .t9 m:=by cases y<;>simp only [LX.g9] at h<;>first|(injection h with h;subst h;rfl)|cases h
theorem LX.g35_eq(y:LX)(m:List (List Int))(h:y.g35=some m):y= .t35 m:=by cases y<;>simp only [LX.g35] at h<;>first|(injection h with h;subst h;rfl)|cases h
theorem LX.g46_eq(y:LX)(m:List Ah)(h:y.g46=some m):y= .t46 m:=by cases y<;>simp only [LX.g46] at h<;>first|(injection h with h;subst h;rfl)|cases h
theorem LX.g50_eq(y:LX)(m:List (List ByteArray))(h:y.g50=some m):y= .t50 m:=by cases y<;>simp only [LX.g50] at h<;>first|(injection h with h;subst h;rfl)|cases h
theorem LX.g55_eq(y:LX)(m:List Aa)(h:y.g55=some m):y= .t55 m:=by cases y<;>simp only [LX.g55] at h<;>first|(injection h with h;subst h;rfl)|cases h
theorem LX.g57_eq(y:LX)(m:List (List Ap))(h:y.g57=some m):y= .t57 m:=by cases y<;>simp only [LX.g57] at h<;>first|(injection h with h;subst h;rfl)|cases h
theorem LX.g60_eq(y:LX)(m:List Ak)(h:y.g60=some m):y= .t60 m:=by cases y<;>simp only [LX.g60] at h<;>first|(injection h with h;subst h;rfl)|cases h
theorem LX.g70_eq(y:LX)(m:List W3)(h:y.g70=some m):y= .t70 m:=by cases y<;>simp only [LX.g70] at h<;>first|(injection h with h;subst h;rfl)|cases h
theorem LX.g75_eq(y:LX)(m:List Int)(h:y.g75=some m):y= .t75 m:=by cases y<;>simp only [LX.g75] at h<;>first|(injection h with h;subst h;rfl)|cases h
theorem LX.g77_eq(y:LX)(m:List Al)(h:y.g77=some m):y= .t77 m:=by cases y<;>simp only [LX.g77] at h<;>first|(injection h with h;subst h;rfl)|cases h
theorem LX.g94_eq(y:LX)(m:List Ab)(h:y.g94=some m):y= .t94 m:=by cases y<;>simp only [LX.g94] at h<;>first|(injection h with h;subst h;rfl)|cases h
theorem LX.g99_eq(y:LX)(m:List Ac)(h:y.g99=some m):y= .t99 m:=by cases y<;>simp only [LX.g99] at h<;>first|(injection h with h;subst h;rfl)|cases h
theorem LX.g145_eq(y:LX)(m:List Af)(h:y.g145=some m):y= .t145 m:=by cases y<;>simp only [LX.g145] at h<;>first|(injection h with h;subst h;rfl)|cases h
theorem LX.g151_eq(y:LX)(m:List Aq)(h:y.g151=some m):y= .t151 m:=by cases y<;>simp only [LX.g151] at h<;>first|(injection h with h;subst h;rfl)|cases h
theorem LX.g155_eq(y:LX)(m:List Au)(h:y.g155=some m):y= .t155 m:=by cases y<;>simp only [LX.g155] at h<;>first|(injection h with h;subst h;rfl)|cases h
theorem LX.g161_eq(y:LX)(m:List Bm)(h:y.g161=some m):y= .t161 m:=by cases y<;>simp only [LX.g161] at h<;>first|(injection h with h;subst h;rfl)|cases h
theorem LX.g167_eq(y:LX)(m:List Bl)(h:y.g167=some m):y= .t167 m:=by cases y<;>simp only [LX.g167] at h<;>first|(injection h with h;subst h;rfl)|cases h
theorem LX.g168_eq(y:LX)(m:List Bt)(h:y.g168=some m):y= .t168 m:=by cases y<;>simp only [LX.g168] at h<;>first|(injection h with h;subst h;rfl)|cases h
theorem LX.g180_eq(y:LX)(m:List Ba)(h:y.g180=some m):y= .t180 m:=by cases y<;>simp only [LX.g180] at h<;>first|(injection h with h;subst h;rfl)|cases h
theorem LX.g184_eq(y:LX)(m:List Cx)(h:y.g184=some m):y= .t184 m:=by cases y<;>simp only [LX.g184] at h<;>first|(injection h with h;subst h;rfl)|cases h
theorem LX.g190_eq(y:LX)(m:List Ap)(h:y.g190=some m):y= .t190 m:=by cases y<;>simp only [LX.g190] at h<;>first|(injection h with h;subst h;rfl)|cases h
theorem LX.g195_eq(y:LX)(m:List Av)(h:y.g195=some m):y= .t195 m:=by cases y<;>simp only [LX.g195] at h<;>first|(injection h with h;subst h;rfl)|cases h
theorem LX.g229_eq(y:LX)(m:List Gi)(h:y.g229=some m):y= .t229 m:=by cases y<;>simp only [LX.g229] at h<;>first|(injection h with h;subst h;rfl)|cases h
theorem LX.g231_eq(y:LX)(m:List Nz)(h:y.g231=some m):y= .t231 m:=by cases y<;>simp only [LX.g231] at h<;>first|(injection h with h;subst h;rfl)|cases h
structure KOK {α :Type} [Inhabited α] (K:List α→LX) (row: α→List PV) (e sz:Nat):Prop where
 e:∀l,(K l).e=e
 sz:∀l,(K l).sz=sz
 len:∀l,(K l).len=l.length
 row:∀l i,(K l).row i=row (l.getD i default)
section
variable {α :Type} [Inhabited α] {K:List α→LX} {row: α→List PV} {e0 sz:Nat}
theorem Ag8(k:KOK K row e0 sz){d:List PV→Option α}(hd:∀r a,d r=some a→B7 r (row a)){e:Nat}(hb:Nat.beq e e0=true){rs:List (List PV)}{x:LX}(h:Lf K (m0 d rs)=some x):x.e=e∧x.len=rs.length∧∀(i:Nat) (r:List PV),rs[i]? =some r→B7 r (x.row i):=by
 unfold Lf at h
 cases hl:m0 d rs with
 |none=>rw [hl] at h;cases h
 |some l=>
  rw [hl] at h
  injection h with h;subst h
  obtain ⟨q1,q2⟩:=Bap hd rs l hl
  exact ⟨by rw [k.e];exact (Nat.eq_of_beq_eq_true hb).symm,by rw [k.len];exact q1,fun i r hr=>by rw [k.row];exact q2 i r hr⟩
theorem Ag3(k:KOK K row e0 sz){y z:LX}{l:List α}{g:Option (List α)}(hg:∀m,g=some m→y=K m)(h:Lf (fun m=>K (l++m)) g=some z):y.e=(K l).e∧z.e=(K l).e∧y.sz=(K l).sz∧z.sz=(K l).sz∧z.len=(K l).len+y.len∧(∀i,i < (K l).len→z.row i=(K l).row i)∧(∀i,z.row ((K l).len+i)=y.row i):=by
 cases g with
 |none=>cases h
 |some m=>
  injection h with h;subst h
  rw [hg m rfl]
  simp only [k.e,k.sz,k.len,k.row,List.length_append,true_and]
  exact ⟨fun i hi=>by rw [Bj2 l m i hi],fun i=>by rw [Bj3]⟩
theorem Ahk(k:KOK K row e0 sz)(l:List α)(a b:Nat)(h:b≤(K l).len):(K ((l.take b).drop a)).e=(K l).e∧(K ((l.take b).drop a)).sz=(K l).sz∧(K ((l.take b).drop a)).len=b - a∧∀i,i < b - a→(K ((l.take b).drop a)).row i=(K l).row (a+i):=by
 simp only [k.e,k.sz,k.len,k.row,true_and] at h ⊢
 exact ⟨by simp;omega,fun i hi=>by rw [Bvs l a b i h hi]⟩
theorem Ahf(k:KOK K row e0 sz)(l:List α)(n:Nat):(K (List.replicate n (l.getD 0 default))).e=(K l).e∧(K (List.replicate n (l.getD 0 default))).sz=(K l).sz∧(K (List.replicate n (l.getD 0 default))).len=n∧∀i,i < n→(K (List.replicate n (l.getD 0 default))).row i=(K l).row 0:=by
 simp only [k.e,k.sz,k.len,k.row,true_and]
 exact ⟨List.length_replicate,fun i hi=>by rw [Bvq n i _ hi]⟩
end
theorem k3:KOK .t3 Bik 3 1:=⟨fun _=>rfl,fun _=>rfl,fun _=>rfl,fun _ _=>rfl⟩
theorem k4:KOK .t4 Btu 4 1:=⟨fun _=>rfl,fun _=>rfl,fun _=>rfl,fun _ _=>rfl⟩
theorem k9:KOK .t9 Bim 9 1:=⟨fun _=>rfl,fun _=>rfl,fun _=>rfl,fun _ _=>rfl⟩
theorem k35:KOK .t35 Bbh 35 1:=⟨fun _=>rfl,fun _=>rfl,fun _=>rfl,fun _ _=>rfl⟩
theorem k46:KOK .t46 A1y 46 2:=⟨fun _=>rfl,fun _=>rfl,fun _=>rfl,fun _ _=>rfl⟩
theorem k50:KOK .t50 Bbi 50 1:=⟨fun _=>rfl,fun _=>rfl,fun _=>rfl,fun _ _=>rfl⟩
theorem k55:KOK .t55 A1z 55 13:=⟨fun _=>rfl,fun _=>rfl,fun _=>rfl,fun _ _=>rfl⟩
theorem k57:KOK .t57 Bbj 57 1:=⟨fun _=>rfl,fun _=>rfl,fun _=>rfl,fun _ _=>rfl⟩
theorem k60:KOK .t60 A10 60 4:=⟨fun _=>rfl,fun _=>rfl,fun _=>rfl,fun _ _=>rfl⟩
theorem k70:KOK .t70 Bil 70 2:=⟨fun _=>rfl,fun _=>rfl,fun _=>rfl,fun _ _=>rfl⟩
theorem k75:KOK .t75 Bbk 75 1:=⟨fun _=>rfl,fun _=>rfl,fun _=>rfl,fun _ _=>rfl⟩
theorem k77:KOK .t77 A11 77 3:=⟨fun _=>rfl,fun _=>rfl,fun _=>rfl,fun _ _=>rfl⟩
theorem k94:KOK .t94 Aup 94 4:=⟨fun _=>rfl,fun _=>rfl,fun _=>rfl,fun _ _=>rfl⟩
theorem k99:KOK .t99 Aqn 99 21:=⟨fun _=>rfl,fun _=>rfl,fun _=>rfl,fun _ _=>rfl⟩
theorem Bwd:KOK .t145 Asx 145 17:=⟨fun _=>rfl,fun _=>rfl,fun _=>rfl,fun _ _=>rfl⟩
theorem Bwe:KOK .t151 Asy 151 3:=⟨fun _=>rfl,fun _=>rfl,fun _=>rfl,fun _ _=>rfl⟩
theorem Bwf:KOK .t155 Asz 155 3:=⟨fun _=>rfl,fun _=>rfl,fun _=>rfl,fun _ _=>rfl⟩
theorem Bwg:KOK .t161 As0 161 5:=⟨fun _=>rfl,fun _=>rfl,fun _=>rfl,fun _ _=>rfl⟩
theorem Bwh:KOK .t167 As1 167 3:=⟨fun _=>rfl,fun _=>rfl,fun _=>rfl,fun _ _=>rfl⟩
theorem Bwi:KOK .t168 A7v 168 2:=⟨fun _=>rfl,fun _=>rfl,fun _=>rfl,fun _ _=>rfl⟩
theorem Bwj:KOK .t180 As2 180 3:=⟨fun _=>rfl,fun _=>rfl,fun _=>rfl,fun _ _=>rfl⟩
theorem Bwk:KOK .t184 As3 184 2:=⟨fun _=>rfl,fun _=>rfl,fun _=>rfl,fun _ _=>rfl⟩
theorem Bwl:KOK .t190 As4 190 2:=⟨fun _=>rfl,fun _=>rfl,fun _=>rfl,fun _ _=>rfl⟩
theorem Bwm:KOK .t195 As5 195 3:=⟨fun _=>rfl,fun _=>rfl,fun _=>rfl,fun _ _=>rfl⟩
theorem Bwn:KOK .t229 A7w 229 2:=⟨fun _=>rfl,fun _=>rfl,fun _=>rfl,fun _ _=>rfl⟩
theorem Bwo:KOK .t231 A7x 231 5:=⟨fun _=>rfl,fun _=>rfl,fun _=>rfl,fun _ _=>rfl⟩
theorem LX.lit_spec(e:Nat)(rs:List (List PV))(x:LX)(h:LX.lit e rs=some x):x.e=e∧x.len=rs.length∧∀(i:Nat) (r:List PV),rs[i]? =some r→B7 r (x.row i):=by
 unfold LX.lit at h
 cases b3:Nat.beq e 3
 case true=>simp only [b3] at h;exact Ag8 k3 Bmf b3 h
 simp only [b3] at h
 cases b4:Nat.beq e 4
 case true=>simp only [b4] at h;exact Ag8 k4 Bmh b4 h
 simp only [b4] at h
 cases b9:Nat.beq e 9
 case true=>simp only [b9] at h;exact Ag8 k9 Bmr b9 h
 simp only [b9] at h
 cases b35:Nat.beq e 35
 case true=>simp only [b35] at h;exact Ag8 k35 Bfq b35 h
 simp only [b35] at h
 cases b46:Nat.beq e 46
 case true=>simp only [b46] at h;exact Ag8 k46 Bfr b46 h
 simp only [b46] at h
 cases b50:Nat.beq e 50
 case true=>simp only [b50] at h;exact Ag8 k50 Bfs b50 h
 simp only [b50] at h
 cases b55:Nat.beq e 55
 case true=>simp only [b55] at h;exact Ag8 k55 Bft b55 h
 simp only [b55] at h
 cases b57:Nat.beq e 57
 case true=>simp only [b57] at h;exact Ag8 k57 Bfu b57 h
 simp only [b57] at h
 cases b60:Nat.beq e 60
 case true=>simp only [b60] at h;exact Ag8 k60 Bfv b60 h
 simp only [b60] at h
 cases b70:Nat.beq e 70
 case true=>simp only [b70] at h;exact Ag8 k70 Bfw b70 h
 simp only [b70] at h
 cases b75:Nat.beq e 75
 case true=>simp only [b75] at h;exact Ag8 k75 Bfx b75 h
 simp only [b75] at h
 cases b77:Nat.beq e 77
 case true=>simp only [b77] at h;exact Ag8 k77 Bfy b77 h
 simp only [b77] at h
 cases b94:Nat.beq e 94
 case true=>simp only [b94] at h;exact Ag8 k94 Bfz b94 h
 simp only [b94] at h
 cases b99:Nat.beq e 99
 case true=>simp only [b99] at h;exact Ag8 k99 Bf0 b99 h
 simp only [b99] at h
 cases b145:Nat.beq e 145
 case true=>simp only [b145] at h;exact Ag8 Bwd Bad b145 h
 simp only [b145] at h
 cases b151:Nat.beq e 151
 case true=>simp only [b151] at h;exact Ag8 Bwe Bae b151 h
 simp only [b151] at h
 cases b155:Nat.beq e 155
 case true=>simp only [b155] at h;exact Ag8 Bwf Baf b155 h
 simp only [b155] at h
 cases b161:Nat.beq e 161
 case true=>simp only [b161] at h;exact Ag8 Bwg Bag b161 h
 simp only [b161] at h
 cases b167:Nat.beq e 167
 case true=>simp only [b167] at h;exact Ag8 Bwh Bah b167 h
 simp only [b167] at h
 cases b168:Nat.beq e 168
 case true=>simp only [b168] at h;exact Ag8 Bwi Bai b168 h
 simp only [b168] at h
 cases b180:Nat.beq e 180
 case true=>simp only [b180] at h;exact Ag8 Bwj Baj b180 h
 simp only [b180] at h
 cases b184:Nat.beq e 184
 case true=>simp only [b184] at h;exact Ag8 Bwk Bak b184 h
 simp only [b184] at h
 cases b190:Nat.beq e 190
 case true=>simp only [b190] at h;exact Ag8 Bwl Bal b190 h
 simp only [b190] at h
 cases b195:Nat.beq e 195
 case true=>simp only [b195] at h;exact Ag8 Bwm Bam b195 h
 simp only [b195] at h
 cases b229:Nat.beq e 229
 case true=>simp only [b229] at h;exact Ag8 Bwn Ban b229 h
 simp only [b229] at h
 cases b231:Nat.beq e 231
 case true=>simp only [b231] at h;exact Ag8 Bwo Bao b231 h
 simp only [b231] at h
 cases h
theorem LX.cat_spec(x y z:LX)(h:x.cat y=some z):y.e=x.e∧z.e=x.e∧y.sz=x.sz∧z.sz=x.sz∧z.len=x.len+y.len∧(∀i,i < x.len→z.row i=x.row i)∧(∀i,z.row (x.len+i)=y.row i):=by
 cases x with
 |t3 l=>exact Ag3 k3 (LX.g3_eq y) h
 |t4 l=>exact Ag3 k4 (LX.g4_eq y) h
 |t9 l=>exact Ag3 k9 (LX.g9_eq y) h
 |t35 l=>exact Ag3 k35 (LX.g35_eq y) h
 |t46 l=>exact Ag3 k46 (LX.g46_eq y) h
 |t50 l=>exact Ag3 k50 (LX.g50_eq y) h
 |t55 l=>exact Ag3 k55 (LX.g55_eq y) h
 |t57 l=>exact Ag3 k57 (LX.g57_eq y) h
 |t60 l=>exact Ag3 k60 (LX.g60_eq y) h
 |t70 l=>exact Ag3 k70 (LX.g70_eq y) h
 |t75 l=>exact Ag3 k75 (LX.g75_eq y) h
 |t77 l=>exact Ag3 k77 (LX.g77_eq y) h
 |t94 l=>exact Ag3 k94 (LX.g94_eq y) h
 |t99 l=>exact Ag3 k99 (LX.g99_eq y) h
 |t145 l=>exact Ag3 Bwd (LX.g145_eq y) h
 |t151 l=>exact Ag3 Bwe (LX.g151_eq y) h
 |t155 l=>exact Ag3 Bwf (LX.g155_eq y) h
 |t161 l=>exact Ag3 Bwg (LX.g161_eq y) h
 |t167 l=>exact Ag3 Bwh (LX.g167_eq y) h
 |t168 l=>exact Ag3 Bwi (LX.g168_eq y) h
 |t180 l=>exact Ag3 Bwj (LX.g180_eq y) h
 |t184 l=>exact Ag3 Bwk (LX.g184_eq y) h
 |t190 l=>exact Ag3 Bwl (LX.g190_eq y) h
 |t195 l=>exact Ag3 Bwm (LX.g195_eq y) h
 |t229 l=>exact Ag3 Bwn (LX.g229_eq y) h
 |t231 l=>exact Ag3 Bwo (LX.g231_eq y) h
theorem LX.sub_spec(x:LX)(a b:Nat)(h:b≤x.len):(x.sub a b).e=x.e∧(x.sub a b).sz=x.sz∧(x.sub a b).len=b - a∧∀i,i < b - a→(x.sub a b).row i=x.row (a+i):=by
 cases x with
 |t3 l=>exact Ahk k3 l a b h
 |t4 l=>exact Ahk k4 l a b h
 |t9 l=>exact Ahk k9 l a b h
 |t35 l=>exact Ahk k35 l a b h
 |t46 l=>exact Ahk k46 l a b h
 |t50 l=>exact Ahk k50 l a b h
 |t55 l=>exact Ahk k55 l a b h
 |t57 l=>exact Ahk k57 l a b h
 |t60 l=>exact Ahk k60 l a b h
 |t70 l=>exact Ahk k70 l a b h
 |t75 l=>exact Ahk k75 l a b h
 |t77 l=>exact Ahk k77 l a b h
 |t94 l=>exact Ahk k94 l a b h
 |t99 l=>exact Ahk k99 l a b h
 |t145 l=>exact Ahk Bwd l a b h
 |t151 l=>exact Ahk Bwe l a b h
 |t155 l=>exact Ahk Bwf l a b h
 |t161 l=>exact Ahk Bwg l a b h
 |t167 l=>exact Ahk Bwh l a b h
 |t168 l=>exact Ahk Bwi l a b h
 |t180 l=>exact Ahk Bwj l a b h
 |t184 l=>exact Ahk Bwk l a b h
 |t190 l=>exact Ahk Bwl l a b h
 |t195 l=>exact Ahk Bwm l a b h
 |t229 l=>exact Ahk Bwn l a b h
 |t231 l=>exact Ahk Bwo l a b h
theorem LX.rep_spec(x:LX)(n:Nat):(x.rep n).e=x.e∧(x.rep n).sz=x.sz∧(x.rep n).len=n∧∀i,i < n→(x.rep n).row i=x.row 0:=by
 cases x with
 |t3 l=>exact Ahf k3 l n
 |t4 l=>exact Ahf k4 l n
 |t9 l=>exact Ahf k9 l n
 |t35 l=>exact Ahf k35 l n
 |t46 l=>exact Ahf k46 l n
 |t50 l=>exact Ahf k50 l n
 |t55 l=>exact Ahf k55 l n
 |t57 l=>exact Ahf k57 l n
 |t60 l=>exact Ahf k60 l n
 |t70 l=>exact Ahf k70 l n
 |t75 l=>exact Ahf k75 l n
 |t77 l=>exact Ahf k77 l n
 |t94 l=>exact Ahf k94 l n
 |t99 l=>exact Ahf k99 l n
 |t145 l=>exact Ahf Bwd l n
 |t151 l=>exact Ahf Bwe l n
 |t155 l=>exact Ahf Bwf l n
 |t161 l=>exact Ahf Bwg l n
 |t167 l=>exact Ahf Bwh l n
 |t168 l=>exact Ahf Bwi l n
 |t180 l=>exact Ahf Bwj l n
 |t184 l=>exact Ahf Bwk l n
 |t190 l=>exact Ahf Bwl l n
 |t195 l=>exact Ahf Bwm l n
 |t229 l=>exact Ahf Bwn l n
 |t231 l=>exact Ahf Bwo l n
theorem Bj8(l:List PV):∀n,It l n=true↔n≤l.length:=by
 induction l with
 |nil=>intro n;cases n<;>simp [It]
 |cons p r ih=>intro n;cases n<;>simp [It,ih]
theorem Ahh{α :Type} [Inhabited α]{K:List α→LX}{row: α→List PV}{e0 sz:Nat}(k:KOK K row e0 sz)(hz:∀a,(row a).length=sz){d:List PV→Option α}(hd:∀r a,d r=some a→B7 r (row a)){i off:Nat}{c:List PV}{l:List α}{y:LX}(h:Adw (It (row (l.getD i default)) (off+c.length)) (fun a=>K (l.set i a)) (d (Hc (row (l.getD i default)) off c))=some y):y.e=(K l).e∧y.sz=(K l).sz∧y.len=(K l).len∧off+c.length≤(K l).sz∧(i < (K l).len→B7 (Hc ((K l).row i) off c) (y.row i))∧∀j,j≠i→y.row j=(K l).row j:=by
 unfold Adw at h
 split at h
 ·rename_i a h1 h2
  injection h with h;subst h
  simp only [k.e,k.sz,k.len,k.row,true_and]
  refine ⟨List.length_set,by rw [←hz (l.getD i default)];exact (Bj8 _ _).1 h1,fun hi=> ?_,fun j hj=> ?_⟩
  ·rw [Bgj l i a hi]
   exact hd _ _ h2
  ·rw [Bgk l i j a hj]
 ·cases h
theorem LX.set_spec(x:LX)(i off:Nat)(c:List PV)(y:LX)(h:LX.set x i off c=some y):y.e=x.e∧y.sz=x.sz∧y.len=x.len∧off+c.length≤x.sz∧(i < x.len→B7 (Hc (x.row i) off c) (y.row i))∧∀j,j≠i→y.row j=x.row j:=by
 cases x with
 |t3 l=>exact Ahh k3 (fun _=>rfl) Bmf h
 |t4 l=>exact Ahh k4 (fun _=>rfl) Bmh h
 |t9 l=>exact Ahh k9 (fun _=>rfl) Bmr h
 |t35 l=>exact Ahh k35 (fun _=>rfl) Bfq h
 |t46 l=>exact Ahh k46 (fun _=>rfl) Bfr h
 |t50 l=>exact Ahh k50 (fun _=>rfl) Bfs h
 |t55 l=>exact Ahh k55 (fun _=>rfl) Bft h
 |t57 l=>exact Ahh k57 (fun _=>rfl) Bfu h
 |t60 l=>exact Ahh k60 (fun _=>rfl) Bfv h
 |t70 l=>exact Ahh k70 (fun _=>rfl) Bfw h
 |t75 l=>exact Ahh k75 (fun _=>rfl) Bfx h
 |t77 l=>exact Ahh k77 (fun _=>rfl) Bfy h
 |t94 l=>exact Ahh k94 (fun _=>rfl) Bfz h
 |t99 l=>exact Ahh k99 (fun _=>rfl) Bf0 h
 |t145 l=>exact Ahh Bwd (fun _=>rfl) Bad h
 |t151 l=>exact Ahh Bwe (fun _=>rfl) Bae h
 |t155 l=>exact Ahh Bwf (fun _=>rfl) Baf h
 |t161 l=>exact Ahh Bwg (fun _=>rfl) Bag h
 |t167 l=>exact Ahh Bwh (fun _=>rfl) Bah h
 |t168 l=>exact Ahh Bwi (fun _=>rfl) Bai h
 |t180 l=>exact Ahh Bwj (fun _=>rfl) Baj h
 |t184 l=>exact Ahh Bwk (fun _=>rfl) Bak h
 |t190 l=>exact Ahh Bwl (fun _=>rfl) Bal h
 |t195 l=>exact Ahh Bwm (fun _=>rfl) Bam h
 |t229 l=>exact Ahh Bwn (fun _=>rfl) Ban h
 |t231 l=>exact Ahh Bwo (fun _=>rfl) Bao h
theorem Aj2{α :Type} [Inhabited α]{l:List α}{p: α→Bool}{r:Option Nat}(h:l.findIdx? p=r):
  (r=none→∀i,i < l.length→p (l.getD i default)=false)∧(∀i,r=some i→i < l.length∧p (l.getD i default)=true∧∀j,j < i→p (l.getD j default)=false):=by
 subst h
 refine ⟨fun h i hi=> ?_,fun i h=> ?_⟩
 ·have:=List.findIdx?_eq_none_iff.1 h (l.getD i default) (by rw [Gs l i hi];exact List.getElem_mem hi)
  simpa using this
 ·obtain ⟨h1,h2,h3⟩:=List.findIdx?_eq_some_iff_getElem.1 h
  refine ⟨h1,by rw [Gs l i h1];exact h2,fun j hj=> ?_⟩
  rw [Gs l j (by omega)]
  simpa using h3 j hj
theorem LX.find_spec(x:LX)(c:List PV)(r:Option Nat)(h:LX.find x c=some r):(r=none→∀i,i < x.len→Alo c (x.row i)=some false)∧(∀i,r=some i→i < x.len∧Alo c (x.row i)=some true∧∀j,j < i→Alo c (x.row j)=some false):=by
 unfold LX.find at h
 split at h
 ·rename_i l k0 a0
  split at h
  ·rename_i hk0
   have e0:=of_decide_eq_true hk0
   subst e0
   injection h with h;subst h
   obtain ⟨s1,s2⟩:=Aj2 (rfl:l.findIdx? (fun b=>a0 == b)=_)
   have key:∀i b,(a0 == (l.getD i default))=b→Alo [.val (.int .i64 a0)] ((LX.t3 l).row i)=some b:=fun i b hb=>congrArg some hb
   exact ⟨fun hr i hi=>key _ _ (s1 hr i hi),fun i hr=>⟨(s2 i hr).1,key _ _ (s2 i hr).2.1,fun j hj=>key _ _ ((s2 i hr).2.2 j hj)⟩⟩
  ·cases h
 ·rename_i l a0
  injection h with h;subst h
  obtain ⟨s1,s2⟩:=Aj2 (rfl:l.findIdx? (fun b=>a0 == b)=_)
  have key:∀i b,(a0 == (l.getD i default))=b→Alo [.val (.bool a0)] ((LX.t4 l).row i)=some b:=fun i b hb=>congrArg some hb
  exact ⟨fun hr i hi=>key _ _ (s1 hr i hi),fun i hr=>⟨(s2 i hr).1,key _ _ (s2 i hr).2.1,fun j hj=>key _ _ ((s2 i hr).2.2 j hj)⟩⟩
 ·rename_i l a0
  injection h with h;subst h
  obtain ⟨s1,s2⟩:=Aj2 (rfl:l.findIdx? (fun b=>a0 == b)=_)
  have key:∀i b,(a0 == (l.getD i default))=b→Alo [.val (.string a0)] ((LX.t9 l).row i)=some b:=fun i b hb=>congrArg some hb
  exact ⟨fun hr i hi=>key _ _ (s1 hr i hi),fun i hr=>⟨(s2 i hr).1,key _ _ (s2 i hr).2.1,fun j hj=>key _ _ ((s2 i hr).2.2 j hj)⟩⟩
 ·rename_i l k0 a0
  split at h
  ·rename_i hk0
   have e0:=of_decide_eq_true hk0
   subst e0
   injection h with h;subst h
   obtain ⟨s1,s2⟩:=Aj2 (rfl:l.findIdx? (fun b=>a0 == b)=_)
   have key:∀i b,(a0 == (l.getD i default))=b→Alo [.val (.int .i64 a0)] ((LX.t75 l).row i)=some b:=fun i b hb=>congrArg some hb
   exact ⟨fun hr i hi=>key _ _ (s1 hr i hi),fun i hr=>⟨(s2 i hr).1,key _ _ (s2 i hr).2.1,fun j hj=>key _ _ ((s2 i hr).2.2 j hj)⟩⟩
  ·cases h
 ·rename_i l a0 a1
  injection h with h;subst h
  obtain ⟨s1,s2⟩:=Aj2 (rfl:l.findIdx? (fun b=>(a0 == b.a0 && (a1 == b.a1)))=_)
  have key:∀i b,((a0 == (l.getD i default).a0 && (a1 == (l.getD i default).a1)))=b→Alo [.val (.string a0),.val (.string a1)] ((LX.t168 l).row i)=some b:=fun i b hb=>congrArg some hb
  exact ⟨fun hr i hi=>key _ _ (s1 hr i hi),fun i hr=>⟨(s2 i hr).1,key _ _ (s2 i hr).2.1,fun j hj=>key _ _ ((s2 i hr).2.2 j hj)⟩⟩
 ·cases h
end Go.Proofs.YtfencmicmnhglaaGreat.Ev
