/-  The types of the data, and of rows of them. -/
import Derived.Test.YtfencmicmnhglaaGreatRows
import Derived.WalkKit
import Derived.LoopN
import Derived.Great.BuildSlice
import Derived.Deep.Draws
namespace Go.Proofs.YtfencmicmnhglaaGreat.Ev
open Go
set_option linter.unusedVariables false
set_option linter.unusedSimpArgs false
set_option linter.unnecessarySimpa false
structure Bk where
 a0:ByteArray
 a1:ByteArray
 deriving Inhabited
inductive Ab where
 |mk (Op:Int) (Name:ByteArray) (N:Int) (Kids:(List Ab))
instance:Inhabited Ab:=⟨.mk 0 ByteArray.empty 0 []⟩
def Ab.Op:Ab→Int| .mk x _ _ _=>x
def Ab.Name:Ab→ByteArray| .mk _ x _ _=>x
def Ab.N:Ab→Int| .mk _ _ x _=>x
def Ab.Kids:Ab→(List Ab)| .mk _ _ _ x=>x
def Ab.cp(x:Ab):Ab:= .mk x.Op x.Name x.N x.Kids
theorem Ab.cp_eq(x:Ab):Ab.cp x=x:=by cases x;rfl
theorem Ab.eta(x:Ab):Ab.mk x.Op x.Name x.N x.Kids=x:=by cases x;rfl
structure Mk where
 u_is:Bool
 u_e:Ab
 deriving Inhabited
structure E6 where
 u_is:Bool
 u_name:ByteArray
 deriving Inhabited
structure Aq where
 Name:ByteArray
 Length:Int
 Step:Int
 deriving Inhabited
structure Cy where
 At:Int
 Units:Int
 deriving Inhabited
structure Bv where
 Op:Int
 A:Int
 B:Int
 N:Int
 Values:(List Int)
 Weights:(List Int)
 deriving Inhabited
structure Ap where
 Name:ByteArray
 Type_:Int
 deriving Inhabited
structure Aw where
 Coef:Int
 What:ByteArray
 Name:ByteArray
 deriving Inhabited
structure A9 where
 Name:ByteArray
 Terms:(List Aw)
 Total:Int
 deriving Inhabited
structure Gf where
 Stream:ByteArray
 Up:Bv
 Down:Bv
 deriving Inhabited
structure Ai where
 Name:ByteArray
 Units:Int
 Shift:(List Cy)
 Cycle:Int
 Fault:Gf
 deriving Inhabited
inductive Ac where
 |mk (Op:Int) (Name:ByteArray) (Of:ByteArray) (E:Ab) (F:Ab) (Args:(List Ab)) (Dist:Bv) (Flag:Bool) (Body:(List Ac)) (Else:(List Ac))
instance:Inhabited Ac:=⟨.mk 0 ByteArray.empty ByteArray.empty default default [] default false [] []⟩
def Ac.Op:Ac→Int| .mk x _ _ _ _ _ _ _ _ _=>x
def Ac.Name:Ac→ByteArray| .mk _ x _ _ _ _ _ _ _ _=>x
def Ac.Of:Ac→ByteArray| .mk _ _ x _ _ _ _ _ _ _=>x
def Ac.E:Ac→Ab| .mk _ _ _ x _ _ _ _ _ _=>x
def Ac.F:Ac→Ab| .mk _ _ _ _ x _ _ _ _ _=>x
def Ac.Args:Ac→(List Ab)| .mk _ _ _ _ _ x _ _ _ _=>x
def Ac.Dist:Ac→Bv| .mk _ _ _ _ _ _ x _ _ _=>x
def Ac.Flag:Ac→Bool| .mk _ _ _ _ _ _ _ x _ _=>x
def Ac.Body:Ac→(List Ac)| .mk _ _ _ _ _ _ _ _ x _=>x
def Ac.Else:Ac→(List Ac)| .mk _ _ _ _ _ _ _ _ _ x=>x
def Ac.cp(x:Ac):Ac:= .mk x.Op x.Name x.Of (Ab.cp x.E) (Ab.cp x.F) x.Args x.Dist x.Flag x.Body x.Else
theorem Ac.cp_eq(x:Ac):Ac.cp x=x:=by cases x;simp only [Ac.cp,Ab.cp_eq,Ac.Op,Ac.Name,Ac.Of,Ac.E,Ac.F,Ac.Args,Ac.Dist,Ac.Flag,Ac.Body,Ac.Else]
theorem Ac.eta(x:Ac):Ac.mk x.Op x.Name x.Of x.E x.F x.Args x.Dist x.Flag x.Body x.Else=x:=by cases x;rfl
structure Ak where
 Name:ByteArray
 Params:(List Ap)
 Locals:(List Ap)
 Body:(List Ac)
 deriving Inhabited
structure Bo where
 Routine:ByteArray
 Args:(List Int)
 At:Int
 Every:Int
 Until:Int
 deriving Inhabited
structure Am where
 Name:ByteArray
 Room:Int
 Policy:Int
 deriving Inhabited
structure Ah where
 Name:ByteArray
 Type_:Int
 N:Int
 deriving Inhabited
structure Aa where
 Name:ByteArray
 Vars:(List Ah)
 Resources:(List Ai)
 Stores:(List Am)
 Belts:(List Aq)
 Queues:(List ByteArray)
 Streams:(List ByteArray)
 Tallies:(List ByteArray)
 Levels:(List ByteArray)
 Counts:(List ByteArray)
 Routines:(List Ak)
 Starts:(List Bo)
 Laws:(List A9)
 deriving Inhabited
structure Bf where
 Params:(List Ah)
 Locals:(List Ap)
 Site:Aa
 deriving Inhabited
structure Af where
 Name:ByteArray
 Levels:(List Int)
 deriving Inhabited
structure Be where
 From:ByteArray
 To:ByteArray
 Delay:Int
 deriving Inhabited
structure Ad where
 Name:ByteArray
 Params:(List Ah)
 Sites:(List Aa)
 Links:(List Be)
 deriving Inhabited
structure Ag where
 Name:ByteArray
 N:Int
 deriving Inhabited
structure Bp where
 u_code:Bool
 deriving Inhabited
structure Bm where
 u_name:Bool
 u_of:Bool
 u_e:Bool
 u_f:Bool
 u_args:Bool
 u_dist:Bool
 u_flag:Bool
 u_body:Bool
 u_other:Bool
 deriving Inhabited
structure Aj where
 u_m:Ad
 u_site:Int
 u_env:Bf
 deriving Inhabited
inductive LX where
 |t3 (l:List Int)
 |t4 (l:List Bool)
 |t9 (l:List ByteArray)
 |t35 (l:List (List Int))
 |t46 (l:List Af)
 |t50 (l:List (List ByteArray))
 |t55 (l:List Aa)
 |t57 (l:List (List Ap))
 |t60 (l:List Ak)
 |t70 (l:List Ag)
 |t75 (l:List Int)
 |t77 (l:List Ah)
 |t94 (l:List Ab)
 |t99 (l:List Ac)
 |t145 (l:List Ai)
 |t151 (l:List Am)
 |t155 (l:List Aq)
 |t161 (l:List Bo)
 |t167 (l:List Be)
 |t168 (l:List Bk)
 |t180 (l:List A9)
 |t184 (l:List Cy)
 |t190 (l:List Ap)
 |t195 (l:List Aw)
 |t229 (l:List E6)
 |t231 (l:List Mk)
 deriving Inhabited
def LX.e:LX→Nat
 | .t3 l=>3
 | .t4 l=>4
 | .t9 l=>9
 | .t35 l=>35
 | .t46 l=>46
 | .t50 l=>50
 | .t55 l=>55
 | .t57 l=>57
 | .t60 l=>60
 | .t70 l=>70
 | .t75 l=>75
 | .t77 l=>77
 | .t94 l=>94
 | .t99 l=>99
 | .t145 l=>145
 | .t151 l=>151
 | .t155 l=>155
 | .t161 l=>161
 | .t167 l=>167
 | .t168 l=>168
 | .t180 l=>180
 | .t184 l=>184
 | .t190 l=>190
 | .t195 l=>195
 | .t229 l=>229
 | .t231 l=>231
def LX.sz:LX→Nat
 | .t3 l=>1
 | .t4 l=>1
 | .t9 l=>1
 | .t35 l=>1
 | .t46 l=>2
 | .t50 l=>1
 | .t55 l=>13
 | .t57 l=>1
 | .t60 l=>4
 | .t70 l=>2
 | .t75 l=>1
 | .t77 l=>3
 | .t94 l=>4
 | .t99 l=>21
 | .t145 l=>17
 | .t151 l=>3
 | .t155 l=>3
 | .t161 l=>5
 | .t167 l=>3
 | .t168 l=>2
 | .t180 l=>3
 | .t184 l=>2
 | .t190 l=>2
 | .t195 l=>3
 | .t229 l=>2
 | .t231 l=>5
def LX.len:LX→Nat
 | .t3 l=>l.length
 | .t4 l=>l.length
 | .t9 l=>l.length
 | .t35 l=>l.length
 | .t46 l=>l.length
 | .t50 l=>l.length
 | .t55 l=>l.length
 | .t57 l=>l.length
 | .t60 l=>l.length
 | .t70 l=>l.length
 | .t75 l=>l.length
 | .t77 l=>l.length
 | .t94 l=>l.length
 | .t99 l=>l.length
 | .t145 l=>l.length
 | .t151 l=>l.length
 | .t155 l=>l.length
 | .t161 l=>l.length
 | .t167 l=>l.length
 | .t168 l=>l.length
 | .t180 l=>l.length
 | .t184 l=>l.length
 | .t190 l=>l.length
 | .t195 l=>l.length
 | .t229 l=>l.length
 | .t231 l=>l.length
def LX.g3:LX→Option (List Int)
 | .t3 l=>some l
 |_=>none
def LX.g4:LX→Option (List Bool)
 | .t4 l=>some l
 |_=>none
def LX.g9:LX→Option (List ByteArray)
 | .t9 l=>some l
 |_=>none
def LX.g35:LX→Option (List (List Int))
 | .t35 l=>some l
 |_=>none
def LX.g46:LX→Option (List Af)
 | .t46 l=>some l
 |_=>none
def LX.g50:LX→Option (List (List ByteArray))
 | .t50 l=>some l
 |_=>none
def LX.g55:LX→Option (List Aa)
 | .t55 l=>some l
 |_=>none
def LX.g57:LX→Option (List (List Ap))
 | .t57 l=>some l
 |_=>none
def LX.g60:LX→Option (List Ak)
 | .t60 l=>some l
 |_=>none
def LX.g70:LX→Option (List Ag)
 | .t70 l=>some l
 |_=>none
def LX.g75:LX→Option (List Int)
 | .t75 l=>some l
 |_=>none
def LX.g77:LX→Option (List Ah)
 | .t77 l=>some l
 |_=>none
def LX.g94:LX→Option (List Ab)
 | .t94 l=>some l
 |_=>none
def LX.g99:LX→Option (List Ac)
 | .t99 l=>some l
 |_=>none
def LX.g145:LX→Option (List Ai)
 | .t145 l=>some l
 |_=>none
def LX.g151:LX→Option (List Am)
 | .t151 l=>some l
 |_=>none
def LX.g155:LX→Option (List Aq)
 | .t155 l=>some l
 |_=>none
def LX.g161:LX→Option (List Bo)
 | .t161 l=>some l
 |_=>none
def LX.g167:LX→Option (List Be)
 | .t167 l=>some l
 |_=>none
def LX.g168:LX→Option (List Bk)
 | .t168 l=>some l
 |_=>none
def LX.g180:LX→Option (List A9)
 | .t180 l=>some l
 |_=>none
def LX.g184:LX→Option (List Cy)
 | .t184 l=>some l
 |_=>none
def LX.g190:LX→Option (List Ap)
 | .t190 l=>some l
 |_=>none
def LX.g195:LX→Option (List Aw)
 | .t195 l=>some l
 |_=>none
def LX.g229:LX→Option (List E6)
 | .t229 l=>some l
 |_=>none
def LX.g231:LX→Option (List Mk)
 | .t231 l=>some l
 |_=>none
def Kh{α :Type}(K: α→LX)(o:Option α):Option LX:=match o with
 |some l=>some (K l)
 |none=>none
def Zo{α :Type}(b:Bool)(K: α→LX)(o:Option α):Option LX:=match b,o with
 |true,some l=>some (K l)
 |_,_=>none
def LX.cat(x y:LX):Option LX:=match x with
 | .t3 l=>Kh (fun m=> .t3 (l++m)) y.g3
 | .t4 l=>Kh (fun m=> .t4 (l++m)) y.g4
 | .t9 l=>Kh (fun m=> .t9 (l++m)) y.g9
 | .t35 l=>Kh (fun m=> .t35 (l++m)) y.g35
 | .t46 l=>Kh (fun m=> .t46 (l++m)) y.g46
 | .t50 l=>Kh (fun m=> .t50 (l++m)) y.g50
 | .t55 l=>Kh (fun m=> .t55 (l++m)) y.g55
 | .t57 l=>Kh (fun m=> .t57 (l++m)) y.g57
 | .t60 l=>Kh (fun m=> .t60 (l++m)) y.g60
 | .t70 l=>Kh (fun m=> .t70 (l++m)) y.g70
 | .t75 l=>Kh (fun m=> .t75 (l++m)) y.g75
 | .t77 l=>Kh (fun m=> .t77 (l++m)) y.g77
 | .t94 l=>Kh (fun m=> .t94 (l++m)) y.g94
 | .t99 l=>Kh (fun m=> .t99 (l++m)) y.g99
 | .t145 l=>Kh (fun m=> .t145 (l++m)) y.g145
 | .t151 l=>Kh (fun m=> .t151 (l++m)) y.g151
 | .t155 l=>Kh (fun m=> .t155 (l++m)) y.g155
 | .t161 l=>Kh (fun m=> .t161 (l++m)) y.g161
 | .t167 l=>Kh (fun m=> .t167 (l++m)) y.g167
 | .t168 l=>Kh (fun m=> .t168 (l++m)) y.g168
 | .t180 l=>Kh (fun m=> .t180 (l++m)) y.g180
 | .t184 l=>Kh (fun m=> .t184 (l++m)) y.g184
 | .t190 l=>Kh (fun m=> .t190 (l++m)) y.g190
 | .t195 l=>Kh (fun m=> .t195 (l++m)) y.g195
 | .t229 l=>Kh (fun m=> .t229 (l++m)) y.g229
 | .t231 l=>Kh (fun m=> .t231 (l++m)) y.g231
def LX.sub(x:LX)(a b:Nat):LX:=match x with
 | .t3 l=> .t3 ((l.take b).drop a)
 | .t4 l=> .t4 ((l.take b).drop a)
 | .t9 l=> .t9 ((l.take b).drop a)
 | .t35 l=> .t35 ((l.take b).drop a)
 | .t46 l=> .t46 ((l.take b).drop a)
 | .t50 l=> .t50 ((l.take b).drop a)
 | .t55 l=> .t55 ((l.take b).drop a)
 | .t57 l=> .t57 ((l.take b).drop a)
 | .t60 l=> .t60 ((l.take b).drop a)
 | .t70 l=> .t70 ((l.take b).drop a)
 | .t75 l=> .t75 ((l.take b).drop a)
 | .t77 l=> .t77 ((l.take b).drop a)
 | .t94 l=> .t94 ((l.take b).drop a)
 | .t99 l=> .t99 ((l.take b).drop a)
 | .t145 l=> .t145 ((l.take b).drop a)
 | .t151 l=> .t151 ((l.take b).drop a)
 | .t155 l=> .t155 ((l.take b).drop a)
 | .t161 l=> .t161 ((l.take b).drop a)
 | .t167 l=> .t167 ((l.take b).drop a)
 | .t168 l=> .t168 ((l.take b).drop a)
 | .t180 l=> .t180 ((l.take b).drop a)
 | .t184 l=> .t184 ((l.take b).drop a)
 | .t190 l=> .t190 ((l.take b).drop a)
 | .t195 l=> .t195 ((l.take b).drop a)
 | .t229 l=> .t229 ((l.take b).drop a)
 | .t231 l=> .t231 ((l.take b).drop a)
def LX.rep(x:LX)(n:Nat):LX:=match x with
 | .t3 l=> .t3 (List.replicate n (l.getD 0 default))
 | .t4 l=> .t4 (List.replicate n (l.getD 0 default))
 | .t9 l=> .t9 (List.replicate n (l.getD 0 default))
 | .t35 l=> .t35 (List.replicate n (l.getD 0 default))
 | .t46 l=> .t46 (List.replicate n (l.getD 0 default))
 | .t50 l=> .t50 (List.replicate n (l.getD 0 default))
 | .t55 l=> .t55 (List.replicate n (l.getD 0 default))
 | .t57 l=> .t57 (List.replicate n (l.getD 0 default))
 | .t60 l=> .t60 (List.replicate n (l.getD 0 default))
 | .t70 l=> .t70 (List.replicate n (l.getD 0 default))
 | .t75 l=> .t75 (List.replicate n (l.getD 0 default))
 | .t77 l=> .t77 (List.replicate n (l.getD 0 default))
 | .t94 l=> .t94 (List.replicate n (l.getD 0 default))
 | .t99 l=> .t99 (List.replicate n (l.getD 0 default))
 | .t145 l=> .t145 (List.replicate n (l.getD 0 default))
 | .t151 l=> .t151 (List.replicate n (l.getD 0 default))
 | .t155 l=> .t155 (List.replicate n (l.getD 0 default))
 | .t161 l=> .t161 (List.replicate n (l.getD 0 default))
 | .t167 l=> .t167 (List.replicate n (l.getD 0 default))
 | .t168 l=> .t168 (List.replicate n (l.getD 0 default))
 | .t180 l=> .t180 (List.replicate n (l.getD 0 default))
 | .t184 l=> .t184 (List.replicate n (l.getD 0 default))
 | .t190 l=> .t190 (List.replicate n (l.getD 0 default))
 | .t195 l=> .t195 (List.replicate n (l.getD 0 default))
 | .t229 l=> .t229 (List.replicate n (l.getD 0 default))
 | .t231 l=> .t231 (List.replicate n (l.getD 0 default))
def LX.nil(e:Nat):Option LX:=match Nat.beq e 3 with
 |true=>some (.t3 [])
 |false=>match Nat.beq e 4 with
 |true=>some (.t4 [])
 |false=>match Nat.beq e 9 with
 |true=>some (.t9 [])
 |false=>match Nat.beq e 35 with
 |true=>some (.t35 [])
 |false=>match Nat.beq e 46 with
 |true=>some (.t46 [])
 |false=>match Nat.beq e 50 with
 |true=>some (.t50 [])
 |false=>match Nat.beq e 55 with
 |true=>some (.t55 [])
 |false=>match Nat.beq e 57 with
 |true=>some (.t57 [])
 |false=>match Nat.beq e 60 with
 |true=>some (.t60 [])
 |false=>match Nat.beq e 70 with
 |true=>some (.t70 [])
 |false=>match Nat.beq e 75 with
 |true=>some (.t75 [])
 |false=>match Nat.beq e 77 with
 |true=>some (.t77 [])
 |false=>match Nat.beq e 94 with
 |true=>some (.t94 [])
 |false=>match Nat.beq e 99 with
 |true=>some (.t99 [])
 |false=>match Nat.beq e 145 with
 |true=>some (.t145 [])
 |false=>match Nat.beq e 151 with
 |true=>some (.t151 [])
 |false=>match Nat.beq e 155 with
 |true=>some (.t155 [])
 |false=>match Nat.beq e 161 with
 |true=>some (.t161 [])
 |false=>match Nat.beq e 167 with
 |true=>some (.t167 [])
 |false=>match Nat.beq e 168 with
 |true=>some (.t168 [])
 |false=>match Nat.beq e 180 with
 |true=>some (.t180 [])
 |false=>match Nat.beq e 184 with
 |true=>some (.t184 [])
 |false=>match Nat.beq e 190 with
 |true=>some (.t190 [])
 |false=>match Nat.beq e 195 with
 |true=>some (.t195 [])
 |false=>match Nat.beq e 229 with
 |true=>some (.t229 [])
 |false=>match Nat.beq e 231 with
 |true=>some (.t231 [])
 |false=>none
end Go.Proofs.YtfencmicmnhglaaGreat.Ev
namespace Go.Proofs.YtfencmicmnhglaaGreat.Ev
open Go
set_option linter.unusedVariables false
set_option linter.unusedSimpArgs false
set_option linter.unnecessarySimpa false
inductive PV where
 |any
 |val (v:Value)
 |agg (l:List PV)
 |tup (l:List PV)
 |sl (own:Bool) (e sz:Nat) (es:List (List PV))
 |lst (own:Bool) (x:LX)
 |ref (l:List PV)
 |loc (d off:Nat)
 |el (d sz i off:Nat)
 |vw (c:Bool) (d e sz n:Nat)
 |mp (d:Nat)
 |clo (f n:Nat) (caps:List PV)
 |arrO (x:LX)
 |mapO (gk gv:Bool) (ks vs:LX)
 deriving Inhabited
def PV.view:PV→PV
 | .sl _ e sz es=> .sl false e sz es
 | .lst _ x=> .lst false x
 |p=>p
def PV.flat:PV→Bool
 | .any=>true
 | .val _=>true
 | .lst _ _=>true
 |_=>false
inductive PV.Le:PV→PV→Prop
 |view (p:PV):PV.Le p p.view
 |nil (own:Bool) (y:LX) (h:y.len=0):PV.Le (.val (.slice none 0 0)) (.lst own y)
def F8(l:List PV)(off:Nat)(new:List PV):List PV:=match l,off,new with
 | [],_,_=> []
 |l,_,[]=>l
 |_::r,0,q::new=>q::F8 r 0 new
 |p::r,n+1,new=>p::F8 r n new
def Aku:PV→PV→Option Bool
 | .val (.int k a),.val (.int k' b)=>match decide (k=k') with
  |true=>some (a == b)
  |false=>none
 | .val (.string a),.val (.string b)=>some (a == b)
 | .val (.bool a),.val (.bool b)=>some (a == b)
 |_,_=>none
def Axz:PV→List PV→PV→List PV→Option Bool
 |a,[],b,[]=>Aku a b
 |a,a'::l,b,b'::m=>match Aku a b,Axz a' l b' m with
  |some x,some y=>some (x && y)
  |_,_=>none
 |_,_,_,_=>none
def Ade:List PV→List PV→Option Bool
 |a::l,b::m=>Axz a l b m
 |_,_=>none
end Go.Proofs.YtfencmicmnhglaaGreat.Ev
namespace Go.Proofs.YtfencmicmnhglaaGreat.Ev
open Go
set_option linter.unusedVariables false
set_option linter.unusedSimpArgs false
set_option linter.unnecessarySimpa false
def Hx(l:List PV)(n:Nat):Bool:=match l,n with
 |_,0=>true
 |_::r,n+1=>Hx r n
 |_,_=>false
def Es(k:IntKind):PV→Option Int
 | .val (.int k' a)=>match decide (k'=k) with
  |true=>some a
  |false=>none
 |_=>none
def Zt:PV→Option Bool
 | .val (.bool a)=>some a
 |_=>none
def Nu:PV→Option ByteArray
 | .val (.string a)=>some a
 |_=>none
inductive B2:List PV→List PV→Prop
 |nil:B2 [] []
 |cons {p q:PV} {r s:List PV} (h:PV.Le p q) (hr:B2 r s):B2 (p::r) (q::s)
theorem Bj{k:IntKind}{p:PV}{a:Int}(h:Es k p=some a):PV.Le p (.val (.int k a)):=by
 unfold Es at h
 split at h
 ·split at h
  ·rename_i hk
   have:=of_decide_eq_true hk
   subst this
   injection h with h;subst h;exact .view _
  ·cases h
 ·cases h
theorem Lz{p:PV}{a:Bool}(h:Zt p=some a):PV.Le p (.val (.bool a)):=by
 unfold Zt at h
 split at h
 ·injection h with h;subst h;exact .view _
 ·cases h
theorem C0{p:PV}{a:ByteArray}(h:Nu p=some a):PV.Le p (.val (.string a)):=by
 unfold Nu at h
 split at h
 ·injection h with h;subst h;exact .view _
 ·cases h
def Wa{α :Type}(d:List PV→Option α):List (List PV)→Option (List α)
 | []=>some []
 |r::rs=>match d r,Wa d rs with
  |some a,some l=>some (a::l)
  |_,_=>none
theorem Aw1{α :Type} [Inhabited α]{d:List PV→Option α}{row: α→List PV}(hd:∀r a,d r=some a→B2 r (row a)):∀(rs:List (List PV)) (l:List α),Wa d rs=some l→
  l.length=rs.length∧∀(i:Nat) (r:List PV),rs[i]? =some r→B2 r (row (l.getD i default))
 | [],l,h=>by
  simp only [Wa,Option.some.injEq] at h
  subst h
  exact ⟨rfl,fun i r hr=>by simp at hr⟩
 |r::rs,l,h=>by
  simp only [Wa] at h
  split at h
  ·rename_i a m h1 h2
   injection h with h
   subst h
   obtain ⟨q1,q2⟩:=Aw1 hd rs m h2
   refine ⟨by simp [q1],fun i x hx=> ?_⟩
   cases i with
   |zero=>simp at hx;subst hx;simpa using hd _ _ h1
   |succ i=>simpa using q2 i x (by simpa using hx)
  ·cases h
def Ben:List PV→Bool
 | []=>true
 |p::r=>match p.flat with
  |true=>Ben r
  |false=>false
theorem Axd:∀(l:List PV),Ben l=true→∀p∈l,p.flat=true
 | [],_,p,h=>by cases h
 |q::r,h,p,hp=>by
  simp only [Ben] at h
  cases hq:q.flat with
  |false=>rw [hq] at h;cases h
  |true=>
   rw [hq] at h
   rcases List.mem_cons.1 hp with e|e
   ·subst e;exact hq
   ·exact Axd r h p e
def dl3:PV→Option (List Int)
 | .lst _ x=>x.g3
 | .val (.slice none 0 0)=>some []
 |_=>none
theorem M9{p:PV}{a:List Int}(h:dl3 p=some a):PV.Le p (.lst false (.t3 a)):=by
 unfold dl3 at h
 split at h
 ·rename_i o x
  cases x<;>simp only [LX.g3] at h<;>first|(injection h with h;subst h;exact .view _)|cases h
 ·injection h with h;subst h;exact .nil false _ rfl
 ·cases h
def dl9:PV→Option (List ByteArray)
 | .lst _ x=>x.g9
 | .val (.slice none 0 0)=>some []
 |_=>none
theorem Ny{p:PV}{a:List ByteArray}(h:dl9 p=some a):PV.Le p (.lst false (.t9 a)):=by
 unfold dl9 at h
 split at h
 ·rename_i o x
  cases x<;>simp only [LX.g9] at h<;>first|(injection h with h;subst h;exact .view _)|cases h
 ·injection h with h;subst h;exact .nil false _ rfl
 ·cases h
def Brb:PV→Option (List Af)
 | .lst _ x=>x.g46
 | .val (.slice none 0 0)=>some []
 |_=>none
theorem Bje{p:PV}{a:List Af}(h:Brb p=some a):PV.Le p (.lst false (.t46 a)):=by
 unfold Brb at h
 split at h
 ·rename_i o x
  cases x<;>simp only [LX.g46] at h<;>first|(injection h with h;subst h;exact .view _)|cases h
 ·injection h with h;subst h;exact .nil false _ rfl
 ·cases h
def Bjf:PV→Option (List Aa)
 | .lst _ x=>x.g55
 | .val (.slice none 0 0)=>some []
 |_=>none
theorem A7k{p:PV}{a:List Aa}(h:Bjf p=some a):PV.Le p (.lst false (.t55 a)):=by
 unfold Bjf at h
 split at h
 ·rename_i o x
  cases x<;>simp only [LX.g55] at h<;>first|(injection h with h;subst h;exact .view _)|cases h
 ·injection h with h;subst h;exact .nil false _ rfl
 ·cases h
def Brc:PV→Option (List (List Ap))
 | .lst _ x=>x.g57
 | .val (.slice none 0 0)=>some []
 |_=>none
theorem Bjg{p:PV}{a:List (List Ap)}(h:Brc p=some a):PV.Le p (.lst false (.t57 a)):=by
 unfold Brc at h
 split at h
 ·rename_i o x
  cases x<;>simp only [LX.g57] at h<;>first|(injection h with h;subst h;exact .view _)|cases h
 ·injection h with h;subst h;exact .nil false _ rfl
 ·cases h
def Bb8:PV→Option (List Ak)
 | .lst _ x=>x.g60
 | .val (.slice none 0 0)=>some []
 |_=>none
theorem Ash{p:PV}{a:List Ak}(h:Bb8 p=some a):PV.Le p (.lst false (.t60 a)):=by
 unfold Bb8 at h
 split at h
 ·rename_i o x
  cases x<;>simp only [LX.g60] at h<;>first|(injection h with h;subst h;exact .view _)|cases h
 ·injection h with h;subst h;exact .nil false _ rfl
 ·cases h
def Brd:PV→Option (List Ag)
 | .lst _ x=>x.g70
 | .val (.slice none 0 0)=>some []
 |_=>none
theorem Bjh{p:PV}{a:List Ag}(h:Brd p=some a):PV.Le p (.lst false (.t70 a)):=by
 unfold Brd at h
 split at h
 ·rename_i o x
  cases x<;>simp only [LX.g70] at h<;>first|(injection h with h;subst h;exact .view _)|cases h
 ·injection h with h;subst h;exact .nil false _ rfl
 ·cases h
def Bre:PV→Option (List Int)
 | .lst _ x=>x.g75
 | .val (.slice none 0 0)=>some []
 |_=>none
theorem Bji{p:PV}{a:List Int}(h:Bre p=some a):PV.Le p (.lst false (.t75 a)):=by
 unfold Bre at h
 split at h
 ·rename_i o x
  cases x<;>simp only [LX.g75] at h<;>first|(injection h with h;subst h;exact .view _)|cases h
 ·injection h with h;subst h;exact .nil false _ rfl
 ·cases h
def Avz:PV→Option (List Ah)
 | .lst _ x=>x.g77
 | .val (.slice none 0 0)=>some []
 |_=>none
theorem Ac5{p:PV}{a:List Ah}(h:Avz p=some a):PV.Le p (.lst false (.t77 a)):=by
 unfold Avz at h
 split at h
 ·rename_i o x
  cases x<;>simp only [LX.g77] at h<;>first|(injection h with h;subst h;exact .view _)|cases h
 ·injection h with h;subst h;exact .nil false _ rfl
 ·cases h
def Arf:PV→Option (List Ab)
 | .lst _ x=>x.g94
 | .val (.slice none 0 0)=>some []
 |_=>none
theorem v5{p:PV}{a:List Ab}(h:Arf p=some a):PV.Le p (.lst false (.t94 a)):=by
 unfold Arf at h
 split at h
 ·rename_i o x
  cases x<;>simp only [LX.g94] at h<;>first|(injection h with h;subst h;exact .view _)|cases h
 ·injection h with h;subst h;exact .nil false _ rfl
 ·cases h
def Azl:PV→Option (List Ac)
 | .lst _ x=>x.g99
 | .val (.slice none 0 0)=>some []
 |_=>none
theorem Agb{p:PV}{a:List Ac}(h:Azl p=some a):PV.Le p (.lst false (.t99 a)):=by
 unfold Azl at h
 split at h
 ·rename_i o x
  cases x<;>simp only [LX.g99] at h<;>first|(injection h with h;subst h;exact .view _)|cases h
 ·injection h with h;subst h;exact .nil false _ rfl
 ·cases h
def Aw2:PV→Option (List Ai)
 | .lst _ x=>x.g145
 | .val (.slice none 0 0)=>some []
 |_=>none
theorem Amy{p:PV}{a:List Ai}(h:Aw2 p=some a):PV.Le p (.lst false (.t145 a)):=by
 unfold Aw2 at h
 split at h
 ·rename_i o x
  cases x<;>simp only [LX.g145] at h<;>first|(injection h with h;subst h;exact .view _)|cases h
 ·injection h with h;subst h;exact .nil false _ rfl
 ·cases h
def Aw3:PV→Option (List Am)
 | .lst _ x=>x.g151
 | .val (.slice none 0 0)=>some []
 |_=>none
theorem Amz{p:PV}{a:List Am}(h:Aw3 p=some a):PV.Le p (.lst false (.t151 a)):=by
 unfold Aw3 at h
 split at h
 ·rename_i o x
  cases x<;>simp only [LX.g151] at h<;>first|(injection h with h;subst h;exact .view _)|cases h
 ·injection h with h;subst h;exact .nil false _ rfl
 ·cases h
def Aw4:PV→Option (List Aq)
 | .lst _ x=>x.g155
 | .val (.slice none 0 0)=>some []
 |_=>none
theorem Am0{p:PV}{a:List Aq}(h:Aw4 p=some a):PV.Le p (.lst false (.t155 a)):=by
 unfold Aw4 at h
 split at h
 ·rename_i o x
  cases x<;>simp only [LX.g155] at h<;>first|(injection h with h;subst h;exact .view _)|cases h
 ·injection h with h;subst h;exact .nil false _ rfl
 ·cases h
def Aw5:PV→Option (List Bo)
 | .lst _ x=>x.g161
 | .val (.slice none 0 0)=>some []
 |_=>none
theorem Am1{p:PV}{a:List Bo}(h:Aw5 p=some a):PV.Le p (.lst false (.t161 a)):=by
 unfold Aw5 at h
 split at h
 ·rename_i o x
  cases x<;>simp only [LX.g161] at h<;>first|(injection h with h;subst h;exact .view _)|cases h
 ·injection h with h;subst h;exact .nil false _ rfl
 ·cases h
def A7i:PV→Option (List Be)
 | .lst _ x=>x.g167
 | .val (.slice none 0 0)=>some []
 |_=>none
theorem A1h{p:PV}{a:List Be}(h:A7i p=some a):PV.Le p (.lst false (.t167 a)):=by
 unfold A7i at h
 split at h
 ·rename_i o x
  cases x<;>simp only [LX.g167] at h<;>first|(injection h with h;subst h;exact .view _)|cases h
 ·injection h with h;subst h;exact .nil false _ rfl
 ·cases h
def Aw6:PV→Option (List A9)
 | .lst _ x=>x.g180
 | .val (.slice none 0 0)=>some []
 |_=>none
theorem Am2{p:PV}{a:List A9}(h:Aw6 p=some a):PV.Le p (.lst false (.t180 a)):=by
 unfold Aw6 at h
 split at h
 ·rename_i o x
  cases x<;>simp only [LX.g180] at h<;>first|(injection h with h;subst h;exact .view _)|cases h
 ·injection h with h;subst h;exact .nil false _ rfl
 ·cases h
def A7j:PV→Option (List Cy)
 | .lst _ x=>x.g184
 | .val (.slice none 0 0)=>some []
 |_=>none
theorem A1i{p:PV}{a:List Cy}(h:A7j p=some a):PV.Le p (.lst false (.t184 a)):=by
 unfold A7j at h
 split at h
 ·rename_i o x
  cases x<;>simp only [LX.g184] at h<;>first|(injection h with h;subst h;exact .view _)|cases h
 ·injection h with h;subst h;exact .nil false _ rfl
 ·cases h
def Akk:PV→Option (List Ap)
 | .lst _ x=>x.g190
 | .val (.slice none 0 0)=>some []
 |_=>none
theorem y5{p:PV}{a:List Ap}(h:Akk p=some a):PV.Le p (.lst false (.t190 a)):=by
 unfold Akk at h
 split at h
 ·rename_i o x
  cases x<;>simp only [LX.g190] at h<;>first|(injection h with h;subst h;exact .view _)|cases h
 ·injection h with h;subst h;exact .nil false _ rfl
 ·cases h
def Bee:PV→Option (List Aw)
 | .lst _ x=>x.g195
 | .val (.slice none 0 0)=>some []
 |_=>none
theorem Bef{p:PV}{a:List Aw}(h:Bee p=some a):PV.Le p (.lst false (.t195 a)):=by
 unfold Bee at h
 split at h
 ·rename_i o x
  cases x<;>simp only [LX.g195] at h<;>first|(injection h with h;subst h;exact .view _)|cases h
 ·injection h with h;subst h;exact .nil false _ rfl
 ·cases h
def A3c(x:Int):List PV:= [.val (.int .i64 x)]
def Bjb(r:List PV):Option Int:=match r with
 | [c0]=>match Es .i64 c0 with
  |some a0=>some a0
  |_=>none
 |_=>none
theorem A65(r:List PV)(x:Int)(h:Bjb r=some x):B2 r (A3c x):=by
 unfold Bjb at h
 split at h
 ·split at h
  ·rename_i h0
   injection h with h;subst h;exact (.cons (Bj h0) B2.nil)
  ·cases h
 ·cases h
def Bcn(x:Bool):List PV:= [.val (.bool x)]
def Bjc(r:List PV):Option Bool:=match r with
 | [c0]=>match Zt c0 with
  |some a0=>some a0
  |_=>none
 |_=>none
theorem A67(r:List PV)(x:Bool)(h:Bjc r=some x):B2 r (Bcn x):=by
 unfold Bjc at h
 split at h
 ·split at h
  ·rename_i h0
   injection h with h;subst h;exact (.cons (Lz h0) B2.nil)
  ·cases h
 ·cases h
def A3e(x:ByteArray):List PV:= [.val (.string x)]
def Bjd(r:List PV):Option ByteArray:=match r with
 | [c0]=>match Nu c0 with
  |some a0=>some a0
  |_=>none
 |_=>none
theorem A7h(r:List PV)(x:ByteArray)(h:Bjd r=some x):B2 r (A3e x):=by
 unfold Bjd at h
 split at h
 ·split at h
  ·rename_i h0
   injection h with h;subst h;exact (.cons (C0 h0) B2.nil)
  ·cases h
 ·cases h
def Axt(x:(List Int)):List PV:= [.lst false (.t3 x)]
def A64(r:List PV):Option (List Int):=match r with
 | [c0]=>match dl3 c0 with
  |some a0=>some a0
  |_=>none
 |_=>none
theorem A06(r:List PV)(x:(List Int))(h:A64 r=some x):B2 r (Axt x):=by
 unfold A64 at h
 split at h
 ·split at h
  ·rename_i h0
   injection h with h;subst h;exact (.cons (M9 h0) B2.nil)
  ·cases h
 ·cases h
def Aq0(x:Af):List PV:= [.val (.string x.Name),.lst false (.t3 x.Levels)]
def A66(r:List PV):Option Af:=match r with
 | [c0,c1]=>match Nu c0,dl3 c1 with
  |some a0,some a1=>some (Af.mk a0 a1)
  |_,_=>none
 |_=>none
theorem A07(r:List PV)(x:Af)(h:A66 r=some x):B2 r (Aq0 x):=by
 unfold A66 at h
 split at h
 ·split at h
  ·rename_i h0 h1
   injection h with h;subst h;exact (.cons (C0 h0) (.cons (M9 h1) B2.nil))
  ·cases h
 ·cases h
def Axu(x:(List ByteArray)):List PV:= [.lst false (.t9 x)]
def A68(r:List PV):Option (List ByteArray):=match r with
 | [c0]=>match dl9 c0 with
  |some a0=>some a0
  |_=>none
 |_=>none
theorem A08(r:List PV)(x:(List ByteArray))(h:A68 r=some x):B2 r (Axu x):=by
 unfold A68 at h
 split at h
 ·split at h
  ·rename_i h0
   injection h with h;subst h;exact (.cons (Ny h0) B2.nil)
  ·cases h
 ·cases h
def Aq1(x:Aa):List PV:= [.val (.string x.Name),.lst false (.t77 x.Vars),.lst false (.t145 x.Resources),.lst false (.t151 x.Stores),.lst false (.t155 x.Belts),.lst false (.t9 x.Queues),.lst false (.t9 x.Streams),.lst false (.t9 x.Tallies),.lst false (.t9 x.Levels),.lst false (.t9 x.Counts),.lst false (.t60 x.Routines),.lst false (.t161 x.Starts),.lst false (.t180 x.Laws)]
def A69(r:List PV):Option Aa:=match r with
 | [c0,c1,c2,c3,c4,c5,c6,c7,c8,c9,c10,c11,c12]=>match Nu c0,Avz c1,Aw2 c2,Aw3 c3,Aw4 c4,dl9 c5,dl9 c6,dl9 c7,dl9 c8,dl9 c9,Bb8 c10,Aw5 c11,Aw6 c12 with
  |some a0,some a1,some a2,some a3,some a4,some a5,some a6,some a7,some a8,some a9,some a10,some a11,some a12=>some (Aa.mk a0 a1 a2 a3 a4 a5 a6 a7 a8 a9 a10 a11 a12)
  |_,_,_,_,_,_,_,_,_,_,_,_,_=>none
 |_=>none
theorem A09(r:List PV)(x:Aa)(h:A69 r=some x):B2 r (Aq1 x):=by
 unfold A69 at h
 split at h
 ·split at h
  ·rename_i h0 h1 h2 h3 h4 h5 h6 h7 h8 h9 h10 h11 h12
   injection h with h;subst h;exact (.cons (C0 h0) (.cons (Ac5 h1) (.cons (Amy h2) (.cons (Amz h3) (.cons (Am0 h4) (.cons (Ny h5) (.cons (Ny h6) (.cons (Ny h7) (.cons (Ny h8) (.cons (Ny h9) (.cons (Ash h10) (.cons (Am1 h11) (.cons (Am2 h12) B2.nil)))))))))))))
  ·cases h
 ·cases h
def Axv(x:(List Ap)):List PV:= [.lst false (.t190 x)]
def A7a(r:List PV):Option (List Ap):=match r with
 | [c0]=>match Akk c0 with
  |some a0=>some a0
  |_=>none
 |_=>none
theorem A1a(r:List PV)(x:(List Ap))(h:A7a r=some x):B2 r (Axv x):=by
 unfold A7a at h
 split at h
 ·split at h
  ·rename_i h0
   injection h with h;subst h;exact (.cons (y5 h0) B2.nil)
  ·cases h
 ·cases h
def Aq2(x:Ak):List PV:= [.val (.string x.Name),.lst false (.t190 x.Params),.lst false (.t190 x.Locals),.lst false (.t99 x.Body)]
def A7b(r:List PV):Option Ak:=match r with
 | [c0,c1,c2,c3]=>match Nu c0,Akk c1,Akk c2,Azl c3 with
  |some a0,some a1,some a2,some a3=>some (Ak.mk a0 a1 a2 a3)
  |_,_,_,_=>none
 |_=>none
theorem A1b(r:List PV)(x:Ak)(h:A7b r=some x):B2 r (Aq2 x):=by
 unfold A7b at h
 split at h
 ·split at h
  ·rename_i h0 h1 h2 h3
   injection h with h;subst h;exact (.cons (C0 h0) (.cons (y5 h1) (.cons (y5 h2) (.cons (Agb h3) B2.nil))))
  ·cases h
 ·cases h
def A3d(x:Ag):List PV:= [.val (.string x.Name),.val (.int .i64 x.N)]
def A7c(r:List PV):Option Ag:=match r with
 | [c0,c1]=>match Nu c0,Es .i64 c1 with
  |some a0,some a1=>some (Ag.mk a0 a1)
  |_,_=>none
 |_=>none
theorem A1c(r:List PV)(x:Ag)(h:A7c r=some x):B2 r (A3d x):=by
 unfold A7c at h
 split at h
 ·split at h
  ·rename_i h0 h1
   injection h with h;subst h;exact (.cons (C0 h0) (.cons (Bj h1) B2.nil))
  ·cases h
 ·cases h
def Axw(x:Int):List PV:= [.val (.int .i64 x)]
def A7d(r:List PV):Option Int:=match r with
 | [c0]=>match Es .i64 c0 with
  |some a0=>some a0
  |_=>none
 |_=>none
theorem A1d(r:List PV)(x:Int)(h:A7d r=some x):B2 r (Axw x):=by
 unfold A7d at h
 split at h
 ·split at h
  ·rename_i h0
   injection h with h;subst h;exact (.cons (Bj h0) B2.nil)
  ·cases h
 ·cases h
def Aq3(x:Ah):List PV:= [.val (.string x.Name),.val (.int .i64 x.Type_),.val (.int .i64 x.N)]
def A7e(r:List PV):Option Ah:=match r with
 | [c0,c1,c2]=>match Nu c0,Es .i64 c1,Es .i64 c2 with
  |some a0,some a1,some a2=>some (Ah.mk a0 a1 a2)
  |_,_,_=>none
 |_=>none
theorem A1e(r:List PV)(x:Ah)(h:A7e r=some x):B2 r (Aq3 x):=by
 unfold A7e at h
 split at h
 ·split at h
  ·rename_i h0 h1 h2
   injection h with h;subst h;exact (.cons (C0 h0) (.cons (Bj h1) (.cons (Bj h2) B2.nil)))
  ·cases h
 ·cases h
def Aks(x:Ab):List PV:= [.val (.int .i64 x.Op),.val (.string x.Name),.val (.int .i64 x.N),.lst false (.t94 x.Kids)]
def A7f(r:List PV):Option Ab:=match r with
 | [c0,c1,c2,c3]=>match Es .i64 c0,Nu c1,Es .i64 c2,Arf c3 with
  |some a0,some a1,some a2,some a3=>some (Ab.mk a0 a1 a2 a3)
  |_,_,_,_=>none
 |_=>none
theorem A1f(r:List PV)(x:Ab)(h:A7f r=some x):B2 r (Aks x):=by
 unfold A7f at h
 split at h
 ·split at h
  ·rename_i h0 h1 h2 h3
   injection h with h;subst h;exact (.cons (Bj h0) (.cons (C0 h1) (.cons (Bj h2) (.cons (v5 h3) B2.nil))))
  ·cases h
 ·cases h
def Ahd(x:Ac):List PV:= [.val (.int .i64 x.Op),.val (.string x.Name),.val (.string x.Of),.val (.int .i64 x.E.Op),.val (.string x.E.Name),.val (.int .i64 x.E.N),.lst false (.t94 x.E.Kids),.val (.int .i64 x.F.Op),.val (.string x.F.Name),.val (.int .i64 x.F.N),.lst false (.t94 x.F.Kids),.lst false (.t94 x.Args),.val (.int .i64 x.Dist.Op),.val (.int .i64 x.Dist.A),.val (.int .i64 x.Dist.B),.val (.int .i64 x.Dist.N),.lst false (.t3 x.Dist.Values),.lst false (.t3 x.Dist.Weights),.val (.bool x.Flag),.lst false (.t99 x.Body),.lst false (.t99 x.Else)]
def A7g(r:List PV):Option Ac:=match r with
 | [c0,c1,c2,c3,c4,c5,c6,c7,c8,c9,c10,c11,c12,c13,c14,c15,c16,c17,c18,c19,c20]=>match Es .i64 c0,Nu c1,Nu c2,Es .i64 c3,Nu c4,Es .i64 c5,Arf c6,Es .i64 c7,Nu c8,Es .i64 c9,Arf c10,Arf c11,Es .i64 c12,Es .i64 c13,Es .i64 c14,Es .i64 c15,dl3 c16,dl3 c17,Zt c18,Azl c19,Azl c20 with
  |some a0,some a1,some a2,some a3,some a4,some a5,some a6,some a7,some a8,some a9,some a10,some a11,some a12,some a13,some a14,some a15,some a16,some a17,some a18,some a19,some a20=>some (Ac.mk a0 a1 a2 (Ab.mk a3 a4 a5 a6) (Ab.mk a7 a8 a9 a10) a11 (Bv.mk a12 a13 a14 a15 a16 a17) a18 a19 a20)
  |_,_,_,_,_,_,_,_,_,_,_,_,_,_,_,_,_,_,_,_,_=>none
 |_=>none
theorem A1g(r:List PV)(x:Ac)(h:A7g r=some x):B2 r (Ahd x):=by
 unfold A7g at h
 split at h
 ·split at h
  ·rename_i h0 h1 h2 h3 h4 h5 h6 h7 h8 h9 h10 h11 h12 h13 h14 h15 h16 h17 h18 h19 h20
   injection h with h;subst h;exact (.cons (Bj h0) (.cons (C0 h1) (.cons (C0 h2) (.cons (Bj h3) (.cons (C0 h4) (.cons (Bj h5) (.cons (v5 h6) (.cons (Bj h7) (.cons (C0 h8) (.cons (Bj h9) (.cons (v5 h10) (.cons (v5 h11) (.cons (Bj h12) (.cons (Bj h13) (.cons (Bj h14) (.cons (Bj h15) (.cons (M9 h16) (.cons (M9 h17) (.cons (Lz h18) (.cons (Agb h19) (.cons (Agb h20) B2.nil)))))))))))))))))))))
  ·cases h
 ·cases h
def Ai6(x:Ai):List PV:= [.val (.string x.Name),.val (.int .i64 x.Units),.lst false (.t184 x.Shift),.val (.int .i64 x.Cycle),.val (.string x.Fault.Stream),.val (.int .i64 x.Fault.Up.Op),.val (.int .i64 x.Fault.Up.A),.val (.int .i64 x.Fault.Up.B),.val (.int .i64 x.Fault.Up.N),.lst false (.t3 x.Fault.Up.Values),.lst false (.t3 x.Fault.Up.Weights),.val (.int .i64 x.Fault.Down.Op),.val (.int .i64 x.Fault.Down.A),.val (.int .i64 x.Fault.Down.B),.val (.int .i64 x.Fault.Down.N),.lst false (.t3 x.Fault.Down.Values),.lst false (.t3 x.Fault.Down.Weights)]
def Ay8(r:List PV):Option Ai:=match r with
 | [c0,c1,c2,c3,c4,c5,c6,c7,c8,c9,c10,c11,c12,c13,c14,c15,c16]=>match Nu c0,Es .i64 c1,A7j c2,Es .i64 c3,Nu c4,Es .i64 c5,Es .i64 c6,Es .i64 c7,Es .i64 c8,dl3 c9,dl3 c10,Es .i64 c11,Es .i64 c12,Es .i64 c13,Es .i64 c14,dl3 c15,dl3 c16 with
  |some a0,some a1,some a2,some a3,some a4,some a5,some a6,some a7,some a8,some a9,some a10,some a11,some a12,some a13,some a14,some a15,some a16=>some (Ai.mk a0 a1 a2 a3 (Gf.mk a4 (Bv.mk a5 a6 a7 a8 a9 a10) (Bv.mk a11 a12 a13 a14 a15 a16)))
  |_,_,_,_,_,_,_,_,_,_,_,_,_,_,_,_,_=>none
 |_=>none
theorem Awp(r:List PV)(x:Ai)(h:Ay8 r=some x):B2 r (Ai6 x):=by
 unfold Ay8 at h
 split at h
 ·split at h
  ·rename_i h0 h1 h2 h3 h4 h5 h6 h7 h8 h9 h10 h11 h12 h13 h14 h15 h16
   injection h with h;subst h;exact (.cons (C0 h0) (.cons (Bj h1) (.cons (A1i h2) (.cons (Bj h3) (.cons (C0 h4) (.cons (Bj h5) (.cons (Bj h6) (.cons (Bj h7) (.cons (Bj h8) (.cons (M9 h9) (.cons (M9 h10) (.cons (Bj h11) (.cons (Bj h12) (.cons (Bj h13) (.cons (Bj h14) (.cons (M9 h15) (.cons (M9 h16) B2.nil)))))))))))))))))
  ·cases h
 ·cases h
def Ai7(x:Am):List PV:= [.val (.string x.Name),.val (.int .i64 x.Room),.val (.int .i64 x.Policy)]
def Ay9(r:List PV):Option Am:=match r with
 | [c0,c1,c2]=>match Nu c0,Es .i64 c1,Es .i64 c2 with
  |some a0,some a1,some a2=>some (Am.mk a0 a1 a2)
  |_,_,_=>none
 |_=>none
theorem Awq(r:List PV)(x:Am)(h:Ay9 r=some x):B2 r (Ai7 x):=by
 unfold Ay9 at h
 split at h
 ·split at h
  ·rename_i h0 h1 h2
   injection h with h;subst h;exact (.cons (C0 h0) (.cons (Bj h1) (.cons (Bj h2) B2.nil)))
  ·cases h
 ·cases h
def Ai8(x:Aq):List PV:= [.val (.string x.Name),.val (.int .i64 x.Length),.val (.int .i64 x.Step)]
def Aza(r:List PV):Option Aq:=match r with
 | [c0,c1,c2]=>match Nu c0,Es .i64 c1,Es .i64 c2 with
  |some a0,some a1,some a2=>some (Aq.mk a0 a1 a2)
  |_,_,_=>none
 |_=>none
theorem Awr(r:List PV)(x:Aq)(h:Aza r=some x):B2 r (Ai8 x):=by
 unfold Aza at h
 split at h
 ·split at h
  ·rename_i h0 h1 h2
   injection h with h;subst h;exact (.cons (C0 h0) (.cons (Bj h1) (.cons (Bj h2) B2.nil)))
  ·cases h
 ·cases h
def Ai9(x:Bo):List PV:= [.val (.string x.Routine),.lst false (.t3 x.Args),.val (.int .i64 x.At),.val (.int .i64 x.Every),.val (.int .i64 x.Until)]
def Azb(r:List PV):Option Bo:=match r with
 | [c0,c1,c2,c3,c4]=>match Nu c0,dl3 c1,Es .i64 c2,Es .i64 c3,Es .i64 c4 with
  |some a0,some a1,some a2,some a3,some a4=>some (Bo.mk a0 a1 a2 a3 a4)
  |_,_,_,_,_=>none
 |_=>none
theorem Aws(r:List PV)(x:Bo)(h:Azb r=some x):B2 r (Ai9 x):=by
 unfold Azb at h
 split at h
 ·split at h
  ·rename_i h0 h1 h2 h3 h4
   injection h with h;subst h;exact (.cons (C0 h0) (.cons (M9 h1) (.cons (Bj h2) (.cons (Bj h3) (.cons (Bj h4) B2.nil)))))
  ·cases h
 ·cases h
def Aja(x:Be):List PV:= [.val (.string x.From),.val (.string x.To),.val (.int .i64 x.Delay)]
def Azc(r:List PV):Option Be:=match r with
 | [c0,c1,c2]=>match Nu c0,Nu c1,Es .i64 c2 with
  |some a0,some a1,some a2=>some (Be.mk a0 a1 a2)
  |_,_,_=>none
 |_=>none
theorem Awt(r:List PV)(x:Be)(h:Azc r=some x):B2 r (Aja x):=by
 unfold Azc at h
 split at h
 ·split at h
  ·rename_i h0 h1 h2
   injection h with h;subst h;exact (.cons (C0 h0) (.cons (C0 h1) (.cons (Bj h2) B2.nil)))
  ·cases h
 ·cases h
def Auz(x:Bk):List PV:= [.val (.string x.a0),.val (.string x.a1)]
def Azd(r:List PV):Option Bk:=match r with
 | [c0,c1]=>match Nu c0,Nu c1 with
  |some a0,some a1=>some (Bk.mk a0 a1)
  |_,_=>none
 |_=>none
theorem Awu(r:List PV)(x:Bk)(h:Azd r=some x):B2 r (Auz x):=by
 unfold Azd at h
 split at h
 ·split at h
  ·rename_i h0 h1
   injection h with h;subst h;exact (.cons (C0 h0) (.cons (C0 h1) B2.nil))
  ·cases h
 ·cases h
def Ajb(x:A9):List PV:= [.val (.string x.Name),.lst false (.t195 x.Terms),.val (.int .i64 x.Total)]
def Aze(r:List PV):Option A9:=match r with
 | [c0,c1,c2]=>match Nu c0,Bee c1,Es .i64 c2 with
  |some a0,some a1,some a2=>some (A9.mk a0 a1 a2)
  |_,_,_=>none
 |_=>none
theorem Awv(r:List PV)(x:A9)(h:Aze r=some x):B2 r (Ajb x):=by
 unfold Aze at h
 split at h
 ·split at h
  ·rename_i h0 h1 h2
   injection h with h;subst h;exact (.cons (C0 h0) (.cons (Bef h1) (.cons (Bj h2) B2.nil)))
  ·cases h
 ·cases h
def Ajc(x:Cy):List PV:= [.val (.int .i64 x.At),.val (.int .i64 x.Units)]
def Azf(r:List PV):Option Cy:=match r with
 | [c0,c1]=>match Es .i64 c0,Es .i64 c1 with
  |some a0,some a1=>some (Cy.mk a0 a1)
  |_,_=>none
 |_=>none
theorem Aww(r:List PV)(x:Cy)(h:Azf r=some x):B2 r (Ajc x):=by
 unfold Azf at h
 split at h
 ·split at h
  ·rename_i h0 h1
   injection h with h;subst h;exact (.cons (Bj h0) (.cons (Bj h1) B2.nil))
  ·cases h
 ·cases h
def Ajd(x:Ap):List PV:= [.val (.string x.Name),.val (.int .i64 x.Type_)]
def Azg(r:List PV):Option Ap:=match r with
 | [c0,c1]=>match Nu c0,Es .i64 c1 with
  |some a0,some a1=>some (Ap.mk a0 a1)
  |_,_=>none
 |_=>none
theorem Awx(r:List PV)(x:Ap)(h:Azg r=some x):B2 r (Ajd x):=by
 unfold Azg at h
 split at h
 ·split at h
  ·rename_i h0 h1
   injection h with h;subst h;exact (.cons (C0 h0) (.cons (Bj h1) B2.nil))
  ·cases h
 ·cases h
def Aje(x:Aw):List PV:= [.val (.int .i64 x.Coef),.val (.string x.What),.val (.string x.Name)]
def Azh(r:List PV):Option Aw:=match r with
 | [c0,c1,c2]=>match Es .i64 c0,Nu c1,Nu c2 with
  |some a0,some a1,some a2=>some (Aw.mk a0 a1 a2)
  |_,_,_=>none
 |_=>none
theorem Awy(r:List PV)(x:Aw)(h:Azh r=some x):B2 r (Aje x):=by
 unfold Azh at h
 split at h
 ·split at h
  ·rename_i h0 h1 h2
   injection h with h;subst h;exact (.cons (Bj h0) (.cons (C0 h1) (.cons (C0 h2) B2.nil)))
  ·cases h
 ·cases h
def Au0(x:E6):List PV:= [.val (.bool x.u_is),.val (.string x.u_name)]
def Azi(r:List PV):Option E6:=match r with
 | [c0,c1]=>match Zt c0,Nu c1 with
  |some a0,some a1=>some (E6.mk a0 a1)
  |_,_=>none
 |_=>none
theorem Awz(r:List PV)(x:E6)(h:Azi r=some x):B2 r (Au0 x):=by
 unfold Azi at h
 split at h
 ·split at h
  ·rename_i h0 h1
   injection h with h;subst h;exact (.cons (Lz h0) (.cons (C0 h1) B2.nil))
  ·cases h
 ·cases h
def Au1(x:Mk):List PV:= [.val (.bool x.u_is),.val (.int .i64 x.u_e.Op),.val (.string x.u_e.Name),.val (.int .i64 x.u_e.N),.lst false (.t94 x.u_e.Kids)]
def Azj(r:List PV):Option Mk:=match r with
 | [c0,c1,c2,c3,c4]=>match Zt c0,Es .i64 c1,Nu c2,Es .i64 c3,Arf c4 with
  |some a0,some a1,some a2,some a3,some a4=>some (Mk.mk a0 (Ab.mk a1 a2 a3 a4))
  |_,_,_,_,_=>none
 |_=>none
theorem Aw0(r:List PV)(x:Mk)(h:Azj r=some x):B2 r (Au1 x):=by
 unfold Azj at h
 split at h
 ·split at h
  ·rename_i h0 h1 h2 h3 h4
   injection h with h;subst h;exact (.cons (Lz h0) (.cons (Bj h1) (.cons (C0 h2) (.cons (Bj h3) (.cons (v5 h4) B2.nil)))))
  ·cases h
 ·cases h
def LX.row(x:LX)(i:Nat):List PV:=match x with
 | .t3 l=>A3c (l.getD i default)
 | .t4 l=>Bcn (l.getD i default)
 | .t9 l=>A3e (l.getD i default)
 | .t35 l=>Axt (l.getD i default)
 | .t46 l=>Aq0 (l.getD i default)
 | .t50 l=>Axu (l.getD i default)
 | .t55 l=>Aq1 (l.getD i default)
 | .t57 l=>Axv (l.getD i default)
 | .t60 l=>Aq2 (l.getD i default)
 | .t70 l=>A3d (l.getD i default)
 | .t75 l=>Axw (l.getD i default)
 | .t77 l=>Aq3 (l.getD i default)
 | .t94 l=>Aks (l.getD i default)
 | .t99 l=>Ahd (l.getD i default)
 | .t145 l=>Ai6 (l.getD i default)
 | .t151 l=>Ai7 (l.getD i default)
 | .t155 l=>Ai8 (l.getD i default)
 | .t161 l=>Ai9 (l.getD i default)
 | .t167 l=>Aja (l.getD i default)
 | .t168 l=>Auz (l.getD i default)
 | .t180 l=>Ajb (l.getD i default)
 | .t184 l=>Ajc (l.getD i default)
 | .t190 l=>Ajd (l.getD i default)
 | .t195 l=>Aje (l.getD i default)
 | .t229 l=>Au0 (l.getD i default)
 | .t231 l=>Au1 (l.getD i default)
def LX.lit(e:Nat)(rs:List (List PV)):Option LX:=match Nat.beq e 3 with
 |true=>Kh .t3 (Wa Bjb rs)
 |false=>match Nat.beq e 4 with
 |true=>Kh .t4 (Wa Bjc rs)
 |false=>match Nat.beq e 9 with
 |true=>Kh .t9 (Wa Bjd rs)
 |false=>match Nat.beq e 35 with
 |true=>Kh .t35 (Wa A64 rs)
 |false=>match Nat.beq e 46 with
 |true=>Kh .t46 (Wa A66 rs)
 |false=>match Nat.beq e 50 with
 |true=>Kh .t50 (Wa A68 rs)
 |false=>match Nat.beq e 55 with
 |true=>Kh .t55 (Wa A69 rs)
 |false=>match Nat.beq e 57 with
 |true=>Kh .t57 (Wa A7a rs)
 |false=>match Nat.beq e 60 with
 |true=>Kh .t60 (Wa A7b rs)
 |false=>match Nat.beq e 70 with
 |true=>Kh .t70 (Wa A7c rs)
 |false=>match Nat.beq e 75 with
 |true=>Kh .t75 (Wa A7d rs)
 |false=>match Nat.beq e 77 with
 |true=>Kh .t77 (Wa A7e rs)
 |false=>match Nat.beq e 94 with
 |true=>Kh .t94 (Wa A7f rs)
 |false=>match Nat.beq e 99 with
 |true=>Kh .t99 (Wa A7g rs)
 |false=>match Nat.beq e 145 with
 |true=>Kh .t145 (Wa Ay8 rs)
 |false=>match Nat.beq e 151 with
 |true=>Kh .t151 (Wa Ay9 rs)
 |false=>match Nat.beq e 155 with
 |true=>Kh .t155 (Wa Aza rs)
 |false=>match Nat.beq e 161 with
 |true=>Kh .t161 (Wa Azb rs)
 |false=>match Nat.beq e 167 with
 |true=>Kh .t167 (Wa Azc rs)
 |false=>match Nat.beq e 168 with
 |true=>Kh .t168 (Wa Azd rs)
 |false=>match Nat.beq e 180 with
 |true=>Kh .t180 (Wa Aze rs)
 |false=>match Nat.beq e 184 with
 |true=>Kh .t184 (Wa Azf rs)
 |false=>match Nat.beq e 190 with
 |true=>Kh .t190 (Wa Azg rs)
 |false=>match Nat.beq e 195 with
 |true=>Kh .t195 (Wa Azh rs)
 |false=>match Nat.beq e 229 with
 |true=>Kh .t229 (Wa Azi rs)
 |false=>match Nat.beq e 231 with
 |true=>Kh .t231 (Wa Azj rs)
 |false=>none
def LX.set(x:LX)(i off:Nat)(c:List PV):Option LX:=match x with
 | .t3 l=>Zo (Hx (A3c (l.getD i default)) (off+c.length)) (fun a=> .t3 (l.set i a)) (Bjb (F8 (A3c (l.getD i default)) off c))
 | .t4 l=>Zo (Hx (Bcn (l.getD i default)) (off+c.length)) (fun a=> .t4 (l.set i a)) (Bjc (F8 (Bcn (l.getD i default)) off c))
 | .t9 l=>Zo (Hx (A3e (l.getD i default)) (off+c.length)) (fun a=> .t9 (l.set i a)) (Bjd (F8 (A3e (l.getD i default)) off c))
 | .t35 l=>Zo (Hx (Axt (l.getD i default)) (off+c.length)) (fun a=> .t35 (l.set i a)) (A64 (F8 (Axt (l.getD i default)) off c))
 | .t46 l=>Zo (Hx (Aq0 (l.getD i default)) (off+c.length)) (fun a=> .t46 (l.set i a)) (A66 (F8 (Aq0 (l.getD i default)) off c))
 | .t50 l=>Zo (Hx (Axu (l.getD i default)) (off+c.length)) (fun a=> .t50 (l.set i a)) (A68 (F8 (Axu (l.getD i default)) off c))
 | .t55 l=>Zo (Hx (Aq1 (l.getD i default)) (off+c.length)) (fun a=> .t55 (l.set i a)) (A69 (F8 (Aq1 (l.getD i default)) off c))
 | .t57 l=>Zo (Hx (Axv (l.getD i default)) (off+c.length)) (fun a=> .t57 (l.set i a)) (A7a (F8 (Axv (l.getD i default)) off c))
 | .t60 l=>Zo (Hx (Aq2 (l.getD i default)) (off+c.length)) (fun a=> .t60 (l.set i a)) (A7b (F8 (Aq2 (l.getD i default)) off c))
 | .t70 l=>Zo (Hx (A3d (l.getD i default)) (off+c.length)) (fun a=> .t70 (l.set i a)) (A7c (F8 (A3d (l.getD i default)) off c))
 | .t75 l=>Zo (Hx (Axw (l.getD i default)) (off+c.length)) (fun a=> .t75 (l.set i a)) (A7d (F8 (Axw (l.getD i default)) off c))
 | .t77 l=>Zo (Hx (Aq3 (l.getD i default)) (off+c.length)) (fun a=> .t77 (l.set i a)) (A7e (F8 (Aq3 (l.getD i default)) off c))
 | .t94 l=>Zo (Hx (Aks (l.getD i default)) (off+c.length)) (fun a=> .t94 (l.set i a)) (A7f (F8 (Aks (l.getD i default)) off c))
 | .t99 l=>Zo (Hx (Ahd (l.getD i default)) (off+c.length)) (fun a=> .t99 (l.set i a)) (A7g (F8 (Ahd (l.getD i default)) off c))
 | .t145 l=>Zo (Hx (Ai6 (l.getD i default)) (off+c.length)) (fun a=> .t145 (l.set i a)) (Ay8 (F8 (Ai6 (l.getD i default)) off c))
 | .t151 l=>Zo (Hx (Ai7 (l.getD i default)) (off+c.length)) (fun a=> .t151 (l.set i a)) (Ay9 (F8 (Ai7 (l.getD i default)) off c))
 | .t155 l=>Zo (Hx (Ai8 (l.getD i default)) (off+c.length)) (fun a=> .t155 (l.set i a)) (Aza (F8 (Ai8 (l.getD i default)) off c))
 | .t161 l=>Zo (Hx (Ai9 (l.getD i default)) (off+c.length)) (fun a=> .t161 (l.set i a)) (Azb (F8 (Ai9 (l.getD i default)) off c))
 | .t167 l=>Zo (Hx (Aja (l.getD i default)) (off+c.length)) (fun a=> .t167 (l.set i a)) (Azc (F8 (Aja (l.getD i default)) off c))
 | .t168 l=>Zo (Hx (Auz (l.getD i default)) (off+c.length)) (fun a=> .t168 (l.set i a)) (Azd (F8 (Auz (l.getD i default)) off c))
 | .t180 l=>Zo (Hx (Ajb (l.getD i default)) (off+c.length)) (fun a=> .t180 (l.set i a)) (Aze (F8 (Ajb (l.getD i default)) off c))
 | .t184 l=>Zo (Hx (Ajc (l.getD i default)) (off+c.length)) (fun a=> .t184 (l.set i a)) (Azf (F8 (Ajc (l.getD i default)) off c))
 | .t190 l=>Zo (Hx (Ajd (l.getD i default)) (off+c.length)) (fun a=> .t190 (l.set i a)) (Azg (F8 (Ajd (l.getD i default)) off c))
 | .t195 l=>Zo (Hx (Aje (l.getD i default)) (off+c.length)) (fun a=> .t195 (l.set i a)) (Azh (F8 (Aje (l.getD i default)) off c))
 | .t229 l=>Zo (Hx (Au0 (l.getD i default)) (off+c.length)) (fun a=> .t229 (l.set i a)) (Azi (F8 (Au0 (l.getD i default)) off c))
 | .t231 l=>Zo (Hx (Au1 (l.getD i default)) (off+c.length)) (fun a=> .t231 (l.set i a)) (Azj (F8 (Au1 (l.getD i default)) off c))
def LX.find(x:LX)(c:List PV):Option (Option Nat):=match x,c with
 | .t3 l,[.val (.int k0 a0)]=>match decide (k0= .i64) with
  |true=>some (l.findIdx? fun b=>a0 == b)
  |_=>none
 | .t4 l,[.val (.bool a0)]=>some (l.findIdx? fun b=>a0 == b)
 | .t9 l,[.val (.string a0)]=>some (l.findIdx? fun b=>a0 == b)
 | .t75 l,[.val (.int k0 a0)]=>match decide (k0= .i64) with
  |true=>some (l.findIdx? fun b=>a0 == b)
  |_=>none
 | .t168 l,[.val (.string a0),.val (.string a1)]=>some (l.findIdx? fun b=>(a0 == b.a0 && (a1 == b.a1)))
 |_,_=>none
def LX.push(x:LX)(c:List PV):Option LX:=match LX.lit x.e [c] with
 |some y=>x.cat y
 |none=>none
theorem LX.row_len(x:LX)(i:Nat):(x.row i).length=x.sz:=by cases x<;>rfl
theorem LX.row_flat(x:LX)(i:Nat):∀p∈x.row i,p.flat=true:=Axd _ (by cases x<;>rfl)
theorem LX.nil_spec(e:Nat)(x:LX)(h:LX.nil e=some x):x.e=e∧x.len=0:=by
 unfold LX.nil at h
 cases b3:Nat.beq e 3
 case true=>simp only [b3] at h;injection h with h;subst h;exact ⟨(Nat.eq_of_beq_eq_true b3).symm,rfl⟩
 simp only [b3] at h
 cases b4:Nat.beq e 4
 case true=>simp only [b4] at h;injection h with h;subst h;exact ⟨(Nat.eq_of_beq_eq_true b4).symm,rfl⟩
 simp only [b4] at h
 cases b9:Nat.beq e 9
 case true=>simp only [b9] at h;injection h with h;subst h;exact ⟨(Nat.eq_of_beq_eq_true b9).symm,rfl⟩
 simp only [b9] at h
 cases b35:Nat.beq e 35
 case true=>simp only [b35] at h;injection h with h;subst h;exact ⟨(Nat.eq_of_beq_eq_true b35).symm,rfl⟩
 simp only [b35] at h
 cases b46:Nat.beq e 46
 case true=>simp only [b46] at h;injection h with h;subst h;exact ⟨(Nat.eq_of_beq_eq_true b46).symm,rfl⟩
 simp only [b46] at h
 cases b50:Nat.beq e 50
 case true=>simp only [b50] at h;injection h with h;subst h;exact ⟨(Nat.eq_of_beq_eq_true b50).symm,rfl⟩
 simp only [b50] at h
 cases b55:Nat.beq e 55
 case true=>simp only [b55] at h;injection h with h;subst h;exact ⟨(Nat.eq_of_beq_eq_true b55).symm,rfl⟩
 simp only [b55] at h
 cases b57:Nat.beq e 57
 case true=>simp only [b57] at h;injection h with h;subst h;exact ⟨(Nat.eq_of_beq_eq_true b57).symm,rfl⟩
 simp only [b57] at h
 cases b60:Nat.beq e 60
 case true=>simp only [b60] at h;injection h with h;subst h;exact ⟨(Nat.eq_of_beq_eq_true b60).symm,rfl⟩
 simp only [b60] at h
 cases b70:Nat.beq e 70
 case true=>simp only [b70] at h;injection h with h;subst h;exact ⟨(Nat.eq_of_beq_eq_true b70).symm,rfl⟩
 simp only [b70] at h
 cases b75:Nat.beq e 75
 case true=>simp only [b75] at h;injection h with h;subst h;exact ⟨(Nat.eq_of_beq_eq_true b75).symm,rfl⟩
 simp only [b75] at h
 cases b77:Nat.beq e 77
 case true=>simp only [b77] at h;injection h with h;subst h;exact ⟨(Nat.eq_of_beq_eq_true b77).symm,rfl⟩
 simp only [b77] at h
 cases b94:Nat.beq e 94
 case true=>simp only [b94] at h;injection h with h;subst h;exact ⟨(Nat.eq_of_beq_eq_true b94).symm,rfl⟩
 simp only [b94] at h
 cases b99:Nat.beq e 99
 case true=>simp only [b99] at h;injection h with h;subst h;exact ⟨(Nat.eq_of_beq_eq_true b99).symm,rfl⟩
 simp only [b99] at h
 cases b145:Nat.beq e 145
 case true=>simp only [b145] at h;injection h with h;subst h;exact ⟨(Nat.eq_of_beq_eq_true b145).symm,rfl⟩
 simp only [b145] at h
 cases b151:Nat.beq e 151
 case true=>simp only [b151] at h;injection h with h;subst h;exact ⟨(Nat.eq_of_beq_eq_true b151).symm,rfl⟩
 simp only [b151] at h
 cases b155:Nat.beq e 155
 case true=>simp only [b155] at h;injection h with h;subst h;exact ⟨(Nat.eq_of_beq_eq_true b155).symm,rfl⟩
 simp only [b155] at h
 cases b161:Nat.beq e 161
 case true=>simp only [b161] at h;injection h with h;subst h;exact ⟨(Nat.eq_of_beq_eq_true b161).symm,rfl⟩
 simp only [b161] at h
 cases b167:Nat.beq e 167
 case true=>simp only [b167] at h;injection h with h;subst h;exact ⟨(Nat.eq_of_beq_eq_true b167).symm,rfl⟩
 simp only [b167] at h
 cases b168:Nat.beq e 168
 case true=>simp only [b168] at h;injection h with h;subst h;exact ⟨(Nat.eq_of_beq_eq_true b168).symm,rfl⟩
 simp only [b168] at h
 cases b180:Nat.beq e 180
 case true=>simp only [b180] at h;injection h with h;subst h;exact ⟨(Nat.eq_of_beq_eq_true b180).symm,rfl⟩
 simp only [b180] at h
 cases b184:Nat.beq e 184
 case true=>simp only [b184] at h;injection h with h;subst h;exact ⟨(Nat.eq_of_beq_eq_true b184).symm,rfl⟩
 simp only [b184] at h
 cases b190:Nat.beq e 190
 case true=>simp only [b190] at h;injection h with h;subst h;exact ⟨(Nat.eq_of_beq_eq_true b190).symm,rfl⟩
 simp only [b190] at h
 cases b195:Nat.beq e 195
 case true=>simp only [b195] at h;injection h with h;subst h;exact ⟨(Nat.eq_of_beq_eq_true b195).symm,rfl⟩
 simp only [b195] at h
 cases b229:Nat.beq e 229
 case true=>simp only [b229] at h;injection h with h;subst h;exact ⟨(Nat.eq_of_beq_eq_true b229).symm,rfl⟩
 simp only [b229] at h
 cases b231:Nat.beq e 231
 case true=>simp only [b231] at h;injection h with h;subst h;exact ⟨(Nat.eq_of_beq_eq_true b231).symm,rfl⟩
 simp only [b231] at h
 cases h
theorem A4v{α :Type} [Inhabited α](l m:List α)(i:Nat)(h:i < l.length):(l++m).getD i default=l.getD i default:=by
 simp [List.getD,List.getElem?_append_left h]
theorem A4w{α :Type} [Inhabited α](l m:List α)(i:Nat):(l++m).getD (l.length+i) default=m.getD i default:=by
 simp [List.getD,List.getElem?_append_right]
theorem Ber{α :Type} [Inhabited α](l:List α)(a b i:Nat)(h1:b≤l.length)(h2:i < b - a):((l.take b).drop a).getD i default=l.getD (a+i) default:=by
 simp only [List.getD_eq_getElem?_getD,List.getElem?_drop,List.getElem?_take]
 rw [if_pos (by omega)]
theorem Beq{α :Type} [Inhabited α](n i:Nat)(a: α)(h:i < n):(List.replicate n a).getD i default=a:=by
 simp [List.getD_eq_getElem?_getD,List.getElem?_replicate,h]
theorem A1y{α :Type} [Inhabited α](l:List α)(i:Nat)(a: α)(h:i < l.length):(l.set i a).getD i default=a:=by
 simp [List.getD_eq_getElem?_getD,h]
theorem A1z{α :Type} [Inhabited α](l:List α)(i j:Nat)(a: α)(h:j≠i):(l.set i a).getD j default=l.getD j default:=by
 simp [List.getD_eq_getElem?_getD,List.getElem?_set_ne (fun e=>h e.symm)]
theorem Hm{α :Type} [Inhabited α](l:List α)(i:Nat)(h:i < l.length):l.getD i default=l[i]:=by
 simp [List.getD_eq_getElem?_getD,h]
theorem LX.g3_eq(y:LX)(m:List Int)(h:y.g3=some m):y= .t3 m:=by cases y<;>simp only [LX.g3] at h<;>first|(injection h with h;subst h;rfl)|cases h
theorem LX.g4_eq(y:LX)(m:List Bool)(h:y.g4=some m):y= .t4 m:=by cases y<;>simp only [LX.g4] at h<;>first|(injection h with h;subst h;rfl)|cases h
theorem LX.g9_eq(y:LX)(m:List ByteArray)(h:y.g9=some m):y= .t9 m:=by cases y<;>simp only [LX.g9] at h<;>first|(injection h with h;subst h;rfl)|cases h
theorem LX.g35_eq(y:LX)(m:List (List Int))(h:y.g35=some m):y= .t35 m:=by cases y<;>simp only [LX.g35] at h<;>first|(injection h with h;subst h;rfl)|cases h
theorem LX.g46_eq(y:LX)(m:List Af)(h:y.g46=some m):y= .t46 m:=by cases y<;>simp only [LX.g46] at h<;>first|(injection h with h;subst h;rfl)|cases h
theorem LX.g50_eq(y:LX)(m:List (List ByteArray))(h:y.g50=some m):y= .t50 m:=by cases y<;>simp only [LX.g50] at h<;>first|(injection h with h;subst h;rfl)|cases h
theorem LX.g55_eq(y:LX)(m:List Aa)(h:y.g55=some m):y= .t55 m:=by cases y<;>simp only [LX.g55] at h<;>first|(injection h with h;subst h;rfl)|cases h
theorem LX.g57_eq(y:LX)(m:List (List Ap))(h:y.g57=some m):y= .t57 m:=by cases y<;>simp only [LX.g57] at h<;>first|(injection h with h;subst h;rfl)|cases h
theorem LX.g60_eq(y:LX)(m:List Ak)(h:y.g60=some m):y= .t60 m:=by cases y<;>simp only [LX.g60] at h<;>first|(injection h with h;subst h;rfl)|cases h
theorem LX.g70_eq(y:LX)(m:List Ag)(h:y.g70=some m):y= .t70 m:=by cases y<;>simp only [LX.g70] at h<;>first|(injection h with h;subst h;rfl)|cases h
theorem LX.g75_eq(y:LX)(m:List Int)(h:y.g75=some m):y= .t75 m:=by cases y<;>simp only [LX.g75] at h<;>first|(injection h with h;subst h;rfl)|cases h
theorem LX.g77_eq(y:LX)(m:List Ah)(h:y.g77=some m):y= .t77 m:=by cases y<;>simp only [LX.g77] at h<;>first|(injection h with h;subst h;rfl)|cases h
theorem LX.g94_eq(y:LX)(m:List Ab)(h:y.g94=some m):y= .t94 m:=by cases y<;>simp only [LX.g94] at h<;>first|(injection h with h;subst h;rfl)|cases h
theorem LX.g99_eq(y:LX)(m:List Ac)(h:y.g99=some m):y= .t99 m:=by cases y<;>simp only [LX.g99] at h<;>first|(injection h with h;subst h;rfl)|cases h
theorem LX.g145_eq(y:LX)(m:List Ai)(h:y.g145=some m):y= .t145 m:=by cases y<;>simp only [LX.g145] at h<;>first|(injection h with h;subst h;rfl)|cases h
theorem LX.g151_eq(y:LX)(m:List Am)(h:y.g151=some m):y= .t151 m:=by cases y<;>simp only [LX.g151] at h<;>first|(injection h with h;subst h;rfl)|cases h
theorem LX.g155_eq(y:LX)(m:List Aq)(h:y.g155=some m):y= .t155 m:=by cases y<;>simp only [LX.g155] at h<;>first|(injection h with h;subst h;rfl)|cases h
theorem LX.g161_eq(y:LX)(m:List Bo)(h:y.g161=some m):y= .t161 m:=by cases y<;>simp only [LX.g161] at h<;>first|(injection h with h;subst h;rfl)|cases h
theorem LX.g167_eq(y:LX)(m:List Be)(h:y.g167=some m):y= .t167 m:=by cases y<;>simp only [LX.g167] at h<;>first|(injection h with h;subst h;rfl)|cases h
theorem LX.g168_eq(y:LX)(m:List Bk)(h:y.g168=some m):y= .t168 m:=by cases y<;>simp only [LX.g168] at h<;>first|(injection h with h;subst h;rfl)|cases h
theorem LX.g180_eq(y:LX)(m:List A9)(h:y.g180=some m):y= .t180 m:=by cases y<;>simp only [LX.g180] at h<;>first|(injection h with h;subst h;rfl)|cases h
theorem LX.g184_eq(y:LX)(m:List Cy)(h:y.g184=some m):y= .t184 m:=by cases y<;>simp only [LX.g184] at h<;>first|(injection h with h;subst h;rfl)|cases h
theorem LX.g190_eq(y:LX)(m:List Ap)(h:y.g190=some m):y= .t190 m:=by cases y<;>simp only [LX.g190] at h<;>first|(injection h with h;subst h;rfl)|cases h
theorem LX.g195_eq(y:LX)(m:List Aw)(h:y.g195=some m):y= .t195 m:=by cases y<;>simp only [LX.g195] at h<;>first|(injection h with h;subst h;rfl)|cases h
theorem LX.g229_eq(y:LX)(m:List E6)(h:y.g229=some m):y= .t229 m:=by cases y<;>simp only [LX.g229] at h<;>first|(injection h with h;subst h;rfl)|cases h
theorem LX.g231_eq(y:LX)(m:List Mk)(h:y.g231=some m):y= .t231 m:=by cases y<;>simp only [LX.g231] at h<;>first|(injection h with h;subst h;rfl)|cases h
structure KOK {α :Type} [Inhabited α] (K:List α→LX) (row: α→List PV) (e sz:Nat):Prop where
 e:∀l,(K l).e=e
 sz:∀l,(K l).sz=sz
 len:∀l,(K l).len=l.length
 row:∀l i,(K l).row i=row (l.getD i default)
section
variable {α :Type} [Inhabited α] {K:List α→LX} {row: α→List PV} {e0 sz:Nat}
theorem y8(k:KOK K row e0 sz){d:List PV→Option α}(hd:∀r a,d r=some a→B2 r (row a)){e:Nat}(hb:Nat.beq e e0=true){rs:List (List PV)}{x:LX}(h:Kh K (Wa d rs)=some x):x.e=e∧x.len=rs.length∧∀(i:Nat) (r:List PV),rs[i]? =some r→B2 r (x.row i):=by
 unfold Kh at h
 cases hl:Wa d rs with
 |none=>rw [hl] at h;cases h
 |some l=>
  rw [hl] at h
  injection h with h;subst h
  obtain ⟨q1,q2⟩:=Aw1 hd rs l hl
  exact ⟨by rw [k.e];exact (Nat.eq_of_beq_eq_true hb).symm,by rw [k.len];exact q1,fun i r hr=>by rw [k.row];exact q2 i r hr⟩
theorem x0(k:KOK K row e0 sz){y z:LX}{l:List α}{g:Option (List α)}(hg:∀m,g=some m→y=K m)(h:Kh (fun m=>K (l++m)) g=some z):y.e=(K l).e∧z.e=(K l).e∧y.sz=(K l).sz∧z.sz=(K l).sz∧z.len=(K l).len+y.len∧(∀i,i < (K l).len→z.row i=(K l).row i)∧(∀i,z.row ((K l).len+i)=y.row i):=by
 cases g with
 |none=>cases h
 |some m=>
  injection h with h;subst h
  rw [hg m rfl]
  simp only [k.e,k.sz,k.len,k.row,List.length_append,true_and]
  exact ⟨fun i hi=>by rw [A4v l m i hi],fun i=>by rw [A4w]⟩
theorem Aaj(k:KOK K row e0 sz)(l:List α)(a b:Nat)(h:b≤(K l).len):(K ((l.take b).drop a)).e=(K l).e∧(K ((l.take b).drop a)).sz=(K l).sz∧(K ((l.take b).drop a)).len=b - a∧∀i,i < b - a→(K ((l.take b).drop a)).row i=(K l).row (a+i):=by
 simp only [k.e,k.sz,k.len,k.row,true_and] at h ⊢
 exact ⟨by simp;omega,fun i hi=>by rw [Ber l a b i h hi]⟩
theorem Aae(k:KOK K row e0 sz)(l:List α)(n:Nat):(K (List.replicate n (l.getD 0 default))).e=(K l).e∧(K (List.replicate n (l.getD 0 default))).sz=(K l).sz∧(K (List.replicate n (l.getD 0 default))).len=n∧∀i,i < n→(K (List.replicate n (l.getD 0 default))).row i=(K l).row 0:=by
 simp only [k.e,k.sz,k.len,k.row,true_and]
 exact ⟨List.length_replicate,fun i hi=>by rw [Beq n i _ hi]⟩
end
theorem k3:KOK .t3 A3c 3 1:=⟨fun _=>rfl,fun _=>rfl,fun _=>rfl,fun _ _=>rfl⟩
theorem k4:KOK .t4 Bcn 4 1:=⟨fun _=>rfl,fun _=>rfl,fun _=>rfl,fun _ _=>rfl⟩
theorem k9:KOK .t9 A3e 9 1:=⟨fun _=>rfl,fun _=>rfl,fun _=>rfl,fun _ _=>rfl⟩
theorem k35:KOK .t35 Axt 35 1:=⟨fun _=>rfl,fun _=>rfl,fun _=>rfl,fun _ _=>rfl⟩
theorem k46:KOK .t46 Aq0 46 2:=⟨fun _=>rfl,fun _=>rfl,fun _=>rfl,fun _ _=>rfl⟩
theorem k50:KOK .t50 Axu 50 1:=⟨fun _=>rfl,fun _=>rfl,fun _=>rfl,fun _ _=>rfl⟩
theorem k55:KOK .t55 Aq1 55 13:=⟨fun _=>rfl,fun _=>rfl,fun _=>rfl,fun _ _=>rfl⟩
theorem k57:KOK .t57 Axv 57 1:=⟨fun _=>rfl,fun _=>rfl,fun _=>rfl,fun _ _=>rfl⟩
theorem k60:KOK .t60 Aq2 60 4:=⟨fun _=>rfl,fun _=>rfl,fun _=>rfl,fun _ _=>rfl⟩
theorem k70:KOK .t70 A3d 70 2:=⟨fun _=>rfl,fun _=>rfl,fun _=>rfl,fun _ _=>rfl⟩
theorem k75:KOK .t75 Axw 75 1:=⟨fun _=>rfl,fun _=>rfl,fun _=>rfl,fun _ _=>rfl⟩
theorem k77:KOK .t77 Aq3 77 3:=⟨fun _=>rfl,fun _=>rfl,fun _=>rfl,fun _ _=>rfl⟩
theorem k94:KOK .t94 Aks 94 4:=⟨fun _=>rfl,fun _=>rfl,fun _=>rfl,fun _ _=>rfl⟩
theorem k99:KOK .t99 Ahd 99 21:=⟨fun _=>rfl,fun _=>rfl,fun _=>rfl,fun _ _=>rfl⟩
theorem Be6:KOK .t145 Ai6 145 17:=⟨fun _=>rfl,fun _=>rfl,fun _=>rfl,fun _ _=>rfl⟩
theorem Be7:KOK .t151 Ai7 151 3:=⟨fun _=>rfl,fun _=>rfl,fun _=>rfl,fun _ _=>rfl⟩
theorem Be8:KOK .t155 Ai8 155 3:=⟨fun _=>rfl,fun _=>rfl,fun _=>rfl,fun _ _=>rfl⟩
theorem Be9:KOK .t161 Ai9 161 5:=⟨fun _=>rfl,fun _=>rfl,fun _=>rfl,fun _ _=>rfl⟩
theorem Bfa:KOK .t167 Aja 167 3:=⟨fun _=>rfl,fun _=>rfl,fun _=>rfl,fun _ _=>rfl⟩
theorem Bfb:KOK .t168 Auz 168 2:=⟨fun _=>rfl,fun _=>rfl,fun _=>rfl,fun _ _=>rfl⟩
theorem Bfc:KOK .t180 Ajb 180 3:=⟨fun _=>rfl,fun _=>rfl,fun _=>rfl,fun _ _=>rfl⟩
theorem Bfd:KOK .t184 Ajc 184 2:=⟨fun _=>rfl,fun _=>rfl,fun _=>rfl,fun _ _=>rfl⟩
theorem Bfe:KOK .t190 Ajd 190 2:=⟨fun _=>rfl,fun _=>rfl,fun _=>rfl,fun _ _=>rfl⟩
theorem Bff:KOK .t195 Aje 195 3:=⟨fun _=>rfl,fun _=>rfl,fun _=>rfl,fun _ _=>rfl⟩
theorem Bfg:KOK .t229 Au0 229 2:=⟨fun _=>rfl,fun _=>rfl,fun _=>rfl,fun _ _=>rfl⟩
theorem Bfh:KOK .t231 Au1 231 5:=⟨fun _=>rfl,fun _=>rfl,fun _=>rfl,fun _ _=>rfl⟩
theorem LX.lit_spec(e:Nat)(rs:List (List PV))(x:LX)(h:LX.lit e rs=some x):x.e=e∧x.len=rs.length∧∀(i:Nat) (r:List PV),rs[i]? =some r→B2 r (x.row i):=by
 unfold LX.lit at h
 cases b3:Nat.beq e 3
 case true=>simp only [b3] at h;exact y8 k3 A65 b3 h
 simp only [b3] at h
 cases b4:Nat.beq e 4
 case true=>simp only [b4] at h;exact y8 k4 A67 b4 h
 simp only [b4] at h
 cases b9:Nat.beq e 9
 case true=>simp only [b9] at h;exact y8 k9 A7h b9 h
 simp only [b9] at h
 cases b35:Nat.beq e 35
 case true=>simp only [b35] at h;exact y8 k35 A06 b35 h
 simp only [b35] at h
 cases b46:Nat.beq e 46
 case true=>simp only [b46] at h;exact y8 k46 A07 b46 h
 simp only [b46] at h
 cases b50:Nat.beq e 50
 case true=>simp only [b50] at h;exact y8 k50 A08 b50 h
 simp only [b50] at h
 cases b55:Nat.beq e 55
 case true=>simp only [b55] at h;exact y8 k55 A09 b55 h
 simp only [b55] at h
 cases b57:Nat.beq e 57
 case true=>simp only [b57] at h;exact y8 k57 A1a b57 h
 simp only [b57] at h
 cases b60:Nat.beq e 60
 case true=>simp only [b60] at h;exact y8 k60 A1b b60 h
 simp only [b60] at h
 cases b70:Nat.beq e 70
 case true=>simp only [b70] at h;exact y8 k70 A1c b70 h
 simp only [b70] at h
 cases b75:Nat.beq e 75
 case true=>simp only [b75] at h;exact y8 k75 A1d b75 h
 simp only [b75] at h
 cases b77:Nat.beq e 77
 case true=>simp only [b77] at h;exact y8 k77 A1e b77 h
 simp only [b77] at h
 cases b94:Nat.beq e 94
 case true=>simp only [b94] at h;exact y8 k94 A1f b94 h
 simp only [b94] at h
 cases b99:Nat.beq e 99
 case true=>simp only [b99] at h;exact y8 k99 A1g b99 h
 simp only [b99] at h
 cases b145:Nat.beq e 145
 case true=>simp only [b145] at h;exact y8 Be6 Awp b145 h
 simp only [b145] at h
 cases b151:Nat.beq e 151
 case true=>simp only [b151] at h;exact y8 Be7 Awq b151 h
 simp only [b151] at h
 cases b155:Nat.beq e 155
 case true=>simp only [b155] at h;exact y8 Be8 Awr b155 h
 simp only [b155] at h
 cases b161:Nat.beq e 161
 case true=>simp only [b161] at h;exact y8 Be9 Aws b161 h
 simp only [b161] at h
 cases b167:Nat.beq e 167
 case true=>simp only [b167] at h;exact y8 Bfa Awt b167 h
 simp only [b167] at h
 cases b168:Nat.beq e 168
 case true=>simp only [b168] at h;exact y8 Bfb Awu b168 h
 simp only [b168] at h
 cases b180:Nat.beq e 180
 case true=>simp only [b180] at h;exact y8 Bfc Awv b180 h
 simp only [b180] at h
 cases b184:Nat.beq e 184
 case true=>simp only [b184] at h;exact y8 Bfd Aww b184 h
 simp only [b184] at h
 cases b190:Nat.beq e 190
 case true=>simp only [b190] at h;exact y8 Bfe Awx b190 h
 simp only [b190] at h
 cases b195:Nat.beq e 195
 case true=>simp only [b195] at h;exact y8 Bff Awy b195 h
 simp only [b195] at h
 cases b229:Nat.beq e 229
 case true=>simp only [b229] at h;exact y8 Bfg Awz b229 h
 simp only [b229] at h
 cases b231:Nat.beq e 231
 case true=>simp only [b231] at h;exact y8 Bfh Aw0 b231 h
 simp only [b231] at h
 cases h
theorem LX.cat_spec(x y z:LX)(h:x.cat y=some z):y.e=x.e∧z.e=x.e∧y.sz=x.sz∧z.sz=x.sz∧z.len=x.len+y.len∧(∀i,i < x.len→z.row i=x.row i)∧(∀i,z.row (x.len+i)=y.row i):=by
 cases x with
 |t3 l=>exact x0 k3 (LX.g3_eq y) h
 |t4 l=>exact x0 k4 (LX.g4_eq y) h
 |t9 l=>exact x0 k9 (LX.g9_eq y) h
 |t35 l=>exact x0 k35 (LX.g35_eq y) h
 |t46 l=>exact x0 k46 (LX.g46_eq y) h
 |t50 l=>exact x0 k50 (LX.g50_eq y) h
 |t55 l=>exact x0 k55 (LX.g55_eq y) h
 |t57 l=>exact x0 k57 (LX.g57_eq y) h
 |t60 l=>exact x0 k60 (LX.g60_eq y) h
 |t70 l=>exact x0 k70 (LX.g70_eq y) h
 |t75 l=>exact x0 k75 (LX.g75_eq y) h
 |t77 l=>exact x0 k77 (LX.g77_eq y) h
 |t94 l=>exact x0 k94 (LX.g94_eq y) h
 |t99 l=>exact x0 k99 (LX.g99_eq y) h
 |t145 l=>exact x0 Be6 (LX.g145_eq y) h
 |t151 l=>exact x0 Be7 (LX.g151_eq y) h
 |t155 l=>exact x0 Be8 (LX.g155_eq y) h
 |t161 l=>exact x0 Be9 (LX.g161_eq y) h
 |t167 l=>exact x0 Bfa (LX.g167_eq y) h
 |t168 l=>exact x0 Bfb (LX.g168_eq y) h
 |t180 l=>exact x0 Bfc (LX.g180_eq y) h
 |t184 l=>exact x0 Bfd (LX.g184_eq y) h
 |t190 l=>exact x0 Bfe (LX.g190_eq y) h
 |t195 l=>exact x0 Bff (LX.g195_eq y) h
 |t229 l=>exact x0 Bfg (LX.g229_eq y) h
 |t231 l=>exact x0 Bfh (LX.g231_eq y) h
theorem LX.sub_spec(x:LX)(a b:Nat)(h:b≤x.len):(x.sub a b).e=x.e∧(x.sub a b).sz=x.sz∧(x.sub a b).len=b - a∧∀i,i < b - a→(x.sub a b).row i=x.row (a+i):=by
 cases x with
 |t3 l=>exact Aaj k3 l a b h
 |t4 l=>exact Aaj k4 l a b h
 |t9 l=>exact Aaj k9 l a b h
 |t35 l=>exact Aaj k35 l a b h
 |t46 l=>exact Aaj k46 l a b h
 |t50 l=>exact Aaj k50 l a b h
 |t55 l=>exact Aaj k55 l a b h
 |t57 l=>exact Aaj k57 l a b h
 |t60 l=>exact Aaj k60 l a b h
 |t70 l=>exact Aaj k70 l a b h
 |t75 l=>exact Aaj k75 l a b h
 |t77 l=>exact Aaj k77 l a b h
 |t94 l=>exact Aaj k94 l a b h
 |t99 l=>exact Aaj k99 l a b h
 |t145 l=>exact Aaj Be6 l a b h
 |t151 l=>exact Aaj Be7 l a b h
 |t155 l=>exact Aaj Be8 l a b h
 |t161 l=>exact Aaj Be9 l a b h
 |t167 l=>exact Aaj Bfa l a b h
 |t168 l=>exact Aaj Bfb l a b h
 |t180 l=>exact Aaj Bfc l a b h
 |t184 l=>exact Aaj Bfd l a b h
 |t190 l=>exact Aaj Bfe l a b h
 |t195 l=>exact Aaj Bff l a b h
 |t229 l=>exact Aaj Bfg l a b h
 |t231 l=>exact Aaj Bfh l a b h
theorem LX.rep_spec(x:LX)(n:Nat):(x.rep n).e=x.e∧(x.rep n).sz=x.sz∧(x.rep n).len=n∧∀i,i < n→(x.rep n).row i=x.row 0:=by
 cases x with
 |t3 l=>exact Aae k3 l n
 |t4 l=>exact Aae k4 l n
 |t9 l=>exact Aae k9 l n
 |t35 l=>exact Aae k35 l n
 |t46 l=>exact Aae k46 l n
 |t50 l=>exact Aae k50 l n
 |t55 l=>exact Aae k55 l n
 |t57 l=>exact Aae k57 l n
 |t60 l=>exact Aae k60 l n
 |t70 l=>exact Aae k70 l n
 |t75 l=>exact Aae k75 l n
 |t77 l=>exact Aae k77 l n
 |t94 l=>exact Aae k94 l n
 |t99 l=>exact Aae k99 l n
 |t145 l=>exact Aae Be6 l n
 |t151 l=>exact Aae Be7 l n
 |t155 l=>exact Aae Be8 l n
 |t161 l=>exact Aae Be9 l n
 |t167 l=>exact Aae Bfa l n
 |t168 l=>exact Aae Bfb l n
 |t180 l=>exact Aae Bfc l n
 |t184 l=>exact Aae Bfd l n
 |t190 l=>exact Aae Bfe l n
 |t195 l=>exact Aae Bff l n
 |t229 l=>exact Aae Bfg l n
 |t231 l=>exact Aae Bfh l n
theorem A40(l:List PV):∀n,Hx l n=true↔n≤l.length:=by
 induction l with
 |nil=>intro n;cases n<;>simp [Hx]
 |cons p r ih=>intro n;cases n<;>simp [Hx,ih]
theorem Aah{α :Type} [Inhabited α]{K:List α→LX}{row: α→List PV}{e0 sz:Nat}(k:KOK K row e0 sz)(hz:∀a,(row a).length=sz){d:List PV→Option α}(hd:∀r a,d r=some a→B2 r (row a)){i off:Nat}{c:List PV}{l:List α}{y:LX}(h:Zo (Hx (row (l.getD i default)) (off+c.length)) (fun a=>K (l.set i a)) (d (F8 (row (l.getD i default)) off c))=some y):y.e=(K l).e∧y.sz=(K l).sz∧y.len=(K l).len∧off+c.length≤(K l).sz∧(i < (K l).len→B2 (F8 ((K l).row i) off c) (y.row i))∧∀j,j≠i→y.row j=(K l).row j:=by
 unfold Zo at h
 split at h
 ·rename_i a h1 h2
  injection h with h;subst h
  simp only [k.e,k.sz,k.len,k.row,true_and]
  refine ⟨List.length_set,by rw [←hz (l.getD i default)];exact (A40 _ _).1 h1,fun hi=> ?_,fun j hj=> ?_⟩
  ·rw [A1y l i a hi]
   exact hd _ _ h2
  ·rw [A1z l i j a hj]
 ·cases h
theorem LX.set_spec(x:LX)(i off:Nat)(c:List PV)(y:LX)(h:LX.set x i off c=some y):y.e=x.e∧y.sz=x.sz∧y.len=x.len∧off+c.length≤x.sz∧(i < x.len→B2 (F8 (x.row i) off c) (y.row i))∧∀j,j≠i→y.row j=x.row j:=by
 cases x with
 |t3 l=>exact Aah k3 (fun _=>rfl) A65 h
 |t4 l=>exact Aah k4 (fun _=>rfl) A67 h
 |t9 l=>exact Aah k9 (fun _=>rfl) A7h h
 |t35 l=>exact Aah k35 (fun _=>rfl) A06 h
 |t46 l=>exact Aah k46 (fun _=>rfl) A07 h
 |t50 l=>exact Aah k50 (fun _=>rfl) A08 h
 |t55 l=>exact Aah k55 (fun _=>rfl) A09 h
 |t57 l=>exact Aah k57 (fun _=>rfl) A1a h
 |t60 l=>exact Aah k60 (fun _=>rfl) A1b h
 |t70 l=>exact Aah k70 (fun _=>rfl) A1c h
 |t75 l=>exact Aah k75 (fun _=>rfl) A1d h
 |t77 l=>exact Aah k77 (fun _=>rfl) A1e h
 |t94 l=>exact Aah k94 (fun _=>rfl) A1f h
 |t99 l=>exact Aah k99 (fun _=>rfl) A1g h
 |t145 l=>exact Aah Be6 (fun _=>rfl) Awp h
 |t151 l=>exact Aah Be7 (fun _=>rfl) Awq h
 |t155 l=>exact Aah Be8 (fun _=>rfl) Awr h
 |t161 l=>exact Aah Be9 (fun _=>rfl) Aws h
 |t167 l=>exact Aah Bfa (fun _=>rfl) Awt h
 |t168 l=>exact Aah Bfb (fun _=>rfl) Awu h
 |t180 l=>exact Aah Bfc (fun _=>rfl) Awv h
 |t184 l=>exact Aah Bfd (fun _=>rfl) Aww h
 |t190 l=>exact Aah Bfe (fun _=>rfl) Awx h
 |t195 l=>exact Aah Bff (fun _=>rfl) Awy h
 |t229 l=>exact Aah Bfg (fun _=>rfl) Awz h
 |t231 l=>exact Aah Bfh (fun _=>rfl) Aw0 h
theorem Ace{α :Type} [Inhabited α]{l:List α}{p: α→Bool}{r:Option Nat}(h:l.findIdx? p=r):
  (r=none→∀i,i < l.length→p (l.getD i default)=false)∧(∀i,r=some i→i < l.length∧p (l.getD i default)=true∧∀j,j < i→p (l.getD j default)=false):=by
 subst h
 refine ⟨fun h i hi=> ?_,fun i h=> ?_⟩
 ·have:=List.findIdx?_eq_none_iff.1 h (l.getD i default) (by rw [Hm l i hi];exact List.getElem_mem hi)
  simpa using this
 ·obtain ⟨h1,h2,h3⟩:=List.findIdx?_eq_some_iff_getElem.1 h
  refine ⟨h1,by rw [Hm l i h1];exact h2,fun j hj=> ?_⟩
  rw [Hm l j (by omega)]
  simpa using h3 j hj
theorem LX.find_spec(x:LX)(c:List PV)(r:Option Nat)(h:LX.find x c=some r):(r=none→∀i,i < x.len→Ade c (x.row i)=some false)∧(∀i,r=some i→i < x.len∧Ade c (x.row i)=some true∧∀j,j < i→Ade c (x.row j)=some false):=by
 unfold LX.find at h
 split at h
 ·rename_i l k0 a0
  split at h
  ·rename_i hk0
   have e0:=of_decide_eq_true hk0
   subst e0
   injection h with h;subst h
   obtain ⟨s1,s2⟩:=Ace (rfl:l.findIdx? (fun b=>a0 == b)=_)
   have key:∀i b,(a0 == (l.getD i default))=b→Ade [.val (.int .i64 a0)] ((LX.t3 l).row i)=some b:=fun i b hb=>congrArg some hb
   exact ⟨fun hr i hi=>key _ _ (s1 hr i hi),fun i hr=>⟨(s2 i hr).1,key _ _ (s2 i hr).2.1,fun j hj=>key _ _ ((s2 i hr).2.2 j hj)⟩⟩
  ·cases h
 ·rename_i l a0
  injection h with h;subst h
  obtain ⟨s1,s2⟩:=Ace (rfl:l.findIdx? (fun b=>a0 == b)=_)
  have key:∀i b,(a0 == (l.getD i default))=b→Ade [.val (.bool a0)] ((LX.t4 l).row i)=some b:=fun i b hb=>congrArg some hb
  exact ⟨fun hr i hi=>key _ _ (s1 hr i hi),fun i hr=>⟨(s2 i hr).1,key _ _ (s2 i hr).2.1,fun j hj=>key _ _ ((s2 i hr).2.2 j hj)⟩⟩
 ·rename_i l a0
  injection h with h;subst h
  obtain ⟨s1,s2⟩:=Ace (rfl:l.findIdx? (fun b=>a0 == b)=_)
  have key:∀i b,(a0 == (l.getD i default))=b→Ade [.val (.string a0)] ((LX.t9 l).row i)=some b:=fun i b hb=>congrArg some hb
  exact ⟨fun hr i hi=>key _ _ (s1 hr i hi),fun i hr=>⟨(s2 i hr).1,key _ _ (s2 i hr).2.1,fun j hj=>key _ _ ((s2 i hr).2.2 j hj)⟩⟩
 ·rename_i l k0 a0
  split at h
  ·rename_i hk0
   have e0:=of_decide_eq_true hk0
   subst e0
   injection h with h;subst h
   obtain ⟨s1,s2⟩:=Ace (rfl:l.findIdx? (fun b=>a0 == b)=_)
   have key:∀i b,(a0 == (l.getD i default))=b→Ade [.val (.int .i64 a0)] ((LX.t75 l).row i)=some b:=fun i b hb=>congrArg some hb
   exact ⟨fun hr i hi=>key _ _ (s1 hr i hi),fun i hr=>⟨(s2 i hr).1,key _ _ (s2 i hr).2.1,fun j hj=>key _ _ ((s2 i hr).2.2 j hj)⟩⟩
  ·cases h
 ·rename_i l a0 a1
  injection h with h;subst h
  obtain ⟨s1,s2⟩:=Ace (rfl:l.findIdx? (fun b=>(a0 == b.a0 && (a1 == b.a1)))=_)
  have key:∀i b,((a0 == (l.getD i default).a0 && (a1 == (l.getD i default).a1)))=b→Ade [.val (.string a0),.val (.string a1)] ((LX.t168 l).row i)=some b:=fun i b hb=>congrArg some hb
  exact ⟨fun hr i hi=>key _ _ (s1 hr i hi),fun i hr=>⟨(s2 i hr).1,key _ _ (s2 i hr).2.1,fun j hj=>key _ _ ((s2 i hr).2.2 j hj)⟩⟩
 ·cases h
end Go.Proofs.YtfencmicmnhglaaGreat.Ev
