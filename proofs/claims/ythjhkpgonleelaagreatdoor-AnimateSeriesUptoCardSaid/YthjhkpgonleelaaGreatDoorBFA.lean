/-  The types of the data, and of rows of them. -/
import Derived.Test.YthjhkpgonleelaaGreatDoorRows
import Derived.WalkKit
import Derived.LoopN
import Derived.Great.BuildSlice
import Derived.Deep.Draws
namespace Go.Proofs.YthjhkpgonleelaaGreatDoor.Ev
open Go
set_option linter.unusedVariables false
set_option linter.unusedSimpArgs false
set_option linter.unnecessarySimpa false
structure Br where
 a0:ByteArray
 a1:ByteArray
 deriving Inhabited
structure Dx where
 a0:Int
 a1:Int
 deriving Inhabited
structure D2 where
 From:Int
 To:Int
 Delay:Int
 deriving Inhabited
structure Cp where
 Op:Int
 A:Int
 B:Int
 N:Int
 Values:(List Int)
 Weights:(List Int)
 deriving Inhabited
inductive Ab where
 |mk (Op:Int) (Name:ByteArray) (N:Int) (Kids:(List Ab))
instance:Inhabited Ab:=⟨.mk 0 ByteArray.empty 0 []⟩
def Ab.Op:Ab→Int| .mk x _ _ _=>x
def Ab.Name:Ab→ByteArray| .mk _ x _ _=>x
def Ab.N:Ab→Int| .mk _ _ x _=>x
def Ab.Kids:Ab→(List Ab)| .mk _ _ _ x=>x
def Ab.cp(x:Ab):Ab:= .mk x.Op x.Name x.N x.Kids
theorem Ab.cp_eq(x:Ab):Ab.cp x=x:=by cases x;rfl
theorem Ab.eta(x:Ab):Ab.mk x.Op x.Name x.N x.Kids=x:=by cases x;rfl
structure Bm where
 Op:Int
 A:Int
 B:Int
 C:Int
 E:Ab
 F:Ab
 Args:(List Ab)
 Dist:Cp
 Flag:Bool
 deriving Inhabited
structure Bu where
 Name:ByteArray
 Params:Int
 Slots:Int
 Instrs:(List Bm)
 deriving Inhabited
structure Bd where
 Name:ByteArray
 Length:Int
 Step:Int
 deriving Inhabited
structure Be where
 Coef:Int
 What:ByteArray
 Name:ByteArray
 deriving Inhabited
structure Bh where
 Name:ByteArray
 Terms:(List Be)
 Total:Int
 deriving Inhabited
structure Ew where
 At:Int
 Units:Int
 deriving Inhabited
structure Ml where
 Stream:ByteArray
 Up:Cp
 Down:Cp
 deriving Inhabited
structure Ap where
 Name:ByteArray
 Units:Int
 Shift:(List Ew)
 Cycle:Int
 Fault:Ml
 deriving Inhabited
structure Ba where
 Name:ByteArray
 Type_:Int
 deriving Inhabited
inductive Ag where
 |mk (Op:Int) (Name:ByteArray) (Of:ByteArray) (E:Ab) (F:Ab) (Args:(List Ab)) (Dist:Cp) (Flag:Bool) (Body:(List Ag)) (Else:(List Ag))
instance:Inhabited Ag:=⟨.mk 0 ByteArray.empty ByteArray.empty default default [] default false [] []⟩
def Ag.Op:Ag→Int| .mk x _ _ _ _ _ _ _ _ _=>x
def Ag.Name:Ag→ByteArray| .mk _ x _ _ _ _ _ _ _ _=>x
def Ag.Of:Ag→ByteArray| .mk _ _ x _ _ _ _ _ _ _=>x
def Ag.E:Ag→Ab| .mk _ _ _ x _ _ _ _ _ _=>x
def Ag.F:Ag→Ab| .mk _ _ _ _ x _ _ _ _ _=>x
def Ag.Args:Ag→(List Ab)| .mk _ _ _ _ _ x _ _ _ _=>x
def Ag.Dist:Ag→Cp| .mk _ _ _ _ _ _ x _ _ _=>x
def Ag.Flag:Ag→Bool| .mk _ _ _ _ _ _ _ x _ _=>x
def Ag.Body:Ag→(List Ag)| .mk _ _ _ _ _ _ _ _ x _=>x
def Ag.Else:Ag→(List Ag)| .mk _ _ _ _ _ _ _ _ _ x=>x
def Ag.cp(x:Ag):Ag:= .mk x.Op x.Name x.Of (Ab.cp x.E) (Ab.cp x.F) x.Args x.Dist x.Flag x.Body x.Else
theorem Ag.cp_eq(x:Ag):Ag.cp x=x:=by cases x;simp only [Ag.cp,Ab.cp_eq,Ag.Op,Ag.Name,Ag.Of,Ag.E,Ag.F,Ag.Args,Ag.Dist,Ag.Flag,Ag.Body,Ag.Else]
theorem Ag.eta(x:Ag):Ag.mk x.Op x.Name x.Of x.E x.F x.Args x.Dist x.Flag x.Body x.Else=x:=by cases x;rfl
structure Ao where
 Name:ByteArray
 Params:(List Ba)
 Locals:(List Ba)
 Body:(List Ag)
 deriving Inhabited
structure Cl where
 Routine:ByteArray
 Args:(List Int)
 At:Int
 Every:Int
 Until:Int
 deriving Inhabited
structure Av where
 Name:ByteArray
 Room:Int
 Policy:Int
 deriving Inhabited
structure Ax where
 Name:ByteArray
 Type_:Int
 N:Int
 deriving Inhabited
structure Aa where
 Name:ByteArray
 Vars:(List Ax)
 Resources:(List Ap)
 Stores:(List Av)
 Belts:(List Bd)
 Queues:(List ByteArray)
 Streams:(List ByteArray)
 Tallies:(List ByteArray)
 Levels:(List ByteArray)
 Counts:(List ByteArray)
 Routines:(List Ao)
 Starts:(List Cl)
 Laws:(List Bh)
 deriving Inhabited
structure Bk where
 Decl:Aa
 Routines:(List Bu)
 deriving Inhabited
structure Ad where
 Name:ByteArray
 Sites:(List Bk)
 Links:(List D2)
 deriving Inhabited
structure Bo where
 Time:Int
 Site:Int
 What:Int
 Proc:Int
 Index:Int
 Value:Int
 deriving Inhabited
structure Kg where
 P:Ad
 Recs:(List Bo)
 Site:Int
 T:Int
 Step:Int
 N:Int
 deriving Inhabited
structure Age where
 Word:ByteArray
 A:ByteArray
 B:ByteArray
 C:Bool
 E:Bool
 F:Bool
 Flag:Bool
 Args:Bool
 Dist:Bool
 deriving Inhabited
structure Aw where
 u_proc:Int
 u_resource:Int
 deriving Inhabited
structure Ma where
 u_is:Bool
 u_e:Ab
 deriving Inhabited
structure Fs where
 u_is:Bool
 u_name:ByteArray
 deriving Inhabited
structure Bc where
 Time:Int
 Site:Int
 Procs:(List Int)
 Held:(List Int)
 Waiting:(List Int)
 Items:(List Int)
 deriving Inhabited
structure B5 where
 From:ByteArray
 To:ByteArray
 Delay:Int
 deriving Inhabited
structure Aq where
 Name:ByteArray
 Params:(List Ax)
 Sites:(List Aa)
 Links:(List B5)
 deriving Inhabited
structure Qr where
 u_word:ByteArray
 u_a:Int
 u_b:Int
 u_c:Bool
 u_e:Bool
 u_f:Bool
 u_args:Bool
 u_dist:Bool
 u_preempt:Bool
 deriving Inhabited
structure Ar where
 u_p:Ad
 u_site:Int
 u_c:Bu
 deriving Inhabited
structure Bj where
 u_code:Bool
 deriving Inhabited
structure Bp where
 u_name:Bool
 u_of:Bool
 u_e:Bool
 u_f:Bool
 u_args:Bool
 u_dist:Bool
 u_flag:Bool
 u_body:Bool
 u_other:Bool
 deriving Inhabited
inductive LX where
 |t3 (l:List Int)
 |t4 (l:List Bool)
 |t5 (l:List Int)
 |t9 (l:List ByteArray)
 |t32 (l:List Bc)
 |t46 (l:List Bo)
 |t61 (l:List (List ByteArray))
 |t66 (l:List Aa)
 |t69 (l:List Bk)
 |t78 (l:List Bu)
 |t86 (l:List Ap)
 |t89 (l:List Av)
 |t90 (l:List (List Ba))
 |t93 (l:List Ao)
 |t98 (l:List Ab)
 |t100 (l:List Bm)
 |t109 (l:List Aw)
 |t115 (l:List Aw)
 |t123 (l:List Ax)
 |t127 (l:List D2)
 |t135 (l:List Dx)
 |t150 (l:List Cl)
 |t154 (l:List Bh)
 |t156 (l:List B5)
 |t178 (l:List Bd)
 |t186 (l:List Br)
 |t190 (l:List Qr)
 |t200 (l:List Ba)
 |t203 (l:List Be)
 |t205 (l:List Age)
 |t216 (l:List Ew)
 |t264 (l:List Ag)
 |t275 (l:List Fs)
 |t277 (l:List Ma)
 deriving Inhabited
def LX.e:LX→Nat
 | .t3 l=>3
 | .t4 l=>4
 | .t5 l=>5
 | .t9 l=>9
 | .t32 l=>32
 | .t46 l=>46
 | .t61 l=>61
 | .t66 l=>66
 | .t69 l=>69
 | .t78 l=>78
 | .t86 l=>86
 | .t89 l=>89
 | .t90 l=>90
 | .t93 l=>93
 | .t98 l=>98
 | .t100 l=>100
 | .t109 l=>109
 | .t115 l=>115
 | .t123 l=>123
 | .t127 l=>127
 | .t135 l=>135
 | .t150 l=>150
 | .t154 l=>154
 | .t156 l=>156
 | .t178 l=>178
 | .t186 l=>186
 | .t190 l=>190
 | .t200 l=>200
 | .t203 l=>203
 | .t205 l=>205
 | .t216 l=>216
 | .t264 l=>264
 | .t275 l=>275
 | .t277 l=>277
def LX.sz:LX→Nat
 | .t3 l=>1
 | .t4 l=>1
 | .t5 l=>1
 | .t9 l=>1
 | .t32 l=>6
 | .t46 l=>6
 | .t61 l=>1
 | .t66 l=>13
 | .t69 l=>14
 | .t78 l=>4
 | .t86 l=>17
 | .t89 l=>3
 | .t90 l=>1
 | .t93 l=>4
 | .t98 l=>4
 | .t100 l=>20
 | .t109 l=>2
 | .t115 l=>2
 | .t123 l=>3
 | .t127 l=>3
 | .t135 l=>2
 | .t150 l=>5
 | .t154 l=>3
 | .t156 l=>3
 | .t178 l=>3
 | .t186 l=>2
 | .t190 l=>9
 | .t200 l=>2
 | .t203 l=>3
 | .t205 l=>9
 | .t216 l=>2
 | .t264 l=>21
 | .t275 l=>2
 | .t277 l=>5
def LX.len:LX→Nat
 | .t3 l=>l.length
 | .t4 l=>l.length
 | .t5 l=>l.length
 | .t9 l=>l.length
 | .t32 l=>l.length
 | .t46 l=>l.length
 | .t61 l=>l.length
 | .t66 l=>l.length
 | .t69 l=>l.length
 | .t78 l=>l.length
 | .t86 l=>l.length
 | .t89 l=>l.length
 | .t90 l=>l.length
 | .t93 l=>l.length
 | .t98 l=>l.length
 | .t100 l=>l.length
 | .t109 l=>l.length
 | .t115 l=>l.length
 | .t123 l=>l.length
 | .t127 l=>l.length
 | .t135 l=>l.length
 | .t150 l=>l.length
 | .t154 l=>l.length
 | .t156 l=>l.length
 | .t178 l=>l.length
 | .t186 l=>l.length
 | .t190 l=>l.length
 | .t200 l=>l.length
 | .t203 l=>l.length
 | .t205 l=>l.length
 | .t216 l=>l.length
 | .t264 l=>l.length
 | .t275 l=>l.length
 | .t277 l=>l.length
def LX.g3:LX→Option (List Int)
 | .t3 l=>some l
 |_=>none
def LX.g4:LX→Option (List Bool)
 | .t4 l=>some l
 |_=>none
def LX.g5:LX→Option (List Int)
 | .t5 l=>some l
 |_=>none
def LX.g9:LX→Option (List ByteArray)
 | .t9 l=>some l
 |_=>none
def LX.g32:LX→Option (List Bc)
 | .t32 l=>some l
 |_=>none
def LX.g46:LX→Option (List Bo)
 | .t46 l=>some l
 |_=>none
def LX.g61:LX→Option (List (List ByteArray))
 | .t61 l=>some l
 |_=>none
def LX.g66:LX→Option (List Aa)
 | .t66 l=>some l
 |_=>none
def LX.g69:LX→Option (List Bk)
 | .t69 l=>some l
 |_=>none
def LX.g78:LX→Option (List Bu)
 | .t78 l=>some l
 |_=>none
def LX.g86:LX→Option (List Ap)
 | .t86 l=>some l
 |_=>none
def LX.g89:LX→Option (List Av)
 | .t89 l=>some l
 |_=>none
def LX.g90:LX→Option (List (List Ba))
 | .t90 l=>some l
 |_=>none
def LX.g93:LX→Option (List Ao)
 | .t93 l=>some l
 |_=>none
def LX.g98:LX→Option (List Ab)
 | .t98 l=>some l
 |_=>none
def LX.g100:LX→Option (List Bm)
 | .t100 l=>some l
 |_=>none
def LX.g109:LX→Option (List Aw)
 | .t109 l=>some l
 |_=>none
def LX.g115:LX→Option (List Aw)
 | .t115 l=>some l
 |_=>none
def LX.g123:LX→Option (List Ax)
 | .t123 l=>some l
 |_=>none
def LX.g127:LX→Option (List D2)
 | .t127 l=>some l
 |_=>none
def LX.g135:LX→Option (List Dx)
 | .t135 l=>some l
 |_=>none
def LX.g150:LX→Option (List Cl)
 | .t150 l=>some l
 |_=>none
def LX.g154:LX→Option (List Bh)
 | .t154 l=>some l
 |_=>none
def LX.g156:LX→Option (List B5)
 | .t156 l=>some l
 |_=>none
def LX.g178:LX→Option (List Bd)
 | .t178 l=>some l
 |_=>none
def LX.g186:LX→Option (List Br)
 | .t186 l=>some l
 |_=>none
def LX.g190:LX→Option (List Qr)
 | .t190 l=>some l
 |_=>none
def LX.g200:LX→Option (List Ba)
 | .t200 l=>some l
 |_=>none
def LX.g203:LX→Option (List Be)
 | .t203 l=>some l
 |_=>none
def LX.g205:LX→Option (List Age)
 | .t205 l=>some l
 |_=>none
def LX.g216:LX→Option (List Ew)
 | .t216 l=>some l
 |_=>none
def LX.g264:LX→Option (List Ag)
 | .t264 l=>some l
 |_=>none
def LX.g275:LX→Option (List Fs)
 | .t275 l=>some l
 |_=>none
def LX.g277:LX→Option (List Ma)
 | .t277 l=>some l
 |_=>none
def Oy{α :Type}(K: α→LX)(o:Option α):Option LX:=match o with
 |some l=>some (K l)
 |none=>none
def Bk5{α :Type}(b:Bool)(K: α→LX)(o:Option α):Option LX:=match b,o with
 |true,some l=>some (K l)
 |_,_=>none
def LX.cat(x y:LX):Option LX:=match x with
 | .t3 l=>Oy (fun m=> .t3 (l++m)) y.g3
 | .t4 l=>Oy (fun m=> .t4 (l++m)) y.g4
 | .t5 l=>Oy (fun m=> .t5 (l++m)) y.g5
 | .t9 l=>Oy (fun m=> .t9 (l++m)) y.g9
 | .t32 l=>Oy (fun m=> .t32 (l++m)) y.g32
 | .t46 l=>Oy (fun m=> .t46 (l++m)) y.g46
 | .t61 l=>Oy (fun m=> .t61 (l++m)) y.g61
 | .t66 l=>Oy (fun m=> .t66 (l++m)) y.g66
 | .t69 l=>Oy (fun m=> .t69 (l++m)) y.g69
 | .t78 l=>Oy (fun m=> .t78 (l++m)) y.g78
 | .t86 l=>Oy (fun m=> .t86 (l++m)) y.g86
 | .t89 l=>Oy (fun m=> .t89 (l++m)) y.g89
 | .t90 l=>Oy (fun m=> .t90 (l++m)) y.g90
 | .t93 l=>Oy (fun m=> .t93 (l++m)) y.g93
 | .t98 l=>Oy (fun m=> .t98 (l++m)) y.g98
 | .t100 l=>Oy (fun m=> .t100 (l++m)) y.g100
 | .t109 l=>Oy (fun m=> .t109 (l++m)) y.g109
 | .t115 l=>Oy (fun m=> .t115 (l++m)) y.g115
 | .t123 l=>Oy (fun m=> .t123 (l++m)) y.g123
 | .t127 l=>Oy (fun m=> .t127 (l++m)) y.g127
 | .t135 l=>Oy (fun m=> .t135 (l++m)) y.g135
 | .t150 l=>Oy (fun m=> .t150 (l++m)) y.g150
 | .t154 l=>Oy (fun m=> .t154 (l++m)) y.g154
 | .t156 l=>Oy (fun m=> .t156 (l++m)) y.g156
 | .t178 l=>Oy (fun m=> .t178 (l++m)) y.g178
 | .t186 l=>Oy (fun m=> .t186 (l++m)) y.g186
 | .t190 l=>Oy (fun m=> .t190 (l++m)) y.g190
 | .t200 l=>Oy (fun m=> .t200 (l++m)) y.g200
 | .t203 l=>Oy (fun m=> .t203 (l++m)) y.g203
 | .t205 l=>Oy (fun m=> .t205 (l++m)) y.g205
 | .t216 l=>Oy (fun m=> .t216 (l++m)) y.g216
 | .t264 l=>Oy (fun m=> .t264 (l++m)) y.g264
 | .t275 l=>Oy (fun m=> .t275 (l++m)) y.g275
 | .t277 l=>Oy (fun m=> .t277 (l++m)) y.g277
def LX.sub(x:LX)(a b:Nat):LX:=match x with
 | .t3 l=> .t3 ((l.take b).drop a)
 | .t4 l=> .t4 ((l.take b).drop a)
 | .t5 l=> .t5 ((l.take b).drop a)
 | .t9 l=> .t9 ((l.take b).drop a)
 | .t32 l=> .t32 ((l.take b).drop a)
 | .t46 l=> .t46 ((l.take b).drop a)
 | .t61 l=> .t61 ((l.take b).drop a)
 | .t66 l=> .t66 ((l.take b).drop a)
 | .t69 l=> .t69 ((l.take b).drop a)
 | .t78 l=> .t78 ((l.take b).drop a)
 | .t86 l=> .t86 ((l.take b).drop a)
 | .t89 l=> .t89 ((l.take b).drop a)
 | .t90 l=> .t90 ((l.take b).drop a)
 | .t93 l=> .t93 ((l.take b).drop a)
 | .t98 l=> .t98 ((l.take b).drop a)
 | .t100 l=> .t100 ((l.take b).drop a)
 | .t109 l=> .t109 ((l.take b).drop a)
 | .t115 l=> .t115 ((l.take b).drop a)
 | .t123 l=> .t123 ((l.take b).drop a)
 | .t127 l=> .t127 ((l.take b).drop a)
 | .t135 l=> .t135 ((l.take b).drop a)
 | .t150 l=> .t150 ((l.take b).drop a)
 | .t154 l=> .t154 ((l.take b).drop a)
 | .t156 l=> .t156 ((l.take b).drop a)
 | .t178 l=> .t178 ((l.take b).drop a)
 | .t186 l=> .t186 ((l.take b).drop a)
 | .t190 l=> .t190 ((l.take b).drop a)
 | .t200 l=> .t200 ((l.take b).drop a)
 | .t203 l=> .t203 ((l.take b).drop a)
 | .t205 l=> .t205 ((l.take b).drop a)
 | .t216 l=> .t216 ((l.take b).drop a)
 | .t264 l=> .t264 ((l.take b).drop a)
 | .t275 l=> .t275 ((l.take b).drop a)
 | .t277 l=> .t277 ((l.take b).drop a)
def LX.rep(x:LX)(n:Nat):LX:=match x with
 | .t3 l=> .t3 (List.replicate n (l.getD 0 default))
 | .t4 l=> .t4 (List.replicate n (l.getD 0 default))
 | .t5 l=> .t5 (List.replicate n (l.getD 0 default))
 | .t9 l=> .t9 (List.replicate n (l.getD 0 default))
 | .t32 l=> .t32 (List.replicate n (l.getD 0 default))
 | .t46 l=> .t46 (List.replicate n (l.getD 0 default))
 | .t61 l=> .t61 (List.replicate n (l.getD 0 default))
 | .t66 l=> .t66 (List.replicate n (l.getD 0 default))
 | .t69 l=> .t69 (List.replicate n (l.getD 0 default))
 | .t78 l=> .t78 (List.replicate n (l.getD 0 default))
 | .t86 l=> .t86 (List.replicate n (l.getD 0 default))
 | .t89 l=> .t89 (List.replicate n (l.getD 0 default))
 | .t90 l=> .t90 (List.replicate n (l.getD 0 default))
 | .t93 l=> .t93 (List.replicate n (l.getD 0 default))
 | .t98 l=> .t98 (List.replicate n (l.getD 0 default))
 | .t100 l=> .t100 (List.replicate n (l.getD 0 default))
 | .t109 l=> .t109 (List.replicate n (l.getD 0 default))
 | .t115 l=> .t115 (List.replicate n (l.getD 0 default))
 | .t123 l=> .t123 (List.replicate n (l.getD 0 default))
 | .t127 l=> .t127 (List.replicate n (l.getD 0 default))
 | .t135 l=> .t135 (List.replicate n (l.getD 0 default))
 | .t150 l=> .t150 (List.replicate n (l.getD 0 default))
 | .t154 l=> .t154 (List.replicate n (l.getD 0 default))
 | .t156 l=> .t156 (List.replicate n (l.getD 0 default))
 | .t178 l=> .t178 (List.replicate n (l.getD 0 default))
 | .t186 l=> .t186 (List.replicate n (l.getD 0 default))
 | .t190 l=> .t190 (List.replicate n (l.getD 0 default))
 | .t200 l=> .t200 (List.replicate n (l.getD 0 default))
 | .t203 l=> .t203 (List.replicate n (l.getD 0 default))
 | .t205 l=> .t205 (List.replicate n (l.getD 0 default))
 | .t216 l=> .t216 (List.replicate n (l.getD 0 default))
 | .t264 l=> .t264 (List.replicate n (l.getD 0 default))
 | .t275 l=> .t275 (List.replicate n (l.getD 0 default))
 | .t277 l=> .t277 (List.replicate n (l.getD 0 default))
end Go.Proofs.YthjhkpgonleelaaGreatDoor.Ev
namespace Go.Proofs.YthjhkpgonleelaaGreatDoor.Ev
open Go
set_option linter.unusedVariables false
set_option linter.unusedSimpArgs false
set_option linter.unnecessarySimpa false
inductive PV where
 |any
 |val (v:Value)
 |agg (l:List PV)
 |tup (l:List PV)
 |sl (own:Bool) (e sz:Nat) (es:List (List PV))
 |lst (own:Bool) (x:LX)
 |ref (l:List PV)
 |loc (d off:Nat)
 |el (d sz i off:Nat)
 |vw (c:Bool) (d e sz n:Nat)
 |mp (d:Nat)
 |clo (f n:Nat) (caps:List PV)
 |arrO (x:LX)
 |mapO (gk gv:Bool) (ks vs:LX)
 |mapE (es:Array MapEntry) (clock:Nat) (gk gv:Bool) (ks vs:LX)
 deriving Inhabited
def PV.view:PV→PV
 | .sl _ e sz es=> .sl false e sz es
 | .lst _ x=> .lst false x
 |p=>p
def PV.flat:PV→Bool
 | .any=>true
 | .val _=>true
 | .lst _ _=>true
 |_=>false
inductive PV.Le:PV→PV→Prop
 |view (p:PV):PV.Le p p.view
 |nil (own:Bool) (y:LX) (h:y.len=0):PV.Le (.val (.slice none 0 0)) (.lst own y)
def Jx(l:List PV)(off:Nat)(new:List PV):List PV:=match l,off,new with
 | [],_,_=> []
 |l,_,[]=>l
 |_::r,0,q::new=>q::Jx r 0 new
 |p::r,n+1,new=>p::Jx r n new
def Ae3:PV→PV→Option Bool
 | .val (.int k a),.val (.int k' b)=>match decide (k=k') with
  |true=>some (a == b)
  |false=>none
 | .val (.string a),.val (.string b)=>some (a == b)
 | .val (.bool a),.val (.bool b)=>some (a == b)
 |_,_=>none
def Api:PV→List PV→PV→List PV→Option Bool
 |a,[],b,[]=>Ae3 a b
 |a,a'::l,b,b'::m=>match Ae3 a b,Api a' l b' m with
  |some x,some y=>some (x && y)
  |_,_=>none
 |_,_,_,_=>none
def Yy:List PV→List PV→Option Bool
 |a::l,b::m=>Api a l b m
 |_,_=>none
end Go.Proofs.YthjhkpgonleelaaGreatDoor.Ev
namespace Go.Proofs.YthjhkpgonleelaaGreatDoor.Ev
open Go
set_option linter.unusedVariables false
set_option linter.unusedSimpArgs false
set_option linter.unnecessarySimpa false
def Amf(l:List PV)(n:Nat):Bool:=match l,n with
 |_,0=>true
 |_::r,n+1=>Amf r n
 |_,_=>false
def A9k(k:IntKind):PV→Option Int
 | .val (.int k' a)=>match decide (k'=k) with
  |true=>some a
  |false=>none
 |_=>none
def A5a:PV→Option Bool
 | .val (.bool a)=>some a
 |_=>none
def A9l:PV→Option ByteArray
 | .val (.string a)=>some a
 |_=>none
inductive Tn:List PV→List PV→Prop
 |nil:Tn [] []
 |cons {p q:PV} {r s:List PV} (h:PV.Le p q) (hr:Tn r s):Tn (p::r) (q::s)
theorem Aqy{k:IntKind}{p:PV}{a:Int}(h:A9k k p=some a):PV.Le p (.val (.int k a)):=by
 unfold A9k at h
 split at h
 ·split at h
  ·rename_i hk
   have:=of_decide_eq_true hk
   subst this
   injection h with h;subst h;exact .view _
  ·cases h
 ·cases h
theorem A5b{p:PV}{a:Bool}(h:A5a p=some a):PV.Le p (.val (.bool a)):=by
 unfold A5a at h
 split at h
 ·injection h with h;subst h;exact .view _
 ·cases h
theorem Aqz{p:PV}{a:ByteArray}(h:A9l p=some a):PV.Le p (.val (.string a)):=by
 unfold A9l at h
 split at h
 ·injection h with h;subst h;exact .view _
 ·cases h
def A27{α :Type}(d:List PV→Option α):List (List PV)→Option (List α)
 | []=>some []
 |r::rs=>match d r,A27 d rs with
  |some a,some l=>some (a::l)
  |_,_=>none
theorem Aoq{α :Type} [Inhabited α]{d:List PV→Option α}{row: α→List PV}(hd:∀r a,d r=some a→Tn r (row a)):∀(rs:List (List PV)) (l:List α),A27 d rs=some l→
  l.length=rs.length∧∀(i:Nat) (r:List PV),rs[i]? =some r→Tn r (row (l.getD i default))
 | [],l,h=>by
  simp only [A27,Option.some.injEq] at h
  subst h
  exact ⟨rfl,fun i r hr=>by simp at hr⟩
 |r::rs,l,h=>by
  simp only [A27] at h
  split at h
  ·rename_i a m h1 h2
   injection h with h
   subst h
   obtain ⟨q1,q2⟩:=Aoq hd rs m h2
   refine ⟨by simp [q1],fun i x hx=> ?_⟩
   cases i with
   |zero=>simp at hx;subst hx;simpa using hd _ _ h1
   |succ i=>simpa using q2 i x (by simpa using hx)
  ·cases h
def Ama:List PV→Bool
 | []=>true
 |p::r=>match p.flat with
  |true=>Ama r
  |false=>false
theorem Aoz:∀(l:List PV),Ama l=true→∀p∈l,p.flat=true
 | [],_,p,h=>by cases h
 |q::r,h,p,hp=>by
  simp only [Ama] at h
  cases hq:q.flat with
  |false=>rw [hq] at h;cases h
  |true=>
   rw [hq] at h
   rcases List.mem_cons.1 hp with e|e
   ·subst e;exact hq
   ·exact Aoz r h p e
structure CD (α :Type) where
 d:PV→Option α
 w: α→PV
 le:∀ {p a},d p=some a→PV.Le p (w a)
 fl:∀a,(w a).flat=true
def oI(k:IntKind):CD Int:=⟨A9k k,fun x=> .val (.int k x),Aqy,fun _=>rfl⟩
def oB:CD Bool:=⟨A5a,fun x=> .val (.bool x),A5b,fun _=>rfl⟩
def oT:CD ByteArray:=⟨A9l,fun x=> .val (.string x),Aqz,fun _=>rfl⟩
class TL {α :Type} (K:List α→LX) (g:outParam (LX→Option (List α))) (u z:outParam Nat):Prop where
 e:∀l,(K l).e=u:=by intro l;rfl
 sz:∀l,(K l).sz=z:=by intro l;rfl
 len:∀l,(K l).len=l.length:=by intro l;rfl
 gk:∀y m,g y=some m→y=K m:=by intro y m h;cases y<;>first|(injection h with h;subst h;rfl)|cases h
 of:∀x,x.e=u→∃l,x=K l:=by intro x h;cases x<;>first|exact ⟨_,rfl⟩|(simp [LX.e] at h)
def dL{α :Type}(g:LX→Option (List α)):PV→Option (List α)
 | .lst _ x=>g x
 | .val (.slice none 0 0)=>some []
 |_=>none
def oW{α :Type}(K:List α→LX){g:LX→Option (List α)}{e sz:Nat} [k:TL K g e sz]:CD (List α):=⟨dL g,fun x=> .lst false (K x),fun {p a} h=>(by
 unfold dL at h
 split at h
 ·rw [k.gk _ _ h];exact .view _
 ·injection h with h;subst h;exact .nil false _ (k.len _)
 ·cases h),fun _=>rfl⟩
structure RF (α :Type) where
 d:List PV→Option α
 w: α→List PV
 le:∀r a,d r=some a→Tn r (w a)
 fl:∀a,Ama (w a)=true
def CD.o{α :Type}(c:CD α):RF α :=⟨fun
 | [p]=>c.d p
 |_=>none,fun a=> [c.w a],fun r a h=>(by
 split at h
 ·exact .cons (c.le h) .nil
 ·cases h),fun a=>by simp only [Ama,c.fl]⟩
def CD.c{α β :Type}(c:CD α)(f:RF β):RF (α×β):=⟨fun
 |p::r=>match c.d p,f.d r with
  |some a,some b=>some (a,b)
  |_,_=>none
 |_=>none,fun a=>c.w a.1::f.w a.2,fun r a h=>(by
 split at h
 ·split at h
  ·rename_i h1 h2
   injection h with h;subst h
   exact .cons (c.le h1) (f.le _ _ h2)
  ·cases h
 ·cases h),fun a=>by simp only [Ama,c.fl,f.fl]⟩
def RF.to{α β :Type}(f:RF α)(g: α→β)(w: β→List PV)(h:∀a,w (g a)=f.w a:=by intro a;rfl)(h2:∀a,Ama (w a)=true:=by intro a;rfl):RF β :=⟨fun r=>match f.d r with
 |some a=>some (g a)
 |none=>none,w,fun r a hh=>(by
 split at hh
 ·rename_i h1
  injection hh with hh;subst hh
  rw [h];exact f.le _ _ h1
 ·cases hh),h2⟩
instance:TL LX.t3 LX.g3 3 1:= {}
instance:TL LX.t4 LX.g4 4 1:= {}
instance:TL LX.t5 LX.g5 5 1:= {}
instance:TL LX.t9 LX.g9 9 1:= {}
instance:TL LX.t32 LX.g32 32 6:= {}
instance:TL LX.t46 LX.g46 46 6:= {}
instance:TL LX.t61 LX.g61 61 1:= {}
instance:TL LX.t66 LX.g66 66 13:= {}
instance:TL LX.t69 LX.g69 69 14:= {}
instance:TL LX.t78 LX.g78 78 4:= {}
instance:TL LX.t86 LX.g86 86 17:= {}
instance:TL LX.t89 LX.g89 89 3:= {}
instance:TL LX.t90 LX.g90 90 1:= {}
instance:TL LX.t93 LX.g93 93 4:= {}
instance:TL LX.t98 LX.g98 98 4:= {}
instance:TL LX.t100 LX.g100 100 20:= {}
instance:TL LX.t109 LX.g109 109 2:= {}
instance:TL LX.t115 LX.g115 115 2:= {}
instance:TL LX.t123 LX.g123 123 3:= {}
instance:TL LX.t127 LX.g127 127 3:= {}
instance:TL LX.t135 LX.g135 135 2:= {}
instance:TL LX.t150 LX.g150 150 5:= {}
instance:TL LX.t154 LX.g154 154 3:= {}
instance:TL LX.t156 LX.g156 156 3:= {}
instance:TL LX.t178 LX.g178 178 3:= {}
instance:TL LX.t186 LX.g186 186 2:= {}
instance:TL LX.t190 LX.g190 190 9:= {}
instance:TL LX.t200 LX.g200 200 2:= {}
instance:TL LX.t203 LX.g203 203 3:= {}
instance:TL LX.t205 LX.g205 205 9:= {}
instance:TL LX.t216 LX.g216 216 2:= {}
instance:TL LX.t264 LX.g264 264 21:= {}
instance:TL LX.t275 LX.g275 275 2:= {}
instance:TL LX.t277 LX.g277 277 5:= {}
def B4(x:Ad):List PV:= [.val (.string x.Name),.lst false (.t69 x.Sites),.lst false (.t127 x.Links)]
def Am6:RF Ad:=RF.to (oT.c ((oW LX.t69).c ((oW LX.t127).o))) (fun(a0,a1,a2)=> .mk a0 a1 a2) B4
def Abw(x:Kg):List PV:= [.val (.string x.P.Name),.lst false (.t69 x.P.Sites),.lst false (.t127 x.P.Links),.lst false (.t46 x.Recs),.val (.int .i64 x.Site),.val (.int .i64 x.T),.val (.int .i64 x.Step),.val (.int .i64 x.N)]
def Xm(x:Bc):List PV:= [.val (.int .i64 x.Time),.val (.int .i64 x.Site),.lst false (.t3 x.Procs),.lst false (.t3 x.Held),.lst false (.t3 x.Waiting),.lst false (.t3 x.Items)]
def Ur:RF Bc:=RF.to ((oI .i64).c ((oI .i64).c ((oW LX.t3).c ((oW LX.t3).c ((oW LX.t3).c ((oW LX.t3).o)))))) (fun(a0,a1,a2,a3,a4,a5)=> .mk a0 a1 a2 a3 a4 a5) Xm
def Ou(x:Bo):List PV:= [.val (.int .i64 x.Time),.val (.int .i64 x.Site),.val (.int .i64 x.What),.val (.int .i64 x.Proc),.val (.int .i64 x.Index),.val (.int .i64 x.Value)]
def Ab8:RF Bo:=RF.to ((oI .i64).c ((oI .i64).c ((oI .i64).c ((oI .i64).c ((oI .i64).c ((oI .i64).o)))))) (fun(a0,a1,a2,a3,a4,a5)=> .mk a0 a1 a2 a3 a4 a5) Ou
def Ae(x:Aa):List PV:= [.val (.string x.Name),.lst false (.t123 x.Vars),.lst false (.t86 x.Resources),.lst false (.t89 x.Stores),.lst false (.t178 x.Belts),.lst false (.t9 x.Queues),.lst false (.t9 x.Streams),.lst false (.t9 x.Tallies),.lst false (.t9 x.Levels),.lst false (.t9 x.Counts),.lst false (.t93 x.Routines),.lst false (.t150 x.Starts),.lst false (.t154 x.Laws)]
def N4:RF Aa:=RF.to (oT.c ((oW LX.t123).c ((oW LX.t86).c ((oW LX.t89).c ((oW LX.t178).c ((oW LX.t9).c ((oW LX.t9).c ((oW LX.t9).c ((oW LX.t9).c ((oW LX.t9).c ((oW LX.t93).c ((oW LX.t150).c ((oW LX.t154).o))))))))))))) (fun(a0,a1,a2,a3,a4,a5,a6,a7,a8,a9,a10,a11,a12)=> .mk a0 a1 a2 a3 a4 a5 a6 a7 a8 a9 a10 a11 a12) Ae
def Mo(x:Bk):List PV:= [.val (.string x.Decl.Name),.lst false (.t123 x.Decl.Vars),.lst false (.t86 x.Decl.Resources),.lst false (.t89 x.Decl.Stores),.lst false (.t178 x.Decl.Belts),.lst false (.t9 x.Decl.Queues),.lst false (.t9 x.Decl.Streams),.lst false (.t9 x.Decl.Tallies),.lst false (.t9 x.Decl.Levels),.lst false (.t9 x.Decl.Counts),.lst false (.t93 x.Decl.Routines),.lst false (.t150 x.Decl.Starts),.lst false (.t154 x.Decl.Laws),.lst false (.t78 x.Routines)]
def N3:RF Bk:=RF.to (oT.c ((oW LX.t123).c ((oW LX.t86).c ((oW LX.t89).c ((oW LX.t178).c ((oW LX.t9).c ((oW LX.t9).c ((oW LX.t9).c ((oW LX.t9).c ((oW LX.t9).c ((oW LX.t93).c ((oW LX.t150).c ((oW LX.t154).c ((oW LX.t78).o)))))))))))))) (fun(a0,a1,a2,a3,a4,a5,a6,a7,a8,a9,a10,a11,a12,a13)=> .mk (.mk a0 a1 a2 a3 a4 a5 a6 a7 a8 a9 a10 a11 a12) a13) Mo
def B2(x:Aq):List PV:= [.val (.string x.Name),.lst false (.t123 x.Params),.lst false (.t66 x.Sites),.lst false (.t156 x.Links)]
def Ary:RF Aq:=RF.to (oT.c ((oW LX.t123).c ((oW LX.t66).c ((oW LX.t156).o)))) (fun(a0,a1,a2,a3)=> .mk a0 a1 a2 a3) B2
def Aff(x:Bu):List PV:= [.val (.string x.Name),.val (.int .i64 x.Params),.val (.int .i64 x.Slots),.lst false (.t100 x.Instrs)]
def Xw:RF Bu:=RF.to (oT.c ((oI .i64).c ((oI .i64).c ((oW LX.t100).o)))) (fun(a0,a1,a2,a3)=> .mk a0 a1 a2 a3) Aff
def Al3(x:Cp):List PV:= [.val (.int .i64 x.Op),.val (.int .i64 x.A),.val (.int .i64 x.B),.val (.int .i64 x.N),.lst false (.t3 x.Values),.lst false (.t3 x.Weights)]
def Auw:RF Cp:=RF.to ((oI .i64).c ((oI .i64).c ((oI .i64).c ((oI .i64).c ((oW LX.t3).c ((oW LX.t3).o)))))) (fun(a0,a1,a2,a3,a4,a5)=> .mk a0 a1 a2 a3 a4 a5) Al3
def Aj6(x:Ml):List PV:= [.val (.string x.Stream),.val (.int .i64 x.Up.Op),.val (.int .i64 x.Up.A),.val (.int .i64 x.Up.B),.val (.int .i64 x.Up.N),.lst false (.t3 x.Up.Values),.lst false (.t3 x.Up.Weights),.val (.int .i64 x.Down.Op),.val (.int .i64 x.Down.A),.val (.int .i64 x.Down.B),.val (.int .i64 x.Down.N),.lst false (.t3 x.Down.Values),.lst false (.t3 x.Down.Weights)]
def Arx:RF Ml:=RF.to (oT.c ((oI .i64).c ((oI .i64).c ((oI .i64).c ((oI .i64).c ((oW LX.t3).c ((oW LX.t3).c ((oI .i64).c ((oI .i64).c ((oI .i64).c ((oI .i64).c ((oW LX.t3).c ((oW LX.t3).o))))))))))))) (fun(a0,a1,a2,a3,a4,a5,a6,a7,a8,a9,a10,a11,a12)=> .mk a0 (.mk a1 a2 a3 a4 a5 a6) (.mk a7 a8 a9 a10 a11 a12)) Aj6
def B8(x:Ap):List PV:= [.val (.string x.Name),.val (.int .i64 x.Units),.lst false (.t216 x.Shift),.val (.int .i64 x.Cycle),.val (.string x.Fault.Stream),.val (.int .i64 x.Fault.Up.Op),.val (.int .i64 x.Fault.Up.A),.val (.int .i64 x.Fault.Up.B),.val (.int .i64 x.Fault.Up.N),.lst false (.t3 x.Fault.Up.Values),.lst false (.t3 x.Fault.Up.Weights),.val (.int .i64 x.Fault.Down.Op),.val (.int .i64 x.Fault.Down.A),.val (.int .i64 x.Fault.Down.B),.val (.int .i64 x.Fault.Down.N),.lst false (.t3 x.Fault.Down.Values),.lst false (.t3 x.Fault.Down.Weights)]
def Jd:RF Ap:=RF.to (oT.c ((oI .i64).c ((oW LX.t216).c ((oI .i64).c (oT.c ((oI .i64).c ((oI .i64).c ((oI .i64).c ((oI .i64).c ((oW LX.t3).c ((oW LX.t3).c ((oI .i64).c ((oI .i64).c ((oI .i64).c ((oI .i64).c ((oW LX.t3).c ((oW LX.t3).o))))))))))))))))) (fun(a0,a1,a2,a3,a4,a5,a6,a7,a8,a9,a10,a11,a12,a13,a14,a15,a16)=> .mk a0 a1 a2 a3 (.mk a4 (.mk a5 a6 a7 a8 a9 a10) (.mk a11 a12 a13 a14 a15 a16))) B8
def Cv(x:Av):List PV:= [.val (.string x.Name),.val (.int .i64 x.Room),.val (.int .i64 x.Policy)]
def Qy:RF Av:=RF.to (oT.c ((oI .i64).c ((oI .i64).o))) (fun(a0,a1,a2)=> .mk a0 a1 a2) Cv
def Cs(x:Ao):List PV:= [.val (.string x.Name),.lst false (.t200 x.Params),.lst false (.t200 x.Locals),.lst false (.t264 x.Body)]
def P8:RF Ao:=RF.to (oT.c ((oW LX.t200).c ((oW LX.t200).c ((oW LX.t264).o)))) (fun(a0,a1,a2,a3)=> .mk a0 a1 a2 a3) Cs
def Dc(x:Ab):List PV:= [.val (.int .i64 x.Op),.val (.string x.Name),.val (.int .i64 x.N),.lst false (.t98 x.Kids)]
def Xx:RF Ab:=RF.to ((oI .i64).c (oT.c ((oI .i64).c ((oW LX.t98).o)))) (fun(a0,a1,a2,a3)=> .mk a0 a1 a2 a3) Dc
def Adh(x:Bm):List PV:= [.val (.int .i64 x.Op),.val (.int .i64 x.A),.val (.int .i64 x.B),.val (.int .i64 x.C),.val (.int .i64 x.E.Op),.val (.string x.E.Name),.val (.int .i64 x.E.N),.lst false (.t98 x.E.Kids),.val (.int .i64 x.F.Op),.val (.string x.F.Name),.val (.int .i64 x.F.N),.lst false (.t98 x.F.Kids),.lst false (.t98 x.Args),.val (.int .i64 x.Dist.Op),.val (.int .i64 x.Dist.A),.val (.int .i64 x.Dist.B),.val (.int .i64 x.Dist.N),.lst false (.t3 x.Dist.Values),.lst false (.t3 x.Dist.Weights),.val (.bool x.Flag)]
def Us:RF Bm:=RF.to ((oI .i64).c ((oI .i64).c ((oI .i64).c ((oI .i64).c ((oI .i64).c (oT.c ((oI .i64).c ((oW LX.t98).c ((oI .i64).c (oT.c ((oI .i64).c ((oW LX.t98).c ((oW LX.t98).c ((oI .i64).c ((oI .i64).c ((oI .i64).c ((oI .i64).c ((oW LX.t3).c ((oW LX.t3).c oB.o))))))))))))))))))) (fun(a0,a1,a2,a3,a4,a5,a6,a7,a8,a9,a10,a11,a12,a13,a14,a15,a16,a17,a18,a19)=> .mk a0 a1 a2 a3 (.mk a4 a5 a6 a7) (.mk a8 a9 a10 a11) a12 (.mk a13 a14 a15 a16 a17 a18) a19) Adh
def As9(x:Aw):List PV:= [.val (.int .i64 x.u_proc),.val (.int .i64 x.u_resource)]
def Lo:RF Aw:=RF.to ((oI .i64).c ((oI .i64).o)) (fun(a0,a1)=> .mk a0 a1) As9
def B9(x:Ax):List PV:= [.val (.string x.Name),.val (.int .i64 x.Type_),.val (.int .i64 x.N)]
def Zf:RF Ax:=RF.to (oT.c ((oI .i64).c ((oI .i64).o))) (fun(a0,a1,a2)=> .mk a0 a1 a2) B9
def Aor(x:D2):List PV:= [.val (.int .i64 x.From),.val (.int .i64 x.To),.val (.int .i64 x.Delay)]
def Ab6:RF D2:=RF.to ((oI .i64).c ((oI .i64).c ((oI .i64).o))) (fun(a0,a1,a2)=> .mk a0 a1 a2) Aor
def Awc(x:Dx):List PV:= [.val (.int .i64 x.a0),.val (.int .i64 x.a1)]
def m9:RF Dx:=RF.to ((oI .i64).c ((oI .i64).o)) (fun(a0,a1)=> .mk a0 a1) Awc
def Dl(x:Ar):List PV:= [.val (.string x.u_p.Name),.lst false (.t69 x.u_p.Sites),.lst false (.t127 x.u_p.Links),.val (.int .i64 x.u_site),.val (.string x.u_c.Name),.val (.int .i64 x.u_c.Params),.val (.int .i64 x.u_c.Slots),.lst false (.t100 x.u_c.Instrs)]
def Aof:RF Ar:=RF.to (oT.c ((oW LX.t69).c ((oW LX.t127).c ((oI .i64).c (oT.c ((oI .i64).c ((oI .i64).c ((oW LX.t100).o)))))))) (fun(a0,a1,a2,a3,a4,a5,a6,a7)=> .mk (.mk a0 a1 a2) a3 (.mk a4 a5 a6 a7)) Dl
def Adi(x:Cl):List PV:= [.val (.string x.Routine),.lst false (.t3 x.Args),.val (.int .i64 x.At),.val (.int .i64 x.Every),.val (.int .i64 x.Until)]
def Ut:RF Cl:=RF.to (oT.c ((oW LX.t3).c ((oI .i64).c ((oI .i64).c ((oI .i64).o))))) (fun(a0,a1,a2,a3,a4)=> .mk a0 a1 a2 a3 a4) Adi
def Dw(x:Bh):List PV:= [.val (.string x.Name),.lst false (.t203 x.Terms),.val (.int .i64 x.Total)]
def Ab7:RF Bh:=RF.to (oT.c ((oW LX.t203).c ((oI .i64).o))) (fun(a0,a1,a2)=> .mk a0 a1 a2) Dw
def Nq(x:B5):List PV:= [.val (.string x.From),.val (.string x.To),.val (.int .i64 x.Delay)]
def p9:RF B5:=RF.to (oT.c (oT.c ((oI .i64).o))) (fun(a0,a1,a2)=> .mk a0 a1 a2) Nq
def C1(x:Bd):List PV:= [.val (.string x.Name),.val (.int .i64 x.Length),.val (.int .i64 x.Step)]
def Sz:RF Bd:=RF.to (oT.c ((oI .i64).c ((oI .i64).o))) (fun(a0,a1,a2)=> .mk a0 a1 a2) C1
def Aia(x:Br):List PV:= [.val (.string x.a0),.val (.string x.a1)]
def O7:RF Br:=RF.to (oT.c oT.o) (fun(a0,a1)=> .mk a0 a1) Aia
def Aj7(x:Qr):List PV:= [.val (.string x.u_word),.val (.int .i64 x.u_a),.val (.int .i64 x.u_b),.val (.bool x.u_c),.val (.bool x.u_e),.val (.bool x.u_f),.val (.bool x.u_args),.val (.bool x.u_dist),.val (.bool x.u_preempt)]
def Zg:RF Qr:=RF.to (oT.c ((oI .i64).c ((oI .i64).c (oB.c (oB.c (oB.c (oB.c (oB.c oB.o)))))))) (fun(a0,a1,a2,a3,a4,a5,a6,a7,a8)=> .mk a0 a1 a2 a3 a4 a5 a6 a7 a8) Aj7
def P3(x:Ba):List PV:= [.val (.string x.Name),.val (.int .i64 x.Type_)]
def Ze:RF Ba:=RF.to (oT.c ((oI .i64).o)) (fun(a0,a1)=> .mk a0 a1) P3
def Ki(x:Be):List PV:= [.val (.int .i64 x.Coef),.val (.string x.What),.val (.string x.Name)]
def Xz:RF Be:=RF.to ((oI .i64).c (oT.c oT.o)) (fun(a0,a1,a2)=> .mk a0 a1 a2) Ki
def Awd(x:Age):List PV:= [.val (.string x.Word),.val (.string x.A),.val (.string x.B),.val (.bool x.C),.val (.bool x.E),.val (.bool x.F),.val (.bool x.Flag),.val (.bool x.Args),.val (.bool x.Dist)]
def o0:RF Age:=RF.to (oT.c (oT.c (oT.c (oB.c (oB.c (oB.c (oB.c (oB.c oB.o)))))))) (fun(a0,a1,a2,a3,a4,a5,a6,a7,a8)=> .mk a0 a1 a2 a3 a4 a5 a6 a7 a8) Awd
def Ag0(x:Ew):List PV:= [.val (.int .i64 x.At),.val (.int .i64 x.Units)]
def Xc:RF Ew:=RF.to ((oI .i64).c ((oI .i64).o)) (fun(a0,a1)=> .mk a0 a1) Ag0
def Ata(x:Bj):List PV:= [.val (.bool x.u_code)]
def Arz:RF Bj:=RF.to (oB.o) (fun a0=> .mk a0) Ata
def Vp(x:Ag):List PV:= [.val (.int .i64 x.Op),.val (.string x.Name),.val (.string x.Of),.val (.int .i64 x.E.Op),.val (.string x.E.Name),.val (.int .i64 x.E.N),.lst false (.t98 x.E.Kids),.val (.int .i64 x.F.Op),.val (.string x.F.Name),.val (.int .i64 x.F.N),.lst false (.t98 x.F.Kids),.lst false (.t98 x.Args),.val (.int .i64 x.Dist.Op),.val (.int .i64 x.Dist.A),.val (.int .i64 x.Dist.B),.val (.int .i64 x.Dist.N),.lst false (.t3 x.Dist.Values),.lst false (.t3 x.Dist.Weights),.val (.bool x.Flag),.lst false (.t264 x.Body),.lst false (.t264 x.Else)]
def Xy:RF Ag:=RF.to ((oI .i64).c (oT.c (oT.c ((oI .i64).c (oT.c ((oI .i64).c ((oW LX.t98).c ((oI .i64).c (oT.c ((oI .i64).c ((oW LX.t98).c ((oW LX.t98).c ((oI .i64).c ((oI .i64).c ((oI .i64).c ((oI .i64).c ((oW LX.t3).c ((oW LX.t3).c (oB.c ((oW LX.t264).c ((oW LX.t264).o))))))))))))))))))))) (fun(a0,a1,a2,a3,a4,a5,a6,a7,a8,a9,a10,a11,a12,a13,a14,a15,a16,a17,a18,a19,a20)=> .mk a0 a1 a2 (.mk a3 a4 a5 a6) (.mk a7 a8 a9 a10) a11 (.mk a12 a13 a14 a15 a16 a17) a18 a19 a20) Vp
def Vq(x:Bp):List PV:= [.val (.bool x.u_name),.val (.bool x.u_of),.val (.bool x.u_e),.val (.bool x.u_f),.val (.bool x.u_args),.val (.bool x.u_dist),.val (.bool x.u_flag),.val (.bool x.u_body),.val (.bool x.u_other)]
def Aux:RF Bp:=RF.to (oB.c (oB.c (oB.c (oB.c (oB.c (oB.c (oB.c (oB.c oB.o)))))))) (fun(a0,a1,a2,a3,a4,a5,a6,a7,a8)=> .mk a0 a1 a2 a3 a4 a5 a6 a7 a8) Vq
def Aq1(x:Fs):List PV:= [.val (.bool x.u_is),.val (.string x.u_name)]
def Xb:RF Fs:=RF.to (oB.c oT.o) (fun(a0,a1)=> .mk a0 a1) Aq1
def A28(x:Ma):List PV:= [.val (.bool x.u_is),.val (.int .i64 x.u_e.Op),.val (.string x.u_e.Name),.val (.int .i64 x.u_e.N),.lst false (.t98 x.u_e.Kids)]
def Ab5:RF Ma:=RF.to (oB.c ((oI .i64).c (oT.c ((oI .i64).c ((oW LX.t98).o))))) (fun(a0,a1,a2,a3,a4)=> .mk a0 (.mk a1 a2 a3 a4)) A28
def lT{α :Type}(K:List α→LX)(f:RF α)(rs:List (List PV)):Option LX:=Oy K (A27 f.d rs)
def sT{α :Type} [Inhabited α](K:List α→LX)(f:RF α)(l:List α)(i off:Nat)(c:List PV):Option LX:=Bk5 (Amf (f.w (l.getD i default)) (off+c.length)) (fun a=>K (l.set i a)) (f.d (Jx (f.w (l.getD i default)) off c))
def RF.r{α :Type} [Inhabited α](f:RF α)(l:List α)(i:Nat):List PV:=f.w (l.getD i default)
def LX.row(x:LX)(i:Nat):List PV:=match x with
 | .t3 l=>(oI .i64).o.r l i
 | .t4 l=>oB.o.r l i
 | .t5 l=>(oI .u8).o.r l i
 | .t9 l=>oT.o.r l i
 | .t32 l=>Ur.r l i
 | .t46 l=>Ab8.r l i
 | .t61 l=>(oW LX.t9).o.r l i
 | .t66 l=>N4.r l i
 | .t69 l=>N3.r l i
 | .t78 l=>Xw.r l i
 | .t86 l=>Jd.r l i
 | .t89 l=>Qy.r l i
 | .t90 l=>(oW LX.t200).o.r l i
 | .t93 l=>P8.r l i
 | .t98 l=>Xx.r l i
 | .t100 l=>Us.r l i
 | .t109 l=>Lo.r l i
 | .t115 l=>Lo.r l i
 | .t123 l=>Zf.r l i
 | .t127 l=>Ab6.r l i
 | .t135 l=>m9.r l i
 | .t150 l=>Ut.r l i
 | .t154 l=>Ab7.r l i
 | .t156 l=>p9.r l i
 | .t178 l=>Sz.r l i
 | .t186 l=>O7.r l i
 | .t190 l=>Zg.r l i
 | .t200 l=>Ze.r l i
 | .t203 l=>Xz.r l i
 | .t205 l=>o0.r l i
 | .t216 l=>Xc.r l i
 | .t264 l=>Xy.r l i
 | .t275 l=>Xb.r l i
 | .t277 l=>Ab5.r l i
def LX.set(x:LX)(i off:Nat)(c:List PV):Option LX:=match x with
 | .t3 l=>sT .t3 (oI .i64).o l i off c
 | .t4 l=>sT .t4 oB.o l i off c
 | .t5 l=>sT .t5 (oI .u8).o l i off c
 | .t9 l=>sT .t9 oT.o l i off c
 | .t32 l=>sT .t32 Ur l i off c
 | .t46 l=>sT .t46 Ab8 l i off c
 | .t61 l=>sT .t61 (oW LX.t9).o l i off c
 | .t66 l=>sT .t66 N4 l i off c
 | .t69 l=>sT .t69 N3 l i off c
 | .t78 l=>sT .t78 Xw l i off c
 | .t86 l=>sT .t86 Jd l i off c
 | .t89 l=>sT .t89 Qy l i off c
 | .t90 l=>sT .t90 (oW LX.t200).o l i off c
 | .t93 l=>sT .t93 P8 l i off c
 | .t98 l=>sT .t98 Xx l i off c
 | .t100 l=>sT .t100 Us l i off c
 | .t109 l=>sT .t109 Lo l i off c
 | .t115 l=>sT .t115 Lo l i off c
 | .t123 l=>sT .t123 Zf l i off c
 | .t127 l=>sT .t127 Ab6 l i off c
 | .t135 l=>sT .t135 m9 l i off c
 | .t150 l=>sT .t150 Ut l i off c
 | .t154 l=>sT .t154 Ab7 l i off c
 | .t156 l=>sT .t156 p9 l i off c
 | .t178 l=>sT .t178 Sz l i off c
 | .t186 l=>sT .t186 O7 l i off c
 | .t190 l=>sT .t190 Zg l i off c
 | .t200 l=>sT .t200 Ze l i off c
 | .t203 l=>sT .t203 Xz l i off c
 | .t205 l=>sT .t205 o0 l i off c
 | .t216 l=>sT .t216 Xc l i off c
 | .t264 l=>sT .t264 Xy l i off c
 | .t275 l=>sT .t275 Xb l i off c
 | .t277 l=>sT .t277 Ab5 l i off c
def tbl:List (Nat×(List (List PV)→Option LX)):= [(3,lT .t3 (oI .i64).o),(4,lT .t4 oB.o),(5,lT .t5 (oI .u8).o),(9,lT .t9 oT.o),(32,lT .t32 Ur),(46,lT .t46 Ab8),(61,lT .t61 (oW LX.t9).o),(66,lT .t66 N4),(69,lT .t69 N3),(78,lT .t78 Xw),(86,lT .t86 Jd),(89,lT .t89 Qy),(90,lT .t90 (oW LX.t200).o),(93,lT .t93 P8),(98,lT .t98 Xx),(100,lT .t100 Us),(109,lT .t109 Lo),(115,lT .t115 Lo),(123,lT .t123 Zf),(127,lT .t127 Ab6),(135,lT .t135 m9),(150,lT .t150 Ut),(154,lT .t154 Ab7),(156,lT .t156 p9),(178,lT .t178 Sz),(186,lT .t186 O7),(190,lT .t190 Zg),(200,lT .t200 Ze),(203,lT .t203 Xz),(205,lT .t205 o0),(216,lT .t216 Xc),(264,lT .t264 Xy),(275,lT .t275 Xb),(277,lT .t277 Ab5)]
def lkT:List (Nat×(List (List PV)→Option LX))→Nat→List (List PV)→Option LX
 | [],_,_=>none
 |(a,f)::r,e,rs=>match Nat.beq e a with
  |true=>f rs
  |false=>lkT r e rs
def LX.lit(e:Nat)(rs:List (List PV)):Option LX:=lkT tbl e rs
def LX.nil(e:Nat):Option LX:=lkT tbl e []
class TG {α :Type} [Inhabited α] (K:List α→LX) (f:outParam (RF α)):Prop where
 row:∀l i,(K l).row i=f.w (l.getD i default):=by intro l i;rfl
 sz:∀a l,(f.w a).length=(K l).sz:=by intro a l;rfl
instance:TG LX.t3 (oI .i64).o:= {}
instance:TG LX.t4 oB.o:= {}
instance:TG LX.t5 (oI .u8).o:= {}
instance:TG LX.t9 oT.o:= {}
instance:TG LX.t32 Ur:= {}
instance:TG LX.t46 Ab8:= {}
instance:TG LX.t61 (oW LX.t9).o:= {}
instance:TG LX.t66 N4:= {}
instance:TG LX.t69 N3:= {}
instance:TG LX.t78 Xw:= {}
instance:TG LX.t86 Jd:= {}
instance:TG LX.t89 Qy:= {}
instance:TG LX.t90 (oW LX.t200).o:= {}
instance:TG LX.t93 P8:= {}
instance:TG LX.t98 Xx:= {}
instance:TG LX.t100 Us:= {}
instance:TG LX.t109 Lo:= {}
instance:TG LX.t115 Lo:= {}
instance:TG LX.t123 Zf:= {}
instance:TG LX.t127 Ab6:= {}
instance:TG LX.t135 m9:= {}
instance:TG LX.t150 Ut:= {}
instance:TG LX.t154 Ab7:= {}
instance:TG LX.t156 p9:= {}
instance:TG LX.t178 Sz:= {}
instance:TG LX.t186 O7:= {}
instance:TG LX.t190 Zg:= {}
instance:TG LX.t200 Ze:= {}
instance:TG LX.t203 Xz:= {}
instance:TG LX.t205 o0:= {}
instance:TG LX.t216 Xc:= {}
instance:TG LX.t264 Xy:= {}
instance:TG LX.t275 Xb:= {}
instance:TG LX.t277 Ab5:= {}
def LX.find(x:LX)(c:List PV):Option (Option Nat):=match x,c with
 | .t3 l,[.val (.int k0 a0)]=>match decide (k0= .i64) with
  |true=>some (l.findIdx? fun b=>a0 == b)
  |_=>none
 | .t4 l,[.val (.bool a0)]=>some (l.findIdx? fun b=>a0 == b)
 | .t5 l,[.val (.int k0 a0)]=>match decide (k0= .u8) with
  |true=>some (l.findIdx? fun b=>a0 == b)
  |_=>none
 | .t9 l,[.val (.string a0)]=>some (l.findIdx? fun b=>a0 == b)
 | .t109 l,[.val (.int k0 a0),.val (.int k1 a1)]=>match decide (k0= .i64),decide (k1= .i64) with
  |true,true=>some (l.findIdx? fun b=>(a0 == b.u_proc && (a1 == b.u_resource)))
  |_,_=>none
 | .t135 l,[.val (.int k0 a0),.val (.int k1 a1)]=>match decide (k0= .i64),decide (k1= .i64) with
  |true,true=>some (l.findIdx? fun b=>(a0 == b.a0 && (a1 == b.a1)))
  |_,_=>none
 | .t186 l,[.val (.string a0),.val (.string a1)]=>some (l.findIdx? fun b=>(a0 == b.a0 && (a1 == b.a1)))
 |_,_=>none
def LX.push(x:LX)(c:List PV):Option LX:=match LX.lit x.e [c] with
 |some y=>x.cat y
 |none=>none
theorem Awo{α :Type} [Inhabited α](l m:List α)(i:Nat)(h:i < l.length):(l++m).getD i default=l.getD i default:=by
 simp [List.getD,List.getElem?_append_left h]
theorem Awp{α :Type} [Inhabited α](l m:List α)(i:Nat):(l++m).getD (l.length+i) default=m.getD i default:=by
 simp [List.getD,List.getElem?_append_right]
theorem A5t{α :Type} [Inhabited α](l:List α)(a b i:Nat)(h1:b≤l.length)(h2:i < b - a):((l.take b).drop a).getD i default=l.getD (a+i) default:=by
 simp only [List.getD_eq_getElem?_getD,List.getElem?_drop,List.getElem?_take]
 rw [if_pos (by omega)]
theorem A5s{α :Type} [Inhabited α](n i:Nat)(a: α)(h:i < n):(List.replicate n a).getD i default=a:=by
 simp [List.getD_eq_getElem?_getD,List.getElem?_replicate,h]
theorem Atl{α :Type} [Inhabited α](l:List α)(i:Nat)(a: α)(h:i < l.length):(l.set i a).getD i default=a:=by
 simp [List.getD_eq_getElem?_getD,h]
theorem Atm{α :Type} [Inhabited α](l:List α)(i j:Nat)(a: α)(h:j≠i):(l.set i a).getD j default=l.getD j default:=by
 simp [List.getD_eq_getElem?_getD,List.getElem?_set_ne (fun e=>h e.symm)]
theorem Za{α :Type} [Inhabited α](l:List α)(i:Nat)(h:i < l.length):l.getD i default=l[i]:=by
 simp [List.getD_eq_getElem?_getD,h]
theorem Awx(l:List PV):∀n,Amf l n=true↔n≤l.length:=by
 induction l with
 |nil=>intro n;cases n<;>simp [Amf]
 |cons p r ih=>intro n;cases n<;>simp [Amf,ih]
section
variable {α :Type} [Inhabited α] {K:List α→LX} {f:RF α} {g:LX→Option (List α)} {e sz:Nat}
theorem Boo [q:TG K f](l:List α)(i:Nat):∀p∈(K l).row i,p.flat=true:=Aoz _ (by rw [q.row];exact f.fl _)
theorem Bop [q:TG K f](l:List α)(i:Nat):((K l).row i).length=(K l).sz:=by rw [q.row];exact q.sz _ _
def A4t(p:Nat×(List (List PV)→Option LX)):Prop:=∀rs x,p.2 rs=some x→x.e=p.1∧x.len=rs.length∧∀(i:Nat) (r:List PV),rs[i]? =some r→Tn r (x.row i)
theorem Bof [k:TL K g e sz] [q:TG K f]:A4t (e,lT K f):=by
 intro rs x h
 simp only [lT,Oy] at h
 cases hl:A27 f.d rs with
 |none=>rw [hl] at h;cases h
 |some l=>
  rw [hl] at h
  injection h with h;subst h
  obtain ⟨q1,q2⟩:=Aoq f.le rs l hl
  exact ⟨k.e _,by rw [k.len];exact q1,fun i r hr=>by rw [q.row];exact q2 i r hr⟩
theorem Boa [k:TL K g e sz] [q:TG K f]{y z:LX}{l:List α}(h:Oy (fun m=>K (l++m)) (g y)=some z):y.e=(K l).e∧z.e=(K l).e∧y.sz=(K l).sz∧z.sz=(K l).sz∧z.len=(K l).len+y.len∧(∀i,i < (K l).len→z.row i=(K l).row i)∧(∀i,z.row ((K l).len+i)=y.row i):=by
 cases hg:g y with
 |none=>rw [hg] at h;cases h
 |some m=>
  rw [hg] at h
  injection h with h;subst h
  rw [k.gk y m hg]
  simp only [k.e,k.sz,k.len,q.row,List.length_append,true_and]
  exact ⟨fun i hi=>by rw [Awo l m i hi],fun i=>by rw [Awp]⟩
theorem Bpo [k:TL K g e sz] [q:TG K f](l:List α)(a b:Nat)(h:b≤(K l).len):(K ((l.take b).drop a)).e=(K l).e∧(K ((l.take b).drop a)).sz=(K l).sz∧(K ((l.take b).drop a)).len=b - a∧∀i,i < b - a→(K ((l.take b).drop a)).row i=(K l).row (a+i):=by
 simp only [k.e,k.sz,k.len,q.row,true_and] at h ⊢
 exact ⟨by simp;omega,fun i hi=>by rw [A5t l a b i h hi]⟩
theorem Bon [k:TL K g e sz] [q:TG K f](l:List α)(n:Nat):(K (List.replicate n (l.getD 0 default))).e=(K l).e∧(K (List.replicate n (l.getD 0 default))).sz=(K l).sz∧(K (List.replicate n (l.getD 0 default))).len=n∧∀i,i < n→(K (List.replicate n (l.getD 0 default))).row i=(K l).row 0:=by
 simp only [k.e,k.sz,k.len,q.row,true_and]
 exact ⟨List.length_replicate,fun i hi=>by rw [A5s n i _ hi]⟩
theorem Bpn [k:TL K g e sz] [q:TG K f]{i off:Nat}{c:List PV}{l:List α}{y:LX}(h:sT K f l i off c=some y):y.e=(K l).e∧y.sz=(K l).sz∧y.len=(K l).len∧off+c.length≤(K l).sz∧(i < (K l).len→Tn (Jx ((K l).row i) off c) (y.row i))∧∀j,j≠i→y.row j=(K l).row j:=by
 unfold sT Bk5 at h
 split at h
 ·rename_i a h1 h2
  injection h with h;subst h
  simp only [k.e,k.sz,k.len,q.row,true_and]
  refine ⟨List.length_set,by rw [←k.sz l,←q.sz (l.getD i default) l];exact (Awx _ _).1 h1,fun hi=> ?_,fun j hj=> ?_⟩
  ·rw [Atl l i a hi]
   exact f.le _ _ h2
  ·rw [Atm l i j a hj]
 ·cases h
end
theorem LX.row_len(x:LX)(i:Nat):(x.row i).length=x.sz:=by cases x<;>exact Bop _ _
theorem LX.row_flat(x:LX)(i:Nat):∀p∈x.row i,p.flat=true:=by cases x<;>exact Boo _ _
def Bee:List (Nat×(List (List PV)→Option LX))→Prop
 | []=>True
 |p::r=>A4t p∧Bee r
theorem Bme:Bee tbl:=by
 unfold tbl
 repeat (first|exact trivial|refine ⟨Bof,?_⟩)
theorem A62:∀(l:List (Nat×(List (List PV)→Option LX))),Bee l→∀e,A4t (e,lkT l e)
 | [],_,e,rs,x,h=>by cases h
 |(a,f)::r,hl,e,rs,x,h=>by
  change (match Nat.beq e a with
   |true=>f rs
   |false=>lkT r e rs)=some x at h
  cases hb:Nat.beq e a with
  |true=>
   rw [hb] at h
   rw [Nat.eq_of_beq_eq_true hb]
   exact hl.1 rs x h
  |false=>
   rw [hb] at h
   exact A62 r hl.2 e rs x h
theorem LX.lit_spec(e:Nat)(rs:List (List PV))(x:LX)(h:LX.lit e rs=some x):x.e=e∧x.len=rs.length∧∀(i:Nat) (r:List PV),rs[i]? =some r→Tn r (x.row i):=A62 tbl Bme e rs x h
theorem LX.nil_spec(e:Nat)(x:LX)(h:LX.nil e=some x):x.e=e∧x.len=0:=⟨(LX.lit_spec e [] x h).1,(LX.lit_spec e [] x h).2.1⟩
theorem LX.cat_spec(x y z:LX)(h:x.cat y=some z):y.e=x.e∧z.e=x.e∧y.sz=x.sz∧z.sz=x.sz∧z.len=x.len+y.len∧(∀i,i < x.len→z.row i=x.row i)∧(∀i,z.row (x.len+i)=y.row i):=by cases x<;>exact Boa h
theorem LX.sub_spec(x:LX)(a b:Nat)(h:b≤x.len):(x.sub a b).e=x.e∧(x.sub a b).sz=x.sz∧(x.sub a b).len=b - a∧∀i,i < b - a→(x.sub a b).row i=x.row (a+i):=by cases x<;>exact Bpo _ a b h
theorem LX.rep_spec(x:LX)(n:Nat):(x.rep n).e=x.e∧(x.rep n).sz=x.sz∧(x.rep n).len=n∧∀i,i < n→(x.rep n).row i=x.row 0:=by cases x<;>exact Bon _ n
theorem LX.set_spec(x:LX)(i off:Nat)(c:List PV)(y:LX)(h:LX.set x i off c=some y):y.e=x.e∧y.sz=x.sz∧y.len=x.len∧off+c.length≤x.sz∧(i < x.len→Tn (Jx (x.row i) off c) (y.row i))∧∀j,j≠i→y.row j=x.row j:=by cases x<;>exact Bpn h
theorem Tj{α :Type} [Inhabited α]{l:List α}{p: α→Bool}{r:Option Nat}(h:l.findIdx? p=r):
  (r=none→∀i,i < l.length→p (l.getD i default)=false)∧(∀i,r=some i→i < l.length∧p (l.getD i default)=true∧∀j,j < i→p (l.getD j default)=false):=by
 subst h
 refine ⟨fun h i hi=> ?_,fun i h=> ?_⟩
 ·have:=List.findIdx?_eq_none_iff.1 h (l.getD i default) (by rw [Za l i hi];exact List.getElem_mem hi)
  simpa using this
 ·obtain ⟨h1,h2,h3⟩:=List.findIdx?_eq_some_iff_getElem.1 h
  refine ⟨h1,by rw [Za l i h1];exact h2,fun j hj=> ?_⟩
  rw [Za l j (by omega)]
  simpa using h3 j hj
theorem LX.find_spec(x:LX)(c:List PV)(r:Option Nat)(h:LX.find x c=some r):(r=none→∀i,i < x.len→Yy c (x.row i)=some false)∧(∀i,r=some i→i < x.len∧Yy c (x.row i)=some true∧∀j,j < i→Yy c (x.row j)=some false):=by
 unfold LX.find at h
 split at h
 ·rename_i l k0 a0
  split at h
  ·rename_i hk0
   have e0:=of_decide_eq_true hk0
   subst e0
   injection h with h;subst h
   obtain ⟨s1,s2⟩:=Tj (rfl:l.findIdx? (fun b=>a0 == b)=_)
   have key:∀i b,(a0 == (l.getD i default))=b→Yy [.val (.int .i64 a0)] ((LX.t3 l).row i)=some b:=fun i b hb=>congrArg some hb
   exact ⟨fun hr i hi=>key _ _ (s1 hr i hi),fun i hr=>⟨(s2 i hr).1,key _ _ (s2 i hr).2.1,fun j hj=>key _ _ ((s2 i hr).2.2 j hj)⟩⟩
  ·cases h
 ·rename_i l a0
  injection h with h;subst h
  obtain ⟨s1,s2⟩:=Tj (rfl:l.findIdx? (fun b=>a0 == b)=_)
  have key:∀i b,(a0 == (l.getD i default))=b→Yy [.val (.bool a0)] ((LX.t4 l).row i)=some b:=fun i b hb=>congrArg some hb
  exact ⟨fun hr i hi=>key _ _ (s1 hr i hi),fun i hr=>⟨(s2 i hr).1,key _ _ (s2 i hr).2.1,fun j hj=>key _ _ ((s2 i hr).2.2 j hj)⟩⟩
 ·rename_i l k0 a0
  split at h
  ·rename_i hk0
   have e0:=of_decide_eq_true hk0
   subst e0
   injection h with h;subst h
   obtain ⟨s1,s2⟩:=Tj (rfl:l.findIdx? (fun b=>a0 == b)=_)
   have key:∀i b,(a0 == (l.getD i default))=b→Yy [.val (.int .u8 a0)] ((LX.t5 l).row i)=some b:=fun i b hb=>congrArg some hb
   exact ⟨fun hr i hi=>key _ _ (s1 hr i hi),fun i hr=>⟨(s2 i hr).1,key _ _ (s2 i hr).2.1,fun j hj=>key _ _ ((s2 i hr).2.2 j hj)⟩⟩
  ·cases h
 ·rename_i l a0
  injection h with h;subst h
  obtain ⟨s1,s2⟩:=Tj (rfl:l.findIdx? (fun b=>a0 == b)=_)
  have key:∀i b,(a0 == (l.getD i default))=b→Yy [.val (.string a0)] ((LX.t9 l).row i)=some b:=fun i b hb=>congrArg some hb
  exact ⟨fun hr i hi=>key _ _ (s1 hr i hi),fun i hr=>⟨(s2 i hr).1,key _ _ (s2 i hr).2.1,fun j hj=>key _ _ ((s2 i hr).2.2 j hj)⟩⟩
 ·rename_i l k0 a0 k1 a1
  split at h
  ·rename_i hk0 hk1
   have e0:=of_decide_eq_true hk0
   subst e0
   have e1:=of_decide_eq_true hk1
   subst e1
   injection h with h;subst h
   obtain ⟨s1,s2⟩:=Tj (rfl:l.findIdx? (fun b=>(a0 == b.u_proc && (a1 == b.u_resource)))=_)
   have key:∀i b,((a0 == (l.getD i default).u_proc && (a1 == (l.getD i default).u_resource)))=b→Yy [.val (.int .i64 a0),.val (.int .i64 a1)] ((LX.t109 l).row i)=some b:=fun i b hb=>congrArg some hb
   exact ⟨fun hr i hi=>key _ _ (s1 hr i hi),fun i hr=>⟨(s2 i hr).1,key _ _ (s2 i hr).2.1,fun j hj=>key _ _ ((s2 i hr).2.2 j hj)⟩⟩
  ·cases h
 ·rename_i l k0 a0 k1 a1
  split at h
  ·rename_i hk0 hk1
   have e0:=of_decide_eq_true hk0
   subst e0
   have e1:=of_decide_eq_true hk1
   subst e1
   injection h with h;subst h
   obtain ⟨s1,s2⟩:=Tj (rfl:l.findIdx? (fun b=>(a0 == b.a0 && (a1 == b.a1)))=_)
   have key:∀i b,((a0 == (l.getD i default).a0 && (a1 == (l.getD i default).a1)))=b→Yy [.val (.int .i64 a0),.val (.int .i64 a1)] ((LX.t135 l).row i)=some b:=fun i b hb=>congrArg some hb
   exact ⟨fun hr i hi=>key _ _ (s1 hr i hi),fun i hr=>⟨(s2 i hr).1,key _ _ (s2 i hr).2.1,fun j hj=>key _ _ ((s2 i hr).2.2 j hj)⟩⟩
  ·cases h
 ·rename_i l a0 a1
  injection h with h;subst h
  obtain ⟨s1,s2⟩:=Tj (rfl:l.findIdx? (fun b=>(a0 == b.a0 && (a1 == b.a1)))=_)
  have key:∀i b,((a0 == (l.getD i default).a0 && (a1 == (l.getD i default).a1)))=b→Yy [.val (.string a0),.val (.string a1)] ((LX.t186 l).row i)=some b:=fun i b hb=>congrArg some hb
  exact ⟨fun hr i hi=>key _ _ (s1 hr i hi),fun i hr=>⟨(s2 i hr).1,key _ _ (s2 i hr).2.1,fun j hj=>key _ _ ((s2 i hr).2.2 j hj)⟩⟩
 ·cases h
def ga1:List Value:= [.int .u64 1,.int .u64 10,.int .u64 100,.int .u64 1000,.int .u64 10000,.int .u64 100000,.int .u64 1000000,.int .u64 10000000,.int .u64 100000000,.int .u64 1000000000,.int .u64 10000000000,.int .u64 100000000000,.int .u64 1000000000000,.int .u64 10000000000000,.int .u64 100000000000000,.int .u64 1000000000000000,.int .u64 10000000000000000,.int .u64 100000000000000000,.int .u64 1000000000000000000,.int .u64 10000000000000000000]
def Z1:List Qr:= [⟨⟨#[]⟩,0,0,false,false,false,false,false,false⟩,⟨⟨#[115,108,111,116]⟩,1,0,false,true,false,false,false,false⟩,⟨⟨#[118,97,114]⟩,2,0,false,true,false,false,false,false⟩,⟨⟨#[100,114,97,119]⟩,1,3,false,false,false,false,true,false⟩,⟨⟨#[106,117,109,112]⟩,4,0,false,false,false,false,false,false⟩,⟨⟨#[98,114,97,110,99,104]⟩,4,0,false,true,false,false,false,false⟩,⟨⟨#[104,111,108,100]⟩,0,0,false,true,false,false,false,false⟩,⟨⟨#[115,101,105,122,101]⟩,5,0,false,true,true,false,false,true⟩,⟨⟨#[114,101,108,101,97,115,101]⟩,5,0,false,true,false,false,false,false⟩,⟨⟨#[112,117,116]⟩,6,0,false,true,false,false,false,false⟩,⟨⟨#[103,101,116]⟩,6,1,false,false,false,false,false,false⟩,⟨⟨#[114,105,100,101]⟩,7,0,false,false,false,false,false,false⟩,⟨⟨#[119,97,105,116]⟩,8,0,false,false,false,false,false,false⟩,⟨⟨#[115,105,103,110,97,108]⟩,8,0,false,true,false,false,false,false⟩,⟨⟨#[115,101,110,100]⟩,9,10,true,true,false,true,false,false⟩,⟨⟨#[115,112,97,119,110]⟩,0,10,false,true,false,true,false,false⟩,⟨⟨#[111,98,115,101,114,118,101]⟩,11,0,false,true,false,false,false,false⟩,⟨⟨#[108,101,118,101,108]⟩,12,0,false,true,false,false,false,false⟩,⟨⟨#[99,111,117,110,116]⟩,13,0,false,true,false,false,false,false⟩,⟨⟨#[101,110,100]⟩,0,0,false,false,false,false,false,false⟩]
def GL:List (Nat×LX):= [(0,.t190 Z1)]
def GA:List (Nat×List Value):= [(1,ga1)]
end Go.Proofs.YthjhkpgonleelaaGreatDoor.Ev
