/-  The types of the data, and of rows of them. -/
import Derived.Test.YtcbandfdmbkokaaGreatRows
namespace Go.Proofs.YtcbandfdmbkokaaGreat.Ev
open Go
set_option linter.unusedVariables false
set_option linter.unusedSimpArgs false
set_option linter.unnecessarySimpa false
structure Nn where
 a0:ByteArray
 a1:ByteArray
 deriving Inhabited
structure Be where
 Name:ByteArray
 Type_:Int
 deriving Inhabited
structure Cq where
 From:ByteArray
 To:ByteArray
 Delay:Int
 deriving Inhabited
structure B3 where
 Name:ByteArray
 Length:Int
 Step:Int
 deriving Inhabited
structure Jz where
 Coef:Int
 What:ByteArray
 Name:ByteArray
 deriving Inhabited
structure Oh where
 Name:ByteArray
 Terms:(List Jz)
 Total:Int
 deriving Inhabited
structure F6 where
 At:Int
 Units:Int
 deriving Inhabited
structure Bo where
 Op:Int
 A:Int
 B:Int
 N:Int
 Values:(List Int)
 Weights:(List Int)
 deriving Inhabited
structure T1 where
 Stream:ByteArray
 Up:Bo
 Down:Bo
 deriving Inhabited
structure Bf where
 Name:ByteArray
 Units:Int
 Shift:(List F6)
 Cycle:Int
 Fault:T1
 deriving Inhabited
inductive Aa where
 |mk (Op:Int) (Name:ByteArray) (N:Int) (Kids:(List Aa))
instance:Inhabited Aa:=⟨.mk 0 ByteArray.empty 0 []⟩
def Aa.Op:Aa→Int| .mk x _ _ _=>x
def Aa.Name:Aa→ByteArray| .mk _ x _ _=>x
def Aa.N:Aa→Int| .mk _ _ x _=>x
def Aa.Kids:Aa→(List Aa)| .mk _ _ _ x=>x
def Aa.cp(x:Aa):Aa:= .mk x.Op x.Name x.N x.Kids
theorem Aa.cp_eq(x:Aa):Aa.cp x=x:=by cases x;rfl
theorem Aa.eta(x:Aa):Aa.mk x.Op x.Name x.N x.Kids=x:=by cases x;rfl
inductive Ab where
 |mk (Op:Int) (Name:ByteArray) (Of:ByteArray) (E:Aa) (F:Aa) (Args:(List Aa)) (Dist:Bo) (Flag:Bool) (Body:(List Ab)) (Else:(List Ab))
instance:Inhabited Ab:=⟨.mk 0 ByteArray.empty ByteArray.empty default default [] default false [] []⟩
def Ab.Op:Ab→Int| .mk x _ _ _ _ _ _ _ _ _=>x
def Ab.Name:Ab→ByteArray| .mk _ x _ _ _ _ _ _ _ _=>x
def Ab.Of:Ab→ByteArray| .mk _ _ x _ _ _ _ _ _ _=>x
def Ab.E:Ab→Aa| .mk _ _ _ x _ _ _ _ _ _=>x
def Ab.F:Ab→Aa| .mk _ _ _ _ x _ _ _ _ _=>x
def Ab.Args:Ab→(List Aa)| .mk _ _ _ _ _ x _ _ _ _=>x
def Ab.Dist:Ab→Bo| .mk _ _ _ _ _ _ x _ _ _=>x
def Ab.Flag:Ab→Bool| .mk _ _ _ _ _ _ _ x _ _=>x
def Ab.Body:Ab→(List Ab)| .mk _ _ _ _ _ _ _ _ x _=>x
def Ab.Else:Ab→(List Ab)| .mk _ _ _ _ _ _ _ _ _ x=>x
def Ab.cp(x:Ab):Ab:= .mk x.Op x.Name x.Of (Aa.cp x.E) (Aa.cp x.F) x.Args x.Dist x.Flag x.Body x.Else
theorem Ab.cp_eq(x:Ab):Ab.cp x=x:=by cases x;simp only [Ab.cp,Aa.cp_eq,Ab.Op,Ab.Name,Ab.Of,Ab.E,Ab.F,Ab.Args,Ab.Dist,Ab.Flag,Ab.Body,Ab.Else]
theorem Ab.eta(x:Ab):Ab.mk x.Op x.Name x.Of x.E x.F x.Args x.Dist x.Flag x.Body x.Else=x:=by cases x;rfl
structure Bg where
 Name:ByteArray
 Params:(List Be)
 Locals:(List Be)
 Body:(List Ab)
 deriving Inhabited
structure Hg where
 Routine:ByteArray
 Args:(List Int)
 At:Int
 Every:Int
 Until:Int
 deriving Inhabited
structure Bx where
 Name:ByteArray
 Room:Int
 Policy:Int
 deriving Inhabited
structure Bp where
 Name:ByteArray
 Type_:Int
 N:Int
 deriving Inhabited
structure Ac where
 Name:ByteArray
 Vars:(List Bp)
 Resources:(List Bf)
 Stores:(List Bx)
 Belts:(List B3)
 Queues:(List ByteArray)
 Streams:(List ByteArray)
 Tallies:(List ByteArray)
 Levels:(List ByteArray)
 Counts:(List ByteArray)
 Routines:(List Bg)
 Starts:(List Hg)
 Laws:(List Oh)
 deriving Inhabited
structure Af where
 Name:ByteArray
 Params:(List Bp)
 Sites:(List Ac)
 Links:(List Cq)
 deriving Inhabited
structure Mq where
 M:Af
 Site:Int
 Locals:(List Be)
 A:(List Ab)
 B:(List Ab)
 deriving Inhabited
structure B4 where
 Name:Bool
 Of:Bool
 E:Bool
 F:Bool
 Args:Bool
 Dist:Bool
 Flag:Bool
 Body:Bool
 Else:Bool
 deriving Inhabited
structure My where
 u_is:Bool
 u_e:Aa
 deriving Inhabited
structure D9 where
 u_is:Bool
 u_name:ByteArray
 deriving Inhabited
structure Ai where
 Params:(List Bp)
 Locals:(List Be)
 Site:Ac
 deriving Inhabited
structure Bu where
 u_code:Bool
 deriving Inhabited
structure Bn where
 u_name:Bool
 u_of:Bool
 u_e:Bool
 u_f:Bool
 u_args:Bool
 u_dist:Bool
 u_flag:Bool
 u_body:Bool
 u_other:Bool
 deriving Inhabited
structure Ag where
 u_m:Af
 u_site:Int
 u_env:Ai
 deriving Inhabited
inductive LX where
 |t3 (l:List Int)
 |t4 (l:List Bool)
 |t9 (l:List ByteArray)
 |t23 (l:List (List Be))
 |t27 (l:List (List ByteArray))
 |t32 (l:List Ac)
 |t38 (l:List Aa)
 |t41 (l:List Int)
 |t68 (l:List Be)
 |t72 (l:List Bp)
 |t74 (l:List Bg)
 |t82 (l:List Ab)
 |t149 (l:List Bf)
 |t156 (l:List Bx)
 |t160 (l:List B3)
 |t166 (l:List Hg)
 |t172 (l:List Cq)
 |t173 (l:List Nn)
 |t184 (l:List Oh)
 |t188 (l:List D9)
 |t190 (l:List My)
 |t228 (l:List F6)
 |t234 (l:List Jz)
 deriving Inhabited
def LX.e:LX→Nat
 | .t3 l=>3
 | .t4 l=>4
 | .t9 l=>9
 | .t23 l=>23
 | .t27 l=>27
 | .t32 l=>32
 | .t38 l=>38
 | .t41 l=>41
 | .t68 l=>68
 | .t72 l=>72
 | .t74 l=>74
 | .t82 l=>82
 | .t149 l=>149
 | .t156 l=>156
 | .t160 l=>160
 | .t166 l=>166
 | .t172 l=>172
 | .t173 l=>173
 | .t184 l=>184
 | .t188 l=>188
 | .t190 l=>190
 | .t228 l=>228
 | .t234 l=>234
def LX.sz:LX→Nat
 | .t3 l=>1
 | .t4 l=>1
 | .t9 l=>1
 | .t23 l=>1
 | .t27 l=>1
 | .t32 l=>13
 | .t38 l=>4
 | .t41 l=>1
 | .t68 l=>2
 | .t72 l=>3
 | .t74 l=>4
 | .t82 l=>21
 | .t149 l=>17
 | .t156 l=>3
 | .t160 l=>3
 | .t166 l=>5
 | .t172 l=>3
 | .t173 l=>2
 | .t184 l=>3
 | .t188 l=>2
 | .t190 l=>5
 | .t228 l=>2
 | .t234 l=>3
def LX.len:LX→Nat
 | .t3 l=>l.length
 | .t4 l=>l.length
 | .t9 l=>l.length
 | .t23 l=>l.length
 | .t27 l=>l.length
 | .t32 l=>l.length
 | .t38 l=>l.length
 | .t41 l=>l.length
 | .t68 l=>l.length
 | .t72 l=>l.length
 | .t74 l=>l.length
 | .t82 l=>l.length
 | .t149 l=>l.length
 | .t156 l=>l.length
 | .t160 l=>l.length
 | .t166 l=>l.length
 | .t172 l=>l.length
 | .t173 l=>l.length
 | .t184 l=>l.length
 | .t188 l=>l.length
 | .t190 l=>l.length
 | .t228 l=>l.length
 | .t234 l=>l.length
def LX.g3:LX→Option (List Int)
 | .t3 l=>some l
 |_=>none
def LX.g4:LX→Option (List Bool)
 | .t4 l=>some l
 |_=>none
def LX.g9:LX→Option (List ByteArray)
 | .t9 l=>some l
 |_=>none
def LX.g23:LX→Option (List (List Be))
 | .t23 l=>some l
 |_=>none
def LX.g27:LX→Option (List (List ByteArray))
 | .t27 l=>some l
 |_=>none
def LX.g32:LX→Option (List Ac)
 | .t32 l=>some l
 |_=>none
def LX.g38:LX→Option (List Aa)
 | .t38 l=>some l
 |_=>none
def LX.g41:LX→Option (List Int)
 | .t41 l=>some l
 |_=>none
def LX.g68:LX→Option (List Be)
 | .t68 l=>some l
 |_=>none
def LX.g72:LX→Option (List Bp)
 | .t72 l=>some l
 |_=>none
def LX.g74:LX→Option (List Bg)
 | .t74 l=>some l
 |_=>none
def LX.g82:LX→Option (List Ab)
 | .t82 l=>some l
 |_=>none
def LX.g149:LX→Option (List Bf)
 | .t149 l=>some l
 |_=>none
def LX.g156:LX→Option (List Bx)
 | .t156 l=>some l
 |_=>none
def LX.g160:LX→Option (List B3)
 | .t160 l=>some l
 |_=>none
def LX.g166:LX→Option (List Hg)
 | .t166 l=>some l
 |_=>none
def LX.g172:LX→Option (List Cq)
 | .t172 l=>some l
 |_=>none
def LX.g173:LX→Option (List Nn)
 | .t173 l=>some l
 |_=>none
def LX.g184:LX→Option (List Oh)
 | .t184 l=>some l
 |_=>none
def LX.g188:LX→Option (List D9)
 | .t188 l=>some l
 |_=>none
def LX.g190:LX→Option (List My)
 | .t190 l=>some l
 |_=>none
def LX.g228:LX→Option (List F6)
 | .t228 l=>some l
 |_=>none
def LX.g234:LX→Option (List Jz)
 | .t234 l=>some l
 |_=>none
def M0{α :Type}(K: α→LX)(o:Option α):Option LX:=match o with
 |some l=>some (K l)
 |none=>none
def Xd{α :Type}(b:Bool)(K: α→LX)(o:Option α):Option LX:=match b,o with
 |true,some l=>some (K l)
 |_,_=>none
def LX.cat(x y:LX):Option LX:=match x with
 | .t3 l=>M0 (fun m=> .t3 (l++m)) y.g3
 | .t4 l=>M0 (fun m=> .t4 (l++m)) y.g4
 | .t9 l=>M0 (fun m=> .t9 (l++m)) y.g9
 | .t23 l=>M0 (fun m=> .t23 (l++m)) y.g23
 | .t27 l=>M0 (fun m=> .t27 (l++m)) y.g27
 | .t32 l=>M0 (fun m=> .t32 (l++m)) y.g32
 | .t38 l=>M0 (fun m=> .t38 (l++m)) y.g38
 | .t41 l=>M0 (fun m=> .t41 (l++m)) y.g41
 | .t68 l=>M0 (fun m=> .t68 (l++m)) y.g68
 | .t72 l=>M0 (fun m=> .t72 (l++m)) y.g72
 | .t74 l=>M0 (fun m=> .t74 (l++m)) y.g74
 | .t82 l=>M0 (fun m=> .t82 (l++m)) y.g82
 | .t149 l=>M0 (fun m=> .t149 (l++m)) y.g149
 | .t156 l=>M0 (fun m=> .t156 (l++m)) y.g156
 | .t160 l=>M0 (fun m=> .t160 (l++m)) y.g160
 | .t166 l=>M0 (fun m=> .t166 (l++m)) y.g166
 | .t172 l=>M0 (fun m=> .t172 (l++m)) y.g172
 | .t173 l=>M0 (fun m=> .t173 (l++m)) y.g173
 | .t184 l=>M0 (fun m=> .t184 (l++m)) y.g184
 | .t188 l=>M0 (fun m=> .t188 (l++m)) y.g188
 | .t190 l=>M0 (fun m=> .t190 (l++m)) y.g190
 | .t228 l=>M0 (fun m=> .t228 (l++m)) y.g228
 | .t234 l=>M0 (fun m=> .t234 (l++m)) y.g234
def LX.sub(x:LX)(a b:Nat):LX:=match x with
 | .t3 l=> .t3 ((l.take b).drop a)
 | .t4 l=> .t4 ((l.take b).drop a)
 | .t9 l=> .t9 ((l.take b).drop a)
 | .t23 l=> .t23 ((l.take b).drop a)
 | .t27 l=> .t27 ((l.take b).drop a)
 | .t32 l=> .t32 ((l.take b).drop a)
 | .t38 l=> .t38 ((l.take b).drop a)
 | .t41 l=> .t41 ((l.take b).drop a)
 | .t68 l=> .t68 ((l.take b).drop a)
 | .t72 l=> .t72 ((l.take b).drop a)
 | .t74 l=> .t74 ((l.take b).drop a)
 | .t82 l=> .t82 ((l.take b).drop a)
 | .t149 l=> .t149 ((l.take b).drop a)
 | .t156 l=> .t156 ((l.take b).drop a)
 | .t160 l=> .t160 ((l.take b).drop a)
 | .t166 l=> .t166 ((l.take b).drop a)
 | .t172 l=> .t172 ((l.take b).drop a)
 | .t173 l=> .t173 ((l.take b).drop a)
 | .t184 l=> .t184 ((l.take b).drop a)
 | .t188 l=> .t188 ((l.take b).drop a)
 | .t190 l=> .t190 ((l.take b).drop a)
 | .t228 l=> .t228 ((l.take b).drop a)
 | .t234 l=> .t234 ((l.take b).drop a)
def LX.rep(x:LX)(n:Nat):LX:=match x with
 | .t3 l=> .t3 (List.replicate n (l.getD 0 default))
 | .t4 l=> .t4 (List.replicate n (l.getD 0 default))
 | .t9 l=> .t9 (List.replicate n (l.getD 0 default))
 | .t23 l=> .t23 (List.replicate n (l.getD 0 default))
 | .t27 l=> .t27 (List.replicate n (l.getD 0 default))
 | .t32 l=> .t32 (List.replicate n (l.getD 0 default))
 | .t38 l=> .t38 (List.replicate n (l.getD 0 default))
 | .t41 l=> .t41 (List.replicate n (l.getD 0 default))
 | .t68 l=> .t68 (List.replicate n (l.getD 0 default))
 | .t72 l=> .t72 (List.replicate n (l.getD 0 default))
 | .t74 l=> .t74 (List.replicate n (l.getD 0 default))
 | .t82 l=> .t82 (List.replicate n (l.getD 0 default))
 | .t149 l=> .t149 (List.replicate n (l.getD 0 default))
 | .t156 l=> .t156 (List.replicate n (l.getD 0 default))
 | .t160 l=> .t160 (List.replicate n (l.getD 0 default))
 | .t166 l=> .t166 (List.replicate n (l.getD 0 default))
 | .t172 l=> .t172 (List.replicate n (l.getD 0 default))
 | .t173 l=> .t173 (List.replicate n (l.getD 0 default))
 | .t184 l=> .t184 (List.replicate n (l.getD 0 default))
 | .t188 l=> .t188 (List.replicate n (l.getD 0 default))
 | .t190 l=> .t190 (List.replicate n (l.getD 0 default))
 | .t228 l=> .t228 (List.replicate n (l.getD 0 default))
 | .t234 l=> .t234 (List.replicate n (l.getD 0 default))
def LX.nil(e:Nat):Option LX:=match Nat.beq e 3 with
 |true=>some (.t3 [])
 |false=>match Nat.beq e 4 with
 |true=>some (.t4 [])
 |false=>match Nat.beq e 9 with
 |true=>some (.t9 [])
 |false=>match Nat.beq e 23 with
 |true=>some (.t23 [])
 |false=>match Nat.beq e 27 with
 |true=>some (.t27 [])
 |false=>match Nat.beq e 32 with
 |true=>some (.t32 [])
 |false=>match Nat.beq e 38 with
 |true=>some (.t38 [])
 |false=>match Nat.beq e 41 with
 |true=>some (.t41 [])
 |false=>match Nat.beq e 68 with
 |true=>some (.t68 [])
 |false=>match Nat.beq e 72 with
 |true=>some (.t72 [])
 |false=>match Nat.beq e 74 with
 |true=>some (.t74 [])
 |false=>match Nat.beq e 82 with
 |true=>some (.t82 [])
 |false=>match Nat.beq e 149 with
 |true=>some (.t149 [])
 |false=>match Nat.beq e 156 with
 |true=>some (.t156 [])
 |false=>match Nat.beq e 160 with
 |true=>some (.t160 [])
 |false=>match Nat.beq e 166 with
 |true=>some (.t166 [])
 |false=>match Nat.beq e 172 with
 |true=>some (.t172 [])
 |false=>match Nat.beq e 173 with
 |true=>some (.t173 [])
 |false=>match Nat.beq e 184 with
 |true=>some (.t184 [])
 |false=>match Nat.beq e 188 with
 |true=>some (.t188 [])
 |false=>match Nat.beq e 190 with
 |true=>some (.t190 [])
 |false=>match Nat.beq e 228 with
 |true=>some (.t228 [])
 |false=>match Nat.beq e 234 with
 |true=>some (.t234 [])
 |false=>none
end Go.Proofs.YtcbandfdmbkokaaGreat.Ev
