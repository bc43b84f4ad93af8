/-  The types of the data, and of rows of them. -/
import Derived.Test.YtmimkinjcfekmaaGreatRows
namespace Go.Proofs.YtmimkinjcfekmaaGreat.Ev
open Go
set_option linter.unusedVariables false
set_option linter.unusedSimpArgs false
set_option linter.unnecessarySimpa false
structure Hx where
 a0:ByteArray
 a1:ByteArray
 deriving Inhabited
inductive Aa where
 |mk (Op:Int) (Name:ByteArray) (N:Int) (Kids:(List Aa))
instance:Inhabited Aa:=⟨.mk 0 ByteArray.empty 0 []⟩
def Aa.Op:Aa→Int| .mk x _ _ _=>x
def Aa.Name:Aa→ByteArray| .mk _ x _ _=>x
def Aa.N:Aa→Int| .mk _ _ x _=>x
def Aa.Kids:Aa→(List Aa)| .mk _ _ _ x=>x
def Aa.cp(x:Aa):Aa:= .mk x.Op x.Name x.N x.Kids
theorem Aa.cp_eq(x:Aa):Aa.cp x=x:=by cases x;rfl
theorem Aa.eta(x:Aa):Aa.mk x.Op x.Name x.N x.Kids=x:=by cases x;rfl
structure Te where
 u_is:Bool
 u_e:Aa
 deriving Inhabited
structure Lu where
 u_is:Bool
 u_name:ByteArray
 deriving Inhabited
structure Au where
 Name:ByteArray
 Length:Int
 Step:Int
 deriving Inhabited
structure Hi where
 At:Int
 Units:Int
 deriving Inhabited
structure I9 where
 Op:Int
 A:Int
 B:Int
 N:Int
 Values:(List Int)
 Weights:(List Int)
 deriving Inhabited
structure Ai where
 Name:ByteArray
 Type_:Int
 deriving Inhabited
structure Kf where
 Coef:Int
 What:ByteArray
 Name:ByteArray
 deriving Inhabited
structure Ly where
 Name:ByteArray
 Terms:(List Kf)
 Total:Int
 deriving Inhabited
structure Ny where
 Stream:ByteArray
 Up:I9
 Down:I9
 deriving Inhabited
structure Aj where
 Name:ByteArray
 Units:Int
 Shift:(List Hi)
 Cycle:Int
 Fault:Ny
 deriving Inhabited
inductive Af where
 |mk (Op:Int) (Name:ByteArray) (Of:ByteArray) (E:Aa) (F:Aa) (Args:(List Aa)) (Dist:I9) (Flag:Bool) (Body:(List Af)) (Else:(List Af))
instance:Inhabited Af:=⟨.mk 0 ByteArray.empty ByteArray.empty default default [] default false [] []⟩
def Af.Op:Af→Int| .mk x _ _ _ _ _ _ _ _ _=>x
def Af.Name:Af→ByteArray| .mk _ x _ _ _ _ _ _ _ _=>x
def Af.Of:Af→ByteArray| .mk _ _ x _ _ _ _ _ _ _=>x
def Af.E:Af→Aa| .mk _ _ _ x _ _ _ _ _ _=>x
def Af.F:Af→Aa| .mk _ _ _ _ x _ _ _ _ _=>x
def Af.Args:Af→(List Aa)| .mk _ _ _ _ _ x _ _ _ _=>x
def Af.Dist:Af→I9| .mk _ _ _ _ _ _ x _ _ _=>x
def Af.Flag:Af→Bool| .mk _ _ _ _ _ _ _ x _ _=>x
def Af.Body:Af→(List Af)| .mk _ _ _ _ _ _ _ _ x _=>x
def Af.Else:Af→(List Af)| .mk _ _ _ _ _ _ _ _ _ x=>x
def Af.cp(x:Af):Af:= .mk x.Op x.Name x.Of (Aa.cp x.E) (Aa.cp x.F) x.Args x.Dist x.Flag x.Body x.Else
theorem Af.cp_eq(x:Af):Af.cp x=x:=by cases x;simp only [Af.cp,Aa.cp_eq,Af.Op,Af.Name,Af.Of,Af.E,Af.F,Af.Args,Af.Dist,Af.Flag,Af.Body,Af.Else]
theorem Af.eta(x:Af):Af.mk x.Op x.Name x.Of x.E x.F x.Args x.Dist x.Flag x.Body x.Else=x:=by cases x;rfl
structure Ay where
 Name:ByteArray
 Params:(List Ai)
 Locals:(List Ai)
 Body:(List Af)
 deriving Inhabited
structure Ix where
 Routine:ByteArray
 Args:(List Int)
 At:Int
 Every:Int
 Until:Int
 deriving Inhabited
structure Ao where
 Name:ByteArray
 Room:Int
 Policy:Int
 deriving Inhabited
structure Aw where
 Name:ByteArray
 Type_:Int
 N:Int
 deriving Inhabited
structure Ab where
 Name:ByteArray
 Vars:(List Aw)
 Resources:(List Aj)
 Stores:(List Ao)
 Belts:(List Au)
 Queues:(List ByteArray)
 Streams:(List ByteArray)
 Tallies:(List ByteArray)
 Levels:(List ByteArray)
 Counts:(List ByteArray)
 Routines:(List Ay)
 Starts:(List Ix)
 Laws:(List Ly)
 deriving Inhabited
structure Ae where
 Params:(List Aw)
 Locals:(List Ai)
 Site:Ab
 deriving Inhabited
structure M6 where
 From:ByteArray
 To:ByteArray
 Delay:Int
 deriving Inhabited
structure Vn where
 Name:ByteArray
 Params:(List Aw)
 Sites:(List Ab)
 Links:(List M6)
 deriving Inhabited
structure Ah where
 u_code:Bool
 deriving Inhabited
inductive LX where
 |t3 (l:List Int)
 |t4 (l:List Bool)
 |t9 (l:List ByteArray)
 |t23 (l:List (List Ai))
 |t32 (l:List Ab)
 |t38 (l:List Aa)
 |t39 (l:List Int)
 |t41 (l:List Ai)
 |t52 (l:List Aw)
 |t55 (l:List Ay)
 |t68 (l:List Af)
 |t139 (l:List Aj)
 |t146 (l:List Ao)
 |t150 (l:List Au)
 |t156 (l:List Ix)
 |t162 (l:List M6)
 |t163 (l:List Hx)
 |t184 (l:List Lu)
 |t186 (l:List Te)
 |t196 (l:List Hi)
 |t202 (l:List Ly)
 |t205 (l:List Kf)
 deriving Inhabited
def LX.e:LX→Nat
 | .t3 l=>3
 | .t4 l=>4
 | .t9 l=>9
 | .t23 l=>23
 | .t32 l=>32
 | .t38 l=>38
 | .t39 l=>39
 | .t41 l=>41
 | .t52 l=>52
 | .t55 l=>55
 | .t68 l=>68
 | .t139 l=>139
 | .t146 l=>146
 | .t150 l=>150
 | .t156 l=>156
 | .t162 l=>162
 | .t163 l=>163
 | .t184 l=>184
 | .t186 l=>186
 | .t196 l=>196
 | .t202 l=>202
 | .t205 l=>205
def LX.sz:LX→Nat
 | .t3 l=>1
 | .t4 l=>1
 | .t9 l=>1
 | .t23 l=>1
 | .t32 l=>13
 | .t38 l=>4
 | .t39 l=>1
 | .t41 l=>2
 | .t52 l=>3
 | .t55 l=>4
 | .t68 l=>21
 | .t139 l=>17
 | .t146 l=>3
 | .t150 l=>3
 | .t156 l=>5
 | .t162 l=>3
 | .t163 l=>2
 | .t184 l=>2
 | .t186 l=>5
 | .t196 l=>2
 | .t202 l=>3
 | .t205 l=>3
def LX.len:LX→Nat
 | .t3 l=>l.length
 | .t4 l=>l.length
 | .t9 l=>l.length
 | .t23 l=>l.length
 | .t32 l=>l.length
 | .t38 l=>l.length
 | .t39 l=>l.length
 | .t41 l=>l.length
 | .t52 l=>l.length
 | .t55 l=>l.length
 | .t68 l=>l.length
 | .t139 l=>l.length
 | .t146 l=>l.length
 | .t150 l=>l.length
 | .t156 l=>l.length
 | .t162 l=>l.length
 | .t163 l=>l.length
 | .t184 l=>l.length
 | .t186 l=>l.length
 | .t196 l=>l.length
 | .t202 l=>l.length
 | .t205 l=>l.length
def LX.g3:LX→Option (List Int)
 | .t3 l=>some l
 |_=>none
def LX.g4:LX→Option (List Bool)
 | .t4 l=>some l
 |_=>none
def LX.g9:LX→Option (List ByteArray)
 | .t9 l=>some l
 |_=>none
def LX.g23:LX→Option (List (List Ai))
 | .t23 l=>some l
 |_=>none
def LX.g32:LX→Option (List Ab)
 | .t32 l=>some l
 |_=>none
def LX.g38:LX→Option (List Aa)
 | .t38 l=>some l
 |_=>none
def LX.g39:LX→Option (List Int)
 | .t39 l=>some l
 |_=>none
def LX.g41:LX→Option (List Ai)
 | .t41 l=>some l
 |_=>none
def LX.g52:LX→Option (List Aw)
 | .t52 l=>some l
 |_=>none
def LX.g55:LX→Option (List Ay)
 | .t55 l=>some l
 |_=>none
def LX.g68:LX→Option (List Af)
 | .t68 l=>some l
 |_=>none
def LX.g139:LX→Option (List Aj)
 | .t139 l=>some l
 |_=>none
def LX.g146:LX→Option (List Ao)
 | .t146 l=>some l
 |_=>none
def LX.g150:LX→Option (List Au)
 | .t150 l=>some l
 |_=>none
def LX.g156:LX→Option (List Ix)
 | .t156 l=>some l
 |_=>none
def LX.g162:LX→Option (List M6)
 | .t162 l=>some l
 |_=>none
def LX.g163:LX→Option (List Hx)
 | .t163 l=>some l
 |_=>none
def LX.g184:LX→Option (List Lu)
 | .t184 l=>some l
 |_=>none
def LX.g186:LX→Option (List Te)
 | .t186 l=>some l
 |_=>none
def LX.g196:LX→Option (List Hi)
 | .t196 l=>some l
 |_=>none
def LX.g202:LX→Option (List Ly)
 | .t202 l=>some l
 |_=>none
def LX.g205:LX→Option (List Kf)
 | .t205 l=>some l
 |_=>none
def Ju{α :Type}(K: α→LX)(o:Option α):Option LX:=match o with
 |some l=>some (K l)
 |none=>none
def Air{α :Type}(b:Bool)(K: α→LX)(o:Option α):Option LX:=match b,o with
 |true,some l=>some (K l)
 |_,_=>none
def LX.cat(x y:LX):Option LX:=match x with
 | .t3 l=>Ju (fun m=> .t3 (l++m)) y.g3
 | .t4 l=>Ju (fun m=> .t4 (l++m)) y.g4
 | .t9 l=>Ju (fun m=> .t9 (l++m)) y.g9
 | .t23 l=>Ju (fun m=> .t23 (l++m)) y.g23
 | .t32 l=>Ju (fun m=> .t32 (l++m)) y.g32
 | .t38 l=>Ju (fun m=> .t38 (l++m)) y.g38
 | .t39 l=>Ju (fun m=> .t39 (l++m)) y.g39
 | .t41 l=>Ju (fun m=> .t41 (l++m)) y.g41
 | .t52 l=>Ju (fun m=> .t52 (l++m)) y.g52
 | .t55 l=>Ju (fun m=> .t55 (l++m)) y.g55
 | .t68 l=>Ju (fun m=> .t68 (l++m)) y.g68
 | .t139 l=>Ju (fun m=> .t139 (l++m)) y.g139
 | .t146 l=>Ju (fun m=> .t146 (l++m)) y.g146
 | .t150 l=>Ju (fun m=> .t150 (l++m)) y.g150
 | .t156 l=>Ju (fun m=> .t156 (l++m)) y.g156
 | .t162 l=>Ju (fun m=> .t162 (l++m)) y.g162
 | .t163 l=>Ju (fun m=> .t163 (l++m)) y.g163
 | .t184 l=>Ju (fun m=> .t184 (l++m)) y.g184
 | .t186 l=>Ju (fun m=> .t186 (l++m)) y.g186
 | .t196 l=>Ju (fun m=> .t196 (l++m)) y.g196
 | .t202 l=>Ju (fun m=> .t202 (l++m)) y.g202
 | .t205 l=>Ju (fun m=> .t205 (l++m)) y.g205
def LX.sub(x:LX)(a b:Nat):LX:=match x with
 | .t3 l=> .t3 ((l.take b).drop a)
 | .t4 l=> .t4 ((l.take b).drop a)
 | .t9 l=> .t9 ((l.take b).drop a)
 | .t23 l=> .t23 ((l.take b).drop a)
 | .t32 l=> .t32 ((l.take b).drop a)
 | .t38 l=> .t38 ((l.take b).drop a)
 | .t39 l=> .t39 ((l.take b).drop a)
 | .t41 l=> .t41 ((l.take b).drop a)
 | .t52 l=> .t52 ((l.take b).drop a)
 | .t55 l=> .t55 ((l.take b).drop a)
 | .t68 l=> .t68 ((l.take b).drop a)
 | .t139 l=> .t139 ((l.take b).drop a)
 | .t146 l=> .t146 ((l.take b).drop a)
 | .t150 l=> .t150 ((l.take b).drop a)
 | .t156 l=> .t156 ((l.take b).drop a)
 | .t162 l=> .t162 ((l.take b).drop a)
 | .t163 l=> .t163 ((l.take b).drop a)
 | .t184 l=> .t184 ((l.take b).drop a)
 | .t186 l=> .t186 ((l.take b).drop a)
 | .t196 l=> .t196 ((l.take b).drop a)
 | .t202 l=> .t202 ((l.take b).drop a)
 | .t205 l=> .t205 ((l.take b).drop a)
def LX.rep(x:LX)(n:Nat):LX:=match x with
 | .t3 l=> .t3 (List.replicate n (l.getD 0 default))
 | .t4 l=> .t4 (List.replicate n (l.getD 0 default))
 | .t9 l=> .t9 (List.replicate n (l.getD 0 default))
 | .t23 l=> .t23 (List.replicate n (l.getD 0 default))
 | .t32 l=> .t32 (List.replicate n (l.getD 0 default))
 | .t38 l=> .t38 (List.replicate n (l.getD 0 default))
 | .t39 l=> .t39 (List.replicate n (l.getD 0 default))
 | .t41 l=> .t41 (List.replicate n (l.getD 0 default))
 | .t52 l=> .t52 (List.replicate n (l.getD 0 default))
 | .t55 l=> .t55 (List.replicate n (l.getD 0 default))
 | .t68 l=> .t68 (List.replicate n (l.getD 0 default))
 | .t139 l=> .t139 (List.replicate n (l.getD 0 default))
 | .t146 l=> .t146 (List.replicate n (l.getD 0 default))
 | .t150 l=> .t150 (List.replicate n (l.getD 0 default))
 | .t156 l=> .t156 (List.replicate n (l.getD 0 default))
 | .t162 l=> .t162 (List.replicate n (l.getD 0 default))
 | .t163 l=> .t163 (List.replicate n (l.getD 0 default))
 | .t184 l=> .t184 (List.replicate n (l.getD 0 default))
 | .t186 l=> .t186 (List.replicate n (l.getD 0 default))
 | .t196 l=> .t196 (List.replicate n (l.getD 0 default))
 | .t202 l=> .t202 (List.replicate n (l.getD 0 default))
 | .t205 l=> .t205 (List.replicate n (l.getD 0 default))
end Go.Proofs.YtmimkinjcfekmaaGreat.Ev
