/-  An evaluator of translated code on data without memory: what a slot holds. -/
import Derived.Test.YtmimkinjcfekmaaGreatFt
import Derived.WalkKit
import Derived.LoopN
import Derived.Great.BuildSlice
import Derived.Deep.Draws
namespace Go.Proofs.YtmimkinjcfekmaaGreat.Ev
open Go
set_option linter.unusedVariables false
set_option linter.unusedSimpArgs false
set_option linter.unnecessarySimpa false
inductive PV where
 |any
 |val (v:Value)
 |agg (l:List PV)
 |tup (l:List PV)
 |sl (own:Bool) (e sz:Nat) (es:List (List PV))
 |lst (own:Bool) (x:LX)
 |ref (l:List PV)
 |loc (d off:Nat)
 |el (d sz i off:Nat)
 |vw (c:Bool) (d e sz n:Nat)
 |mp (d:Nat)
 |clo (f n:Nat) (caps:List PV)
 |arrO (x:LX)
 |mapO (gk gv:Bool) (ks vs:LX)
 deriving Inhabited
def PV.view:PV→PV
 | .sl _ e sz es=> .sl false e sz es
 | .lst _ x=> .lst false x
 |p=>p
def PV.flat:PV→Bool
 | .any=>true
 | .val _=>true
 | .lst _ _=>true
 |_=>false
inductive PV.Le:PV→PV→Prop
 |view (p:PV):PV.Le p p.view
 |nil (own:Bool) (y:LX) (h:y.len=0):PV.Le (.val (.slice none 0 0)) (.lst own y)
def Da(l:List PV)(off:Nat)(new:List PV):List PV:=match l,off,new with
 | [],_,_=> []
 |l,_,[]=>l
 |_::r,0,q::new=>q::Da r 0 new
 |p::r,n+1,new=>p::Da r n new
def Ov:PV→PV→Option Bool
 | .val (.int k a),.val (.int k' b)=>match decide (k=k') with
  |true=>some (a == b)
  |false=>none
 | .val (.string a),.val (.string b)=>some (a == b)
 | .val (.bool a),.val (.bool b)=>some (a == b)
 |_,_=>none
def Wg:PV→List PV→PV→List PV→Option Bool
 |a,[],b,[]=>Ov a b
 |a,a'::l,b,b'::m=>match Ov a b,Wg a' l b' m with
  |some x,some y=>some (x && y)
  |_,_=>none
 |_,_,_,_=>none
def K2:List PV→List PV→Option Bool
 |a::l,b::m=>Wg a l b m
 |_,_=>none
end Go.Proofs.YtmimkinjcfekmaaGreat.Ev
