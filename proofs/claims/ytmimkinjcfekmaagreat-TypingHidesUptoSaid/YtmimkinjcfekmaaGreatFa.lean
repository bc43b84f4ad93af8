/-  An evaluator of translated code on data without memory: definitions. -/
import Derived.Test.YtmimkinjcfekmaaGreatFr
namespace Go.Proofs.YtmimkinjcfekmaaGreat.Ev
open Go
set_option linter.unusedVariables false
set_option linter.unusedSimpArgs false
set_option linter.unnecessarySimpa false
structure SV where
 own:Bool
 e:Nat
 sz:Nat
 n:Nat
 f:Nat→List PV
def PV.sv:PV→Option SV
 | .sl own e sz es=>some ⟨own,e,sz,es.length,fun i=>es.getD i []⟩
 | .lst own x=>some ⟨own,x.e,x.sz,x.len,x.row⟩
 |_=>none
structure St where
 fr:List (Nat×PV)
 ob:List (Nat×List PV)
 base:Nat
structure Ap where
 s:List (Nat×PV)
 o:List (Nat×List PV)
def Bp{α :Type}(d: α):List (Nat×α)→Nat→α
 | [],_=>d
 |(a,x)::r,s=>match Nat.beq a s with
  |true=>x
  |false=>Bp d r s
def Ag(d:Nat):List Nat→Bool
 | []=>true
 |a::r=>match Nat.beq a d with
  |true=>false
  |false=>Ag d r
def rem(K:List Nat):List (Nat×List PV)→List (Nat×List PV)
 | []=> []
 |(d,l)::r=>match Ag d K with
  |true=>(d,l)::rem K r
  |false=>rem K r
def Aep(o:List (Nat×List PV))(l:List (Nat×List PV)):List (Nat×List PV):=match o with
 | []=>l
 | [x]=>x::l
 |x::y::r=>(x::y::r)++rem ((x::y::r).map Prod.fst) l
def St.app(st:St)(δ :Ap):St:= { fr:= δ.s++st.fr,ob:=Aep δ.o st.ob,base:=st.base }
def St.get(st:St)(s:Nat):PV:=Bp .any st.fr s
def St.put(st:St)(s:Nat)(p:PV):St:= { st with fr:=(s,p)::st.fr }
def St.obj(st:St)(d:Nat):List PV:=Bp [] st.ob d
def St.vobj(st:St)(d:Nat):List PV:=(st.obj d).map PV.view
def Rx:Value→Bool
 | .agg _| .tuple _=>false
 |_=>true
def St.opd(st:St):Operand→PV
 | .tmp t=>st.get t
 | .const v=>match Rx v with
  |true=> .val v
  |false=> .any
 | .func f=> .clo f 0 []
 |_=> .any
def PV.cells:PV→List PV
 | .agg l=>l
 |p=> [p]
def PV.one:PV→Bool
 | .val v=>Rx v
 | .sl _ _ _ _=>true
 | .lst _ _=>true
 | .loc _ _=>true
 | .el _ _ _ _=>true
 | .vw _ _ _ _ _=>true
 | .mp _=>true
 | .clo _ _ _=>true
 |_=>false
def Jt:List PV→Bool
 | []=>true
 |p::r=>match p.one with
  |true=>Jt r
  |false=>false
inductive K where
 |move (x:Operand)
 |nilsl (e:Nat)
 |take (x:Nat)
 |pick (c a b:Operand)
 |alloc (zero:List PV)
 |box (x:Operand)
 |build (zero:List PV) (parts:List (Nat×Nat×Operand))
 |bslice (e sz:Nat) (parts:List Operand)
 |load (agg:Bool) (sz:Nat) (x:Operand)
 |loadT (x:Operand)
 |store (sz:Nat) (a x:Operand)
 |storeT (a:Operand) (s:Nat)
 |scal (o:Oper)
 |eqA (neg:Bool) (ts:List (Nat×Nat)) (x y:Operand)
 |bin2 (tag:Nat) (x y:Operand)
 |field (off:Nat) (x:Operand)
 |index (sz:Nat) (x i:Operand)
 |len (x:Operand)
 |cap (x:Operand)
 |app (e sz by_:Nat) (s:Nat) (x:Operand)
 |clone (cm:Bool) (e sz by_:Nat) (s:Nat) (x:Operand)
 |call (f:Nat) (args:List Operand)
 |icall (f:Nat) (args:List Operand)
 |callv (x:Operand) (args:List Operand)
 |mkfn (f n:Nat) (caps:List Operand)
 |extract (x:Operand) (i:Nat)
 |nil (x:Operand)
 |mksl (e sz by_:Nat) (z:List PV) (n:Operand)
 |mkcap (e sz by_:Nat) (n:Operand)
 |slc (sz:Nat) (x:Operand) (lo hi mx:Option Operand)
 |sstr (x:Operand) (lo hi:Option Operand)
 |mkmap (gk gv:Bool) (ks vs:LX)
 |lookup (gq:Bool) (ts:List (Nat×Nat)) (ok g:Bool) (z:List PV) (m k:Operand)
 |mapup (gq:Bool) (ts:List (Nat×Nat)) (m k v:Operand)
 |del (m k:Operand)
 |aidx (off sz:Nat) (g:Bool) (x:Operand)
 |stop
structure B5 where
 dst:Option Nat
 g:Option (Nat×Bool)
 k:K
inductive EC where
 |skip
 |region (ban:List Nat) (ap:List (Nat×Nat)) (ops:List B5)
 |regS (ops:List B5)
 |seq (a b:EC)
 |cond (c:Operand) (a b:EC)
 |block (id:Nat) (b:EC)
 |loop (keys:List Nat) (b:EC)
 |exit (id:Nat)
 |ret
 |kp (keys:List Nat)
 |frz (ts:List Nat)
 |loopU (keys:List Nat) (b:EC)
 |stop
inductive Ex where
 |normal|exit (id:Nat)|ret
def Qx{α :Type}(P:Program):Sem α→(α→Prop)→Prop
 | .pure a,k=>k a
 | .program f,k=>Qx P (f P) k
 |_,_=>False
abbrev Av:=Nat→List PV→(PV→Prop)→Prop
abbrev Tc:=Nat→List PV→List (Nat×List PV)→(PV→List (Nat×List PV)→Prop)→Prop
def gd(p:Prop) [d:Decidable p](k:Prop):Prop:=match d with
 | .isTrue _=>k
 | .isFalse _=>False
theorem Ac(p:Prop) [d:Decidable p](k:Prop):gd p k=(p∧k):=by
 unfold gd
 cases d with
 |isTrue h=>exact propext ⟨fun hk=>⟨h,hk⟩,fun hk=>hk.2⟩
 |isFalse h=>exact propext ⟨fun hk=>hk.elim,fun hk=>h hk.1⟩
def br(t:Bool)(A B:Prop):Prop:=match t with
 |true=>A
 |false=>B
def fk(r:Option Nat)(A:Nat→Prop)(B:Prop):Prop:=match r with
 |some i=>A i
 |none=>B
def Ew(l:List PV)(off:Nat):PV:=match l,off with
 | [],_=> .any
 |p::_,0=>p
 |_::r,n+1=>Ew r n
def Ir(l:List PV)(n:Nat):Bool:=match l,n with
 | [],0=>true
 |_::r,n+1=>Ir r n
 |_,_=>false
def G5(l:List PV)(n:Nat):Bool:=match l,n with
 |_,0=>true
 |_::r,n+1=>G5 r n
 |_,_=>false
def Oq(agg:Bool)(l:List PV):PV:=match agg,l with
 |true,l=> .agg l
 |false,[p]=>p.view
 |false,_=> .any
def dput(d:Option Nat)(p:PV):Ap:=match d with
 |some s=>⟨[(s,p)],[]⟩
 |none=>⟨[],[]⟩
def Dg:List PV→Bool
 | []=>true
 | .arrO _::_=>false
 | .mapO _ _ _ _::_=>false
 |_::r=>Dg r
def PV.pure0(p:PV):PV:=match p.flat with
 |true=>p.view
 |false=> .any
def U0(O:Nat→List PV):PV→PV
 | .loc d off=>match Dg ((O d).drop off) with
  |true=> .ref (((O d).drop off).map PV.pure0)
  |false=> .any
 | .agg l=> .agg (l.map PV.pure0)
 | .ref l=> .ref (l.map PV.pure0)
 |p=>p.pure0
def Jq(st:St)(ban:List Nat):List Operand→Bool
 | []=>true
 |x::r=>match ban,st.opd x with
  | [],_=>true
  |ban,.loc b _=>match Ag b ban with
   |true=>Jq st ban r
   |false=>false
  |ban,_=>Jq st ban r
def Oo(st:St)(cells:List PV):List (Nat×Nat×Operand)→(List PV→Prop)→Prop
 | [],k=>k cells
 |(off,sz,x)::r,k=>match Ir (st.opd x).cells sz,Jt (st.opd x).cells,G5 cells (off+sz) with
  |true,true,true=>Oo st (Da cells off ((st.opd x).cells.map PV.view)) r k
  |_,_,_=>False
def Ng(st:St)(sz:Nat):List Operand→(List (List PV)→Prop)→Prop
 | [],k=>k []
 |x::r,k=>match Ir (st.opd x).cells sz,Jt (st.opd x).cells with
  |true,true=>Ng st sz r fun l=>k ((st.opd x).cells.map PV.view::l)
  |_,_=>False
def K7(st:St):List Operand→Bool
 | []=>true
 |x::r=>match st.opd x with
  | .val _=>K7 st r
  |_=>false
def St.valOf(st:St)(x:Operand):Value:=match st.opd x with
 | .val v=>v
 |_=>undef
def Wh(P:Program)(st:St)(o:Oper)(d:Option Nat)(k:Ap→Prop):Prop:=
 match K7 st o.op.operands.toList with
 |true=>Qx P (execOp st.valOf o) fun n=>match n with
  | .value v=>match Rx v with
   |true=>k (dput d (.val v))
   |false=>False
  |_=>False
 |false=>False
def O4:List (Nat×Nat)→List PV→List PV→Option Bool
 | [],_,_=>some true
 |(tag,o)::r,xs,ys=>match O4 r xs ys with
  |none=>none
  |some t=>match tag,Ew xs o,Ew ys o with
   |0,.val (.bool a),.val (.bool b)=>some ((a == b) && t)
   |1,.val (.int k a),.val (.int k' b)=>match decide (k=k') with
    |true=>some ((a == b) && t)
    |false=>none
   |2,.val (.string a),.val (.string b)=>some ((a == b) && t)
   |_,_,_=>none
def C9:Option UInt8→Int
 |some b=>(b.toNat:Int)
 |none=>0
def bin2(tag:Nat)(x y:Value):Option (Bool×Value):=match tag,x,y with
 |0,.int k a,.int k' b=>match decide (k=k') with
  |true=>some (!decide (b=0),.int k (k.wrap (a.tdiv b)))
  |false=>none
 |1,.int k a,.int k' b=>match decide (k=k') with
  |true=>some (!decide (b=0),.int k (a.tmod b))
  |false=>none
 |2,.int k a,.int _ b=>some (!decide (b < 0),.int k (k.wrap (a*2 ^ (min b.toNat k.bits))))
 |3,.int k a,.int _ b=>some (!decide (b < 0),.int k (a.fdiv (2 ^ (min b.toNat k.bits))))
 |4,.string a,.string b=>some (!decide (((a.size+b.size:Nat):Int) > IntKind.i64.max),.string (a++b))
 |5,.string s,.int _ n=>some ((if 0≤n then s[n.toNat]? else none).isSome,.int .u8 (C9 (if 0≤n then s[n.toNat]? else none)))
 |_,_,_=>none
def Xt:Nat→PV→Bool
 |0,.val (.bool _)=>true
 |1,.val (.int _ _)=>true
 |2,.val (.string _)=>true
 |_,_=>false
def Ip:List (Nat×Nat)→List PV→Bool
 | [],[]=>true
 |(tag,_)::r,p::l=>match Xt tag p with
  |true=>Ip r l
  |false=>false
 |_,_=>false
def Ph(gq:Bool)(ts:List (Nat×Nat))(p:PV):Option (List PV):=match gq,p with
 |true,.agg l=>match Ip ts l with
  |true=>some l
  |false=>none
 |true,_=>none
 |false,p=>match Ip ts [p] with
  |true=>some [p]
  |false=>none
def Wf:Bool→Bool→Bool
 |true,true=>true
 |false,false=>true
 |_,_=>false
def Xu(g:Bool)(p:PV):Option (List PV):=match g,p with
 |true,.agg l=>some (l.map PV.view)
 |true,_=>none
 |false,p=>match p.one with
  |true=>some [p.view]
  |false=>none
def Aif:Operand→Bool
 | .const _=>true
 |_=>false
def St.bnd(st:St)(d:Int):Option Operand→Option Int
 |none=>some d
 |some x=>match st.opd x with
  | .val (.int _ n)=>some n
  |_=>none
def Rq(st:St)(x:Operand)(v:Value)(tag:Nat)(d:Option Nat)(k:Ap→Prop):Prop:=match v,(st.opd x).sv with
 | .slice none 0 0,some s=>match tag with
  |6=>gd (0 < s.n) (k (dput d (.val (.bool false))))
  |7=>gd (0 < s.n) (k (dput d (.val (.bool true))))
  |_=>False
 |_,_=>False
def PV.bare(e sz:Nat):PV→Bool
 | .val (.slice none 0 0)=>true
 | .lst true y=>match Nat.beq y.len 0,Nat.beq e y.e,Nat.beq sz y.sz with
  |true,true,true=>true
  |_,_,_=>false
 |_=>false
def q8:PV→PV→PV
 | .lst true y,.val (.slice none 0 0)=>match Nat.beq y.len 0 with
  |true=> .lst true y
  |false=> .val (.slice none 0 0)
 |_,p=>p
def Ky:List PV→List PV→List PV
 |_,[]=> []
 | [],p::ps=>p::ps
 |o::os,p::ps=>q8 o p::Ky os ps
def LX.flat(z:LX):List PV:=(((List.range z.len).map z.row).flatten).map PV.view
def Ad(P:Program)(C:Av)(X:Tc)(ban:List Nat)(o:K)(d:Option Nat)(st:St)(k:Ap→Prop):Prop:=
 match o with
 | .move x=>k (dput d (st.opd x).view)
 | .nilsl e=>match d,LX.nil e with
  |some d,some x=>k ⟨[(d,.lst true x)],[]⟩
  |_,_=>False
 | .take s=>match d with
  |some d=>k ⟨[(d,st.get s),(s,(st.get s).view)],[]⟩
  |none=>False
 | .pick c a b=>match st.opd c with
  | .val (.bool t)=>br t (k (dput d (st.opd a).view)) (k (dput d (st.opd b).view))
  |_=>False
 | .alloc z=>match d with
  |some s=>match Ag (st.base+s) (st.ob.map Prod.fst) with
   |true=>k ⟨[(s,.loc (st.base+s) 0)],[(st.base+s,z)]⟩
   |_=>False
  |none=>False
 | .box x=>match d with
  |some s=>match Ag (st.base+s) (st.ob.map Prod.fst),Jt (st.opd x).cells with
   |true,true=>k ⟨[(s,.loc (st.base+s) 0)],[(st.base+s,(st.opd x).cells.map PV.view)]⟩
   |_,_=>False
  |none=>False
 | .build z parts=>Oo st (z.map PV.view) parts fun l=>k (dput d (.agg l))
 | .bslice e sz parts=>Ng st sz parts fun l=>match LX.lit e l with
  |some x=>match Nat.beq x.sz sz with
   |true=>k (dput d (.lst true x))
   |false=>False
  |none=>k (dput d (.sl true e sz l))
 | .load agg sz x=>match st.opd x with
  | .loc b off=>match Ag b ban,G5 ((st.vobj b).drop off) sz,Dg (((st.vobj b).drop off).take sz) with
   |true,true,true=>k (dput d (Oq agg (((st.vobj b).drop off).take sz)))
   |_,_,_=>False
  | .ref l=>match G5 l sz with
   |true=>k (dput d (Oq agg (l.take sz)))
   |false=>False
  | .el b sz' i off=>match Ag b ban,st.vobj b with
   |true,[.arrO x]=>match Nat.beq sz' x.sz,G5 ((x.row i).drop off) sz with
    |true,true=>k (dput d (Oq agg (((x.row i).drop off).take sz)))
    |_,_=>False
   |_,_=>False
  |_=>False
 | .loadT x=>match st.opd x,d with
  | .loc b off,some d=>match Ag b ban,(Ew (st.obj b) off).one && Dg (st.obj b) with
   |true,true=>k ⟨[(d,Ew (st.obj b) off)],[(b,Da (st.obj b) off [(Ew (st.obj b) off).view])]⟩
   |_,_=>False
  |_,_=>False
 | .store sz a x=>match st.opd a with
  | .loc b off=>match Ir (st.opd x).cells sz,Jt (st.opd x).cells,G5 (st.obj b) (off+sz) && Dg (st.obj b) with
   |true,true,true=>k ⟨[],[(b,Da (st.obj b) off (Ky ((st.obj b).drop off) ((st.opd x).cells.map PV.view)))]⟩
   |_,_,_=>False
  | .el b sz' i off=>match Ir (st.opd x).cells sz,Jt (st.opd x).cells,st.obj b with
   |true,true,[.arrO y]=>match Nat.beq sz' y.sz,LX.set y i off ((st.opd x).cells.map PV.view) with
    |true,some y'=>k ⟨[],[(b,[.arrO y'])]⟩
    |_,_=>False
   |_,_,_=>False
  |_=>False
 | .storeT a s=>match st.opd a with
  | .loc b off=>match (st.get s).one,G5 (st.obj b) (off+1) && Dg (st.obj b) with
   |true,true=>k ⟨[(s,(st.get s).view)],[(b,Da (st.obj b) off [st.get s])]⟩
   |_,_=>False
  | .el b sz' i off=>match (st.get s).one,st.obj b with
   |true,[.arrO y]=>match Nat.beq sz' y.sz,LX.set y i off [(st.get s).view] with
    |true,some y'=>k ⟨[(s,(st.get s).view)],[(b,[.arrO y'])]⟩
    |_,_=>False
   |_,_=>False
  |_=>False
 | .scal o=>Wh P st o d k
 | .bin2 tag x y=>match st.opd x,st.opd y with
  | .val u,.val v=>match bin2 tag u v with
   |some (c,r)=>br c (k (dput d (.val r))) False
   |none=>False
  |_,.val v=>Rq st x v tag d k
  |_,_=>False
 | .eqA neg ts x y=>match st.opd x,st.opd y with
  | .agg xs,.agg ys=>match O4 ts xs ys with
   |some t=>match neg with
    |true=>k (dput d (.val (.bool (!t))))
    |false=>k (dput d (.val (.bool t)))
   |none=>False
  |_,_=>False
 | .field off x=>match st.opd x with
  | .loc b o=>k (dput d (.loc b (o+off)))
  | .ref l=>k (dput d (.ref (l.drop off)))
  | .el b sz i o=>k (dput d (.el b sz i (o+off)))
  |_=>False
 | .index sz x i=>match st.opd x,st.opd i with
  | .vw c b e sz' m,.val (.int _ n)=>match Nat.beq sz sz',c with
   |true,false=>gd (0≤n) (gd (n < (m:Int)) (k (dput d (.el b sz n.toNat 0))))
   |true,true=>gd (0≤n) (gd (n < (m:Int)) (k (dput d (.loc b (n.toNat*sz)))))
   |_,_=>False
  |p,.val (.int _ n)=>match p.sv with
   |some s=>match Nat.beq sz s.sz with
    |true=>gd (0≤n) (gd (n < (s.n:Int)) (k (dput d (.ref (s.f n.toNat)))))
    |false=>False
   |none=>False
  |_,_=>False
 | .len x=>match st.opd x with
  | .vw _ _ _ _ m=>k (dput d (.val (.int .i64 m)))
  | .val (.slice _ n _)=>k (dput d (.val (.int .i64 n)))
  |p=>match p.sv with
   |some s=>k (dput d (.val (.int .i64 s.n)))
   |none=>False
 | .cap x=>match st.opd x with
  | .val (.slice _ _ c)=>k (dput d (.val (.int .i64 c)))
  |_=>False
 | .app e sz by_ s x=>match d with
  |some d=>match st.get s,st.opd x with
   | .lst true y,.lst _ z=>match Nat.beq e y.e,Nat.beq sz y.sz,LX.cat y z with
    |true,true,some r=>gd ((y.len+z.len)*by_≤140737488355328) (gd (y.len+z.len≤maxLen) (k ⟨[(d,.lst true r),(s,.lst false y)],[]⟩))
    |_,_,_=>False
   | .lst true y,.val (.slice none 0 0)=>match Nat.beq e y.e with
    |true=>k ⟨[(d,.lst true y),(s,.lst false y)],[]⟩
    |false=>False
   | .val (.slice none 0 0),.lst _ z=>match Nat.beq e z.e,Nat.beq sz z.sz with
    |true,true=>gd ((0+z.len)*by_≤140737488355328) (gd (0+z.len≤maxLen) (k ⟨[(d,.lst true z)],[]⟩))
    |_,_=>False
   |_,_=>False
  |none=>False
 | .clone cm e sz by_ s x=>match d,LX.nil e with
  |some d,some n=>match Ag (st.base+d) (st.ob.map Prod.fst),(st.get s).bare e sz && Nat.beq e n.e && Nat.beq sz n.sz with
   |true,true=>match st.opd x with
    | .lst _ z=>match Nat.beq e z.e,Nat.beq sz z.sz with
     |true,true=>br (Nat.beq z.len 0) (k ⟨[(d,.lst true n),(s,(st.get s).view)],[]⟩)
      (gd (z.len*by_≤140737488355328) (gd (z.len≤maxLen) (k ⟨[(d,.vw cm (st.base+d) e sz z.len),(s,(st.get s).view)],[(st.base+d,match cm with|true=>z.flat|false=> [.arrO z])]⟩)))
     |_,_=>False
    |_=>False
   |_,_=>False
  |_,_=>False
 | .call f args=>match Jq st ban args with
  |true=>C f (args.map fun x=>U0 st.obj (st.opd x)) fun r=>k (dput d r.view)
  |false=>False
 | .icall f args=>X f (args.map fun x=>(st.opd x).view) st.ob fun r o'=>k ⟨(dput d r).s,o'⟩
 | .callv x args=>match st.opd x with
  | .clo f n caps=>X f (caps.take n++((args.map fun x=>(st.opd x).view)++caps.drop n)) st.ob fun r o'=>k ⟨(dput d r).s,o'⟩
  |_=>False
 | .mkfn f n caps=>k (dput d (.clo f n (caps.map fun x=>(st.opd x).view)))
 | .extract x i=>match st.opd x with
  | .tup l=>match G5 l (i+1) with
   |true=>k (dput d (Ew l i).view)
   |false=>False
  |_=>False
 | .nil x=>match st.opd x with
  | .loc b off=>k (dput d (.loc b off))
  | .ref l=>k (dput d (.ref l))
  | .el b sz i off=>k (dput d (.el b sz i off))
  |_=>False
 | .mksl e sz by_ z n=>match d,st.opd n with
  |some s,.val (.int .i64 m)=>match Aif n with
   |true=>match decide (0≤m),Ag (st.base+s) (st.ob.map Prod.fst),Nat.ble (m.toNat*by_) 140737488355328 && Nat.ble m.toNat 16777216 with
    |true,true,true=>k ⟨[(s,.vw true (st.base+s) e sz m.toNat)],[(st.base+s,(List.replicate m.toNat z).flatten)]⟩
    |_,_,_=>False
   |false=>match Ag (st.base+s) (st.ob.map Prod.fst),LX.lit e [z.map PV.view] with
    |true,some y=>match Nat.beq y.sz sz with
     |true=>gd (0≤m) (gd (m*(by_:Int)≤140737488355328) (gd (m≤9223372036854775807) (k ⟨[(s,.vw false (st.base+s) e sz m.toNat)],[(st.base+s,[.arrO (y.rep m.toNat)])]⟩)))
     |false=>False
    |_,_=>False
  |_,_=>False
 | .mkcap e sz by_ n=>match d,st.opd n,LX.nil e with
  |some s,.val (.int .i64 m),some x=>match Nat.beq x.sz sz with
   |true=>gd (0≤m) (gd (m*(by_:Int)≤140737488355328) (gd (m≤(maxLen:Int)) (k ⟨[(s,.lst true x)],[]⟩)))
   |false=>False
  |_,_,_=>False
 | .slc sz x lo hi mx=>match st.opd x with
  | .lst _ y=>match Nat.beq sz y.sz,st.bnd y.len mx with
   |true,some m=>match st.bnd y.len hi with
    |some h=>match st.bnd 0 lo with
     |some l=>gd (0≤l) (gd (l≤h) (gd (h≤m) (gd (m≤(y.len:Int)) (k (dput d (.lst (mx.isSome && decide (m=0)) (y.sub l.toNat h.toNat)))))))
     |none=>False
    |none=>False
   |_,_=>False
  |_=>False
 | .sstr x lo hi=>match st.opd x with
  | .val (.string s)=>match st.bnd s.size hi with
   |some h=>match st.bnd 0 lo with
    |some l=>gd (0≤l) (gd (l≤h) (gd (h≤(s.size:Int)) (k (dput d (.val (.string (s.extract l.toNat h.toNat)))))))
    |none=>False
   |none=>False
  |_=>False
 | .mkmap gk gv ks vs=>match d with
  |some s=>match Ag (st.base+s) (st.ob.map Prod.fst) with
   |true=>k ⟨[(s,.mp (st.base+s))],[(st.base+s,[.mapO gk gv ks vs])]⟩
   |false=>False
  |none=>False
 | .lookup gq ts ok g z m q=>match st.opd m with
  | .mp b=>match Ag b ban,st.obj b,Ph gq ts (st.opd q) with
   |true,[.mapO gk gv ks vs],some c=>match Wf gq gk,LX.find ks c,Wf g gv with
    |true,some r,true=>fk r (fun i=>k (dput d (match ok with|true=> .tup [Oq gv (vs.row i),.val (.bool true)]|false=>Oq gv (vs.row i))))
      (k (dput d (match ok with|true=> .tup [Oq g (z.map PV.view),.val (.bool false)]|false=>Oq g (z.map PV.view))))
    |_,_,_=>False
   |_,_,_=>False
  |_=>False
 | .mapup gq ts m q v=>match st.opd m with
  | .mp b=>match st.obj b,Ph gq ts (st.opd q) with
   | [.mapO gk gv ks vs],some ck=>match Wf gq gk,LX.find ks ck,Xu gv (st.opd v) with
    |true,some r,some c=>fk r (fun i=>match Nat.beq c.length vs.sz,LX.set vs i 0 c with
      |true,some vs'=>k ⟨[],[(b,[.mapO gk gv ks vs'])]⟩
      |_,_=>False)
     (match LX.push ks ck,LX.push vs c with
      |some ks',some vs'=>k ⟨[],[(b,[.mapO gk gv ks' vs'])]⟩
      |_,_=>False)
    |_,_,_=>False
   |_,_=>False
  |_=>False
 | .del m q=>False
 | .aidx off sz g x=>match st.opd x with
  | .agg l=>match G5 l (off+sz) with
   |true=>k (dput d (Oq g ((l.drop off).take sz)))
   |false=>False
  |_=>False
 | .stop=>False
def E7(P:Program)(C:Av)(X:Tc)(ban:List Nat):List B5→St→(St→Prop)→Prop
 | [],st,k=>k st
 |o::r,st,k=>match o.g with
  |none=>Ad P C X ban o.k o.dst st fun δ =>E7 P C X ban r (st.app δ) k
  |some (s,want)=>match st.get s with
   | .val (.bool t)=>
    br t
    (match want with
     |true=>Ad P C X ban o.k o.dst (st.put s (.val (.bool true))) fun δ =>E7 P C X ban r ((st.put s (.val (.bool true))).app δ) k
     |false=>E7 P C X ban r ((st.put s (.val (.bool true))).app (dput o.dst (.tup []))) k)
    (match want with
     |false=>Ad P C X ban o.k o.dst (st.put s (.val (.bool false))) fun δ =>E7 P C X ban r ((st.put s (.val (.bool false))).app δ) k
     |true=>E7 P C X ban r ((st.put s (.val (.bool false))).app (dput o.dst (.tup []))) k)
   | .tup []=>E7 P C X ban r (st.app (dput o.dst (.tup []))) k
   |_=>False
def K.quiet:K→Bool
 | .move _| .scal _| .field .. | .load .. | .len _| .cap _| .bin2 .. | .eqA .. | .index .. | .extract .. | .nil _| .call .. | .pick .. | .sstr .. | .lookup .. =>true
 |_=>false
def Pq(s:Nat):List B5→Option (List B5×Nat×List B5)
 | []=>none
 |eo::r=>match eo.k.quiet,eo.g with
  |true,some _=>match Pq s r with
   |some (B,pd,r')=>some (eo::B,pd,r')
   |none=>none
  |true,none=>match eo.k,eo.dst with
   | .pick (.tmp c) _ _,some pd=>match Nat.beq c s with
    |true=>some ([eo],pd,r)
    |false=>none
   |_,_=>none
  |false,_=>none
def U8:List B5→List (Nat×PV)
 | []=> []
 |eo::r=>match eo.dst with
  |some d=>(d,.any)::U8 r
  |none=>U8 r
def stJ(st:St)(B:List B5)(pd:Nat)(b:Bool):St:=st.app ⟨(pd,.val (.bool b))::U8 B,[]⟩
def jn{σ :Type}(X:(σ→Prop)→Prop)(j: σ→Prop):Prop:=X j
def Sj(pd:Nat)(j:Bool→Prop)(st:St):Prop:=match st.get pd with
 | .val (.bool b)=>j b
 |_=>False
def Er(P:Program)(C:Av)(X:Tc):Nat→List B5→St→(St→Prop)→Prop
 |_,[],st,k=>k st
 |0,_::_,_,_=>False
 |n+1,o::r,st,k=>match o.g with
  |none=>Ad P C X [] o.k o.dst st fun δ =>Er P C X n r (st.app δ) k
  |some (s,want)=>match st.get s with
   | .val (.bool t)=>match Pq s (o::r) with
    |some (B,pd,r')=>jn (fun j=>br t (E7 P C X [] B (st.put s (.val (.bool true))) (Sj pd j)) (E7 P C X [] B (st.put s (.val (.bool false))) (Sj pd j)))
      (fun b=>Er P C X n r' (stJ st B pd b) k)
    |none=>br t
     (match want with
      |true=>Ad P C X [] o.k o.dst (st.put s (.val (.bool true))) fun δ =>Er P C X n r ((st.put s (.val (.bool true))).app δ) k
      |false=>Er P C X n r ((st.put s (.val (.bool true))).app (dput o.dst (.tup []))) k)
     (match want with
      |false=>Ad P C X [] o.k o.dst (st.put s (.val (.bool false))) fun δ =>Er P C X n r ((st.put s (.val (.bool false))).app δ) k
      |true=>Er P C X n r ((st.put s (.val (.bool false))).app (dput o.dst (.tup []))) k)
   | .tup []=>Er P C X n r (st.app (dput o.dst (.tup []))) k
   |_=>False
def PV.safe0(D:Nat→Bool):PV→Bool
 | .any=>true
 | .val _=>true
 | .lst _ _=>true
 | .loc d _=> !(D d)
 | .el d _ _ _=> !(D d)
 | .vw _ d _ _ _=> !(D d)
 | .mp d=> !(D d)
 | .arrO _=>true
 | .mapO _ _ _ _=>true
 |_=>false
def Ou(s:PV→Bool):List PV→Bool
 | []=>true
 |p::r=>match s p with
  |true=>Ou s r
  |false=>false
def Xl(s:PV→Bool):List (List PV)→Bool
 | []=>true
 |p::r=>match Ou s p with
  |true=>Xl s r
  |false=>false
def PV.safeUp(s:PV→Bool):PV→Bool
 | .agg l=>Ou s l
 | .tup l=>Ou s l
 | .ref l=>Ou s l
 | .clo _ _ l=>Ou s l
 | .sl _ _ _ es=>Xl s es
 |p=>s p
def PV.safe(D:Nat→Bool)(p:PV):Bool:=PV.safeUp (PV.safeUp (PV.safeUp (PV.safe0 D))) p
def PV.clean(D:Nat→Bool)(p:PV):PV:=match p.safe D with
 |true=>p
 |false=> .any
def Aby(d:Nat):List Nat→List Nat
 | []=> [d]
 |b::r=>match Nat.blt d b,Nat.beq d b with
  |true,_=>d::b::r
  |false,true=>b::r
  |false,false=>b::Aby d r
def U1:List Nat→List Nat
 | []=> []
 |d::r=>Aby d (U1 r)
def Ml(l:List (Nat×List PV)):List (Nat×List PV):=(U1 (l.map Prod.fst)).map fun d=>(d,Bp [] l d)
def B1(st:St):List Nat:=U1 (st.ob.map Prod.fst)
def keep(keys live:List Nat)(st:St):St:=
 { fr:=keys.map fun s=>(s,(st.get s).clean fun d=>Ag d live),ob:=live.map fun d=>(d,(st.obj d).map fun p=>p.clean fun d=>Ag d live),base:=st.base }
def frF(st:St)(live:List Nat):List Nat→List (Nat×PV)
 | []=> []
 |s::r=>match (st.get s).clean fun d=>Ag d live with
  | .any=>frF st live r
  |p=>(s,p)::frF st live r
def q7(keys live:List Nat)(st:St):St:=
 { fr:=frF st live keys,ob:=live.map fun d=>(d,(st.obj d).map fun p=>p.clean fun d=>Ag d live),base:=st.base }
def Me(b:Nat):List Nat→List Nat
 | []=> []
 |a::r=>match Nat.beq a b with
  |true=>Me b r
  |false=>a::Me b r
def St.frz1(st:St)(t:Nat):St:=match st.get t with
 | .vw false b _ _ _=>match st.obj b,Nat.ble st.base b with
  | [.arrO y],true=>(q7 (st.fr.map Prod.fst) (Me b (B1 st)) st).app ⟨[(t,.lst false y)],[]⟩
  |_,_=>st
 |_=>st
def St.frzL(st:St):List Nat→St
 | []=>st
 |t::r=>St.frzL (st.frz1 t) r
def Abz(f:St→(Ex→St→Prop)→Prop)(keys live:List Nat)(k:Ex→St→Prop):Ex→St→Prop:=fun e st'=>match e with
 | .normal=>f (keep keys live st') k
 | .exit i=>k (.exit i) (keep keys live st')
 | .ret=>k .ret (keep keys live st')
def Ub(body:St→(Ex→St→Prop)→Prop)(keys live:List Nat):Nat→St→(Ex→St→Prop)→Prop
 |0,_,_=>False
 |n+1,st,k=>body st (Abz (Ub body keys live n) keys live k)
def Aej(f:St→(Ex→St→Prop)→Prop)(keys:List Nat)(k:Ex→St→Prop):Ex→St→Prop:=fun e st'=>match e with
 | .normal=>f (q7 keys (B1 st') st') k
 | .exit i=>k (.exit i) st'
 | .ret=>k .ret st'
def Uc(body:St→(Ex→St→Prop)→Prop)(keys:List Nat):Nat→St→(Ex→St→Prop)→Prop
 |0,_,_=>False
 |n+1,st,k=>body st (Aej (Uc body keys n) keys k)
def Lx(st:St):List (Nat×Nat)→Bool
 | []=>true
 |(a,b)::r=>match st.get a,st.get b with
  | .loc d _,.loc d' _=>match Nat.beq d d' with
   |true=>false
   |false=>Lx st r
  |_,_=>false
def Hk(f:St→(Ex→St→Prop)→Prop)(k:Ex→St→Prop):Ex→St→Prop:=fun e st'=>match e with
 | .normal=>f st' k
 | .exit i=>k (.exit i) st'
 | .ret=>k .ret st'
def B7(id:Nat)(k:Ex→St→Prop):Ex→St→Prop:=fun e st'=>match e with
 | .exit i=>match Nat.beq i id with
  |true=>k .normal st'
  |false=>k (.exit i) st'
 | .normal=>k .normal st'
 | .ret=>k .ret st'
def On(P:Program)(C:Av)(X:Tc)(L:Nat):EC→St→(Ex→St→Prop)→Prop
 | .skip,st,k=>k .normal st
 | .region ban ap l,st,k=>match Lx st ap with
  |true=>E7 P C X (ban.map (st.base+ ·)) l st fun st'=>k .normal st'
  |false=>False
 | .regS l,st,k=>Er P C X l.length l st fun st'=>k .normal st'
 | .seq a b,st,k=>On P C X L a st (Hk (On P C X L b) k)
 | .cond c a b,st,k=>match st.opd c with
  | .val (.bool t)=>br t (On P C X L a st k) (On P C X L b st k)
  |_=>False
 | .block id b,st,k=>On P C X L b st (B7 id k)
 | .loop keys b,st,k=>Ub (On P C X L b) keys (B1 st) L (keep keys (B1 st) st) k
 | .loopU keys b,st,k=>Uc (On P C X L b) keys L st k
 | .exit id,st,k=>k (.exit id) st
 | .ret,st,k=>k .ret st
 | .kp keys,st,k=>k .normal (q7 keys (B1 st) st)
 | .frz ts,st,k=>k .normal (st.frzL ts)
 | .stop,_,_=>False
def Bz(P:Program)(t:Nat):Bool:=match P.underlying t with
 |some (.struct _)|some (.array _ _)=>true
 |_=>false
def Kx(P:Program)(t:Nat):Bool:=match P.underlying t with
 |some (.slice _)=>true
 |_=>false
def Ow(P:Program)(t:Nat):Option Nat:=(P.info? t).map (·.size)
def Rb(P:Program)(t:Nat):Option (List Value):=((P.info? t).bind (·.zero)).map fun v=>v.cells.toList
def n8(P:Program)(t:Nat):Option (List (Nat×Nat)):=match P.underlying t with
 |some (.struct fs)=>fs.toList.mapM fun f=>(P.info? f.type).map fun i=>(f.offset,i.size)
 |some (.array n e)=>(P.info? e).map fun i=>(List.range n).map fun k=>(k*i.size,i.size)
 |_=>none
def Ae6(P:Program):Nat→Nat→List (Option Nat)
 |0,_=> [none]
 |n+1,t=>match P.underlying t with
  |some (.slice e)=> [some e]
  |some (.struct fs)=>fs.toList.flatMap fun f=>Ae6 P n f.type
  |some (.array k e)=>(List.replicate k (Ae6 P n e)).flatten
  |_=> [none]
def w9:Option Nat→Value→PV
 |some e,.slice none 0 0=>match LX.nil e with
  |some x=> .lst true x
  |none=> .val (.slice none 0 0)
 |_,v=> .val v
def R9:List (Option Nat)→List Value→List PV
 |_,[]=> []
 | [],v::vs=> .val v::R9 [] vs
 |o::os,v::vs=>w9 o v::R9 os vs
def M5:List Value→Bool
 | []=>true
 |v::r=>match Rx v with
  |true=>M5 r
  |false=>false
def Ra(P:Program)(t:Nat):Option (List PV):=match Rb P t with
 |some z=>match M5 z with
  |true=>some (R9 (Ae6 P 8 t) z)
  |false=>none
 |none=>none
def Ady(b:Bool)(P:Program)(t:Nat):Option (List PV):=match b with
 |false=>Ra P t
 |true=>match Rb P t with
  |some z=>match M5 z with
   |true=>some (R9 [] z)
   |false=>none
  |none=>none
def Adx(P:Program)(t:Nat)(g:Bool):Bool:=match (P.info? t).bind (·.zero) with
 |some (.agg _)=>g
 |some (.tuple _)=>false
 |some _=> !g
 |none=>false
def Rz(fs:List (Nat×Nat)):List (Nat×Operand)→Option (List (Nat×Nat×Operand))
 | []=>some []
 |(i,x)::r=>match fs[i]?,Rz fs r with
  |some (off,sz),some l=>some ((off,sz,x)::l)
  |_,_=>none
def Nd(i:Nat):List (Nat×Operand)→Option (List Operand)
 | []=>some []
 |(j,x)::r=>match Nat.beq i j,Nd (i+1) r with
  |true,some l=>some (x::l)
  |_,_=>none
def Od(P:Program)(t:Nat):Option Nat:=match P.underlying t with
 |some .bool=>some 0
 |some (.int _)=>some 1
 |some .string=>some 2
 |_=>none
def O5(P:Program):List Field→Option (List (Nat×Nat))
 | []=>some []
 |f::r=>match f.name == "_",Od P f.type,O5 P r with
  |false,some tag,some l=>some ((tag,f.offset)::l)
  |_,_,_=>none
def Ux:Nat→List (Nat×Nat)→Bool
 |_,[]=>true
 |k,(_,o)::r=>match Nat.beq o k with
  |true=>Ux (k+1) r
  |false=>false
def Sb(tag:Nat):List Nat→List (Nat×Nat)
 | []=> []
 |k::r=>(tag,k)::Sb tag r
def L6(P:Program)(t:Nat):Option (List (Nat×Nat)):=match P.underlying t with
 |some (.struct fs)=>match P.stoodInHeld t,P.eqGuardType P.depth t with
  |false,false=>O5 P fs.toList
  |_,_=>none
 |some (.array n e)=>match Od P e,Nat.beq (P.cellsOf e) 1 && (P.info? e).isSome,P.eqGuardType P.depth t with
  |some tag,true,false=>some (Sb tag (List.range n))
  |_,_,_=>none
 |_=>none
def N1(P:Program)(t:Nat):Option (Bool×List (Nat×Nat)):=match Od P t with
 |some tag=>some (false,[(tag,0)])
 |none=>match L6 P t with
  |some (x::r)=>match Ux 0 (x::r) with
   |true=>some (true,x::r)
   |false=>none
  |_=>none
def Dj(P:Program)(f:Nat):Bool:=match P.funcs[f]? with
 |some fn=> !(fn.name == "runtime.NumGoroutine") && fn.body.isSome
 |none=>false
def d9:Operand→Bool
 | .const (.slice none 0 0)=>true
 |_=>false
def Ain(P:Program)(t:Nat):Option Nat:=match P.underlying t with
 |some (.slice e)=>match LX.nil e with
  |some _=>some e
  |none=>none
 |_=>none
def Abj(s:Nat):List Operand→Nat
 | []=>0
 | .tmp t::r=>match Nat.beq s t with
  |true=>1+Abj s r
  |false=>Abj s r
 |_::r=>Abj s r
def Abk(s:Nat):List Oper→Nat
 | []=>0
 |o::r=>Abj s o.op.operands.toList+Abk s r
def Z2(s:Nat):Code→Nat
 | .region _ os _=>Abk s os.toList
 | .seq a b=>Z2 s a+Z2 s b
 | .cond c a b=>Abj s [c]+Z2 s a+Z2 s b
 | .block _ b=>Z2 s b
 | .loop b=>Z2 s b
 | .skip=>0
 | .exit _=>0
 | .ret=>0
 |_=>2
def Wt(s:Nat):List Oper→Bool
 | []=>false
 |o::r=>match o.op with
  | .call { callee:= .builtin .append,args,argTypes:=_ } =>match args.toList with
   | .tmp t::_=>match Nat.beq s t with
    |true=>true
    |false=>Wt s r
   |_=>Wt s r
  |_=>Wt s r
def Z0(s:Nat):Code→Bool
 | .region _ os _=>Wt s os.toList
 | .seq a b=>match Z0 s a with
  |true=>true
  |false=>Z0 s b
 | .cond _ a b=>match Z0 s a with
  |true=>true
  |false=>Z0 s b
 | .block _ b=>Z0 s b
 | .loop b=>Z0 s b
 |_=>false
def Afs(c:Code):Nat→Nat
 |0=>0
 |n+1=>(match Nat.beq (Z2 n c) 1,Z0 n c with
  |true,true=>(1 <<< (2*n)) ||| (1 <<< (2*n+1))
  |true,false=>1 <<< (2*n)
  |_,_=>0) ||| Afs c n
def Xm:Operand→Operand→Bool
 | .tmp a,.tmp b=>Nat.beq a b
 | .const (.int .i64 a),.const (.int .i64 b)=>decide (a=b)
 |_,_=>false
def Xw:Operand→Bool
 | .const (.int .i64 a)=>decide (a=0)
 |_=>false
def Aal(P:Program)(x:Operand)(ty:Nat)(k:K):K:=match d9 x,Ain P ty with
 |true,some e=> .nilsl e
 |_,_=>k
def Wo(P:Program)(ty:Nat)(x:Operand):K:=match Kx P ty,x with
 |true,.tmp s=> .take s
 |_,x=> .move x
def V6(P:Program)(once ty:Nat)(dst:Option Nat)(x:Operand):K:=match Kx P ty,x,dst with
 |true,.tmp s,some d=>match Nat.testBit once (2*d+1) with
  |true=> .take s
  |false=> .move (.tmp s)
 |_,x,_=> .move x
def Y2(P:Program)(once t:Nat)(dst:Option Nat)(g:Bool)(sz:Nat)(x:Operand):K:=match Kx P t,dst with
 |true,some s=>match Nat.testBit once (2*s+1) with
  |true=> .loadT x
  |false=> .load g sz x
 |_,_=> .load g sz x
def m0(P:Program)(once t sz:Nat)(a x:Operand):K:=match Kx P t,x with
 |true,.tmp s=>match Nat.testBit once (2*s),Nat.beq sz 1 with
  |true,true=> .storeT a s
  |_,_=> .store sz a x
 |_,_=> .store sz a x
def N5(P:Program)(inl:Nat→Bool)(once:Nat)(o:Oper):K:=
 match o.op with
 | .move x=>Aal P x o.type (V6 P once o.type o.dst x)
 | .assign x=>Aal P x o.type (Wo P o.type x)
 | .pick c a b=> .pick c a b
 | .alloc t=>match Ra P t with
  |some z=> .alloc z
  |none=> .stop
 | .box _ x=> .box x
 | .build t parts=>match Ady (Nat.testBit once 40005) P t,n8 P t with
  |some z,some fs=>match Rz fs parts.toList with
   |some l=> .build z l
   |none=> .stop
  |_,_=> .stop
 | .buildSlice t n parts=>match P.underlying t with
  |some (.slice e)=>match Ow P e,Rb P e,Nd 0 parts.toList with
   |some sz,some z,some l=>match Nat.beq l.length n,Nat.ble (n*sz) 16777216,Nat.beq z.length sz,Nat.ble 1 sz with
    |true,true,true,true=> .bslice e sz l
    |_,_,_,_=> .stop
   |_,_,_=> .stop
  |_=> .stop
 | .load t x=>match P.underlying t,Ow P t with
  |some _,some sz=>match Bz P t,Nat.beq sz 1 with
   |false,false=> .stop
   |false,true=>Y2 P once t o.dst false sz x
   |true,_=>Y2 P once t o.dst true sz x
  |_,_=> .stop
 | .store t a x=>match o.dst,Ow P t with
  |none,some sz=>m0 P once t sz a x
  |_,_=> .stop
 | .fieldAddr t x f=>match P.underlying t with
  |some (.struct fs)=>match fs[f]? with
   |some fd=>match Ow P fd.type with
    |some (_+1)=> .field fd.offset x
    |_=> .stop
   |none=> .stop
  |_=> .stop
 | .indexAddr t x i=>match P.underlying t with
  |some (.slice e)=>match Ow P e with
   |some sz=> .index sz x i
   |none=> .stop
  |_=> .stop
 | .extract x i=> .extract x i
 | .nilCheck x=> .nil x
 | .makeFunc (.func f) first caps=>match Dj P f with
  |true=> .mkfn f first.size (first.toList++caps.toList)
  |false=> .stop
 | .makeSlice t l c=>match P.underlying t with
  |some (.slice e)=>match P.info? e,Ow P e,Ra P e with
   |some i,some sz,some z=>match Nat.beq z.length sz,Nat.ble 1 sz,Xm l c,Xw l with
    |true,true,true,_=> .mksl e sz i.bytes z l
    |true,true,false,true=> .mkcap e sz i.bytes c
    |_,_,_,_=> .stop
   |_,_,_=> .stop
  |_=> .stop
 | .slice t x lo hi mx=>match P.underlying t with
  |some .string=>match mx with
   |none=> .sstr x lo hi
   |some _=> .stop
  |some (.slice e)=>match Ow P e,(match mx,hi with|some _,none=>false|_,_=>true) with
   |some sz,true=> .slc sz x lo hi mx
   |_,_=> .stop
  |_=> .stop
 | .makeMap t none=>match P.underlying t with
  |some (.map ek ev)=>match LX.nil ek,LX.nil ev with
   |some x,some y=> .mkmap (Bz P ek) (Bz P ev) x y
   |_,_=> .stop
  |_=> .stop
 | .lookup t m q ok=>match P.underlying t with
  |some (.map ek ev)=>match N1 P ek,Ra P ev with
   |some (gq,ts),some z=>match Adx P ev (Bz P ev) with
    |true=> .lookup gq ts ok (Bz P ev) z m q
    |false=> .stop
   |_,_=> .stop
  |_=> .stop
 | .mapUpdate t m q v=>match P.underlying t,o.dst with
  |some (.map ek ev),none=>match N1 P ek with
   |some (gq,ts)=> .mapup gq ts m q v
   |none=> .stop
  |_,_=> .stop
 | .call { callee:= .value (.func f),args,argTypes:=_ } =>match Dj P f with
  |true=>match inl f with
   |true=> .icall f args.toList
   |false=> .call f args.toList
  |false=> .stop
 | .call { callee:= .value (.tmp x),args,argTypes:=_ } => .callv (.tmp x) args.toList
 | .call { callee:= .builtin .len,args,argTypes } =>match args.toList,argTypes.toList with
  | [x],[t]=>match Kx P t with
   |true=> .len x
   |false=> .scal o
  |_,_=> .stop
 | .call { callee:= .builtin .cap,args,argTypes } =>match args.toList,argTypes.toList with
  | [x],[t]=>match Kx P t with
   |true=> .cap x
   |false=> .stop
  |_,_=> .stop
 | .call { callee:= .builtin .append,args,argTypes } =>match args.toList,argTypes.toList with
  | [.tmp s,x],[t,t']=>match Nat.beq t t',P.underlying t with
   |true,some (.slice e)=>match P.info? e with
    |some i=>match i.zero with
     |some z=>match Nat.beq z.cells.size i.size,Nat.ble 1 i.size with
      |true,true=>match Nat.testBit once 40001 with
       |true=> .clone (Nat.testBit once 40002) e i.size i.bytes s x
       |false=> .app e i.size i.bytes s x
      |_,_=> .stop
     |none=> .stop
    |none=> .stop
   |_,_=> .stop
  |_,_=> .stop
 | .call { callee:= .builtin .min,args:=_,argTypes:=_ } | .call { callee:= .builtin .max,args:=_,argTypes:=_ } => .scal o
 | .binOp b t x y _=>match Bz P t with
  |false=>match b,P.underlying t with
   | .quo,some (.int _)=> .bin2 0 x y
   | .rem,some (.int _)=> .bin2 1 x y
   | .shl,some (.int _)=> .bin2 2 x y
   | .shr,some (.int _)=> .bin2 3 x y
   | .add,some .string=> .bin2 4 x y
   | .eql,some (.slice _)=> .bin2 6 x y
   | .neq,some (.slice _)=> .bin2 7 x y
   |_,_=> .scal o
  |true=>match b,L6 P t with
   | .eql,some ts=> .eqA false ts x y
   | .neq,some ts=> .eqA true ts x y
   |_,_=> .stop
 | .unOp .. | .convert .. => .scal o
 | .index t x i=>match P.underlying t with
  |some .string=> .bin2 5 x i
  |_=> .stop
 |_=> .stop
def Oz(os:Array Oper):Option (Nat×Bool)→Option (Option (Nat×Bool))
 |none=>some none
 |some (j,w)=>match (os[j]?).bind (·.dst) with
  |some s=>some (some (s,w))
  |none=>none
def X3(P:Program)(inl:Nat→Bool)(once:Nat)(os:Array Oper):List Oper→Option (List B5)
 | []=>some []
 |o::r=>match Oz os o.guard,X3 P inl once os r with
  |some g,some l=>some (⟨o.dst,g,N5 P inl once o⟩::l)
  |_,_=>none
def K.heapy:K→Bool
 | .alloc _| .box _| .load .. | .loadT .. | .store .. | .storeT .. | .call .. | .icall .. | .callv .. | .mksl .. | .clone .. | .mkmap .. | .lookup .. | .mapup .. | .del .. =>true
 |_=>false
def K.isStore:K→Bool
 | .store .. | .storeT .. | .loadT .. | .icall .. | .callv .. | .mapup .. | .del .. =>true
 |_=>false
def K.wild:K→Bool
 | .icall .. | .callv .. =>true
 |_=>false
def K.makes:K→Bool
 | .alloc _| .box _| .mksl .. | .clone .. | .mkmap .. =>true
 |_=>false
def Jv:List Operand→List Nat
 | []=> []
 | .tmp t::r=>t::Jv r
 |_::r=>Jv r
def i6:Option Operand→List Operand
 |some x=> [x]
 |none=> []
def K.opds:K→List Operand
 | .move x| .box x| .load _ _ x| .loadT x| .field _ x| .len x| .cap x| .extract x _| .nil x| .aidx _ _ _ x=> [x]
 | .take s=> [.tmp s]
 | .pick c a b=> [c,a,b]
 | .alloc _| .nilsl _| .mkmap .. | .stop=> []
 | .build _ ps=>ps.map fun p=>p.2.2
 | .bslice _ _ ps=>ps
 | .store _ a x| .index _ a x| .eqA _ _ a x| .bin2 _ a x| .del a x| .lookup _ _ _ _ _ a x=> [a,x]
 | .storeT a s=> [a,.tmp s]
 | .mapup _ _ m q v=> [m,q,v]
 | .scal o=>o.op.operands.toList
 | .app _ _ _ s x| .clone _ _ _ _ s x=> [.tmp s,x]
 | .call _ args| .icall _ args| .mkfn _ _ args=>args
 | .callv x args=>x::args
 | .mksl _ _ _ _ n| .mkcap _ _ _ n=> [n]
 | .slc _ x lo hi mx=>x::(i6 lo++i6 hi++i6 mx)
 | .sstr x lo hi=>x::(i6 lo++i6 hi)
def B5.reads(o:B5):List Nat:=Jv o.k.opds++(match o.g with|some (s,_)=> [s]|none=> [])
def B5.writes(o:B5):List Nat:=(match o.dst with|some d=> [d]|none=> [])++(match o.k with| .take s=> [s]| .app _ _ _ s _=> [s]| .clone _ _ _ _ s _=> [s]| .storeT _ s=> [s]|_=> [])
def Nl(a b:List Nat):Bool:=a.any fun x=>b.any fun y=>Nat.beq x y
def K.addr:K→Option Nat
 | .load _ _ (.tmp a)=>some a
 | .loadT (.tmp a)=>some a
 | .store _ (.tmp a) _=>some a
 | .storeT (.tmp a) _=>some a
 |_=>none
def Kw(a b:Nat):List (Nat×Nat)→Bool
 | []=>false
 |(c,d)::r=>(Nat.beq a c && Nat.beq b d) || (Nat.beq a d && Nat.beq b c) || Kw a b r
def Ij(ap:List (Nat×Nat))(x y:B5):Bool:=match x.k.addr,y.k.addr with
 |some a,some b=>Kw a b ap
 |_,_=>false
def K.isLoad:K→Bool
 | .load .. =>true
 | .call .. =>true
 |_=>false
def K.isTake:K→Bool
 | .loadT _=>true
 |_=>false
def Tv(fx:Bool)(x:K)(fy:Bool)(y:K):Bool:=((x.isTake || fx) && y.isLoad) || (x.isLoad && (y.isTake || fy))
def Hs(ap:List (Nat×Nat))(fx:Bool)(x:B5)(fy:Bool)(y:B5):Bool:=
 Nl x.writes y.reads || Nl x.writes y.writes || Nl x.reads y.writes || (((x.k.isStore && y.k.heapy) || (x.k.heapy && y.k.isStore)) && !Ij ap x y && !Tv fx x.k fy y.k)
def Ek(a:Nat):List B5→Bool
 | []=>true
 |e::r=>match Ag a e.writes with
  |true=>Ek a r
  |false=>false
def Wr:List B5→List Nat
 | []=> []
 |e::r=>match e.k.addr with
  |some a=>a::Wr r
  |none=>Wr r
def Ry(l:List B5)(a:Nat):List Nat→List (Nat×Nat)
 | []=> []
 |b::r=>match Nat.beq a b,Ek b l with
  |false,true=>(a,b)::Ry l a r
  |_,_=>Ry l a r
def R8(l:List B5):List B5→List (Nat×Nat)
 | []=> []
 |e::r=>match e.k.isStore,e.k.addr with
  |true,some a=>match Ek a l with
   |true=>Ry l a (Wr l)++R8 l r
   |false=>R8 l r
  |_,_=>R8 l r
def Kv(l:List B5):List (Nat×Nat)→Bool
 | []=>true
 |(a,b)::r=>Ek a l && Ek b l && Kv l r
def J0(o:Oper):List Nat:=(o.after.toList.filter fun e=>Region.binds .any e).map (·.on)
def Ud(acc:List Nat):List Nat→Nat
 | []=>0
 |e::r=>(1 <<< e) ||| (acc.getD e 0) ||| Ud acc r
def Ad9:List Oper→List Nat→List Nat
 | [],acc=>acc
 |o::r,acc=>Ad9 r (acc++ [Ud acc (J0 o)])
def below(n:Nat)(p:Nat→Bool):Bool:=match n with
 |0=>true
 |n+1=>match p n with
  |true=>below n p
  |false=>false
def B5.mkAt(a:Nat)(e:B5):Bool:=match e.k,e.g,e.dst with
 | .alloc _,none,some d=>Nat.beq d a
 | .box _,none,some d=>Nat.beq d a
 |_,_,_=>false
def Ajj(l:List B5)(a k:Nat):Bool:=below l.length fun j=>Nat.beq j k || (match l[j]? with|some e=>Ag a e.writes|none=>true)
def Ax(l:List B5)(j:Nat):Bool:=match l[j]? with
 |some e=>e.k.isStore && !e.k.isTake && (match e.k.addr with
  |some a=> !(below j fun k=> !(match l[k]? with|some e'=>e'.mkAt a && Ajj l a k|none=>false))
  |none=>false)
 |none=>false
def Acw(ap:List (Nat×Nat))(l:List B5)(A:List Nat)(i j:Nat):Bool:=match l[i]?,l[j]? with
 |some x,some y=>match Hs ap (Ax l i) x (Ax l j) y with
  |true=>Nat.testBit (A.getD j 0) i
  |false=>true
 |_,_=>true
def L5(j:Nat):List Nat→Bool
 | []=>true
 |e::r=>match Nat.blt e j with
  |true=>L5 j r
  |false=>false
def O1(ap:List (Nat×Nat))(os:List Oper)(l:List B5):Bool:=
 Kv l ap && below os.length fun j=>below j (fun i=>Acw ap l (Ad9 os []) i j) && (match os[j]? with|some o=>L5 j (J0 o)|none=>true)
def Nf(nt:Nat):List B5→Bool
 | []=>true
 |o::r=>match o.dst with
  |some d=>match Nat.blt d nt with
   |true=>Nf nt r
   |false=>false
  |none=>Nf nt r
def Ag3(d:Nat)(l:List Nat):List Nat:=match Ag d l with
 |true=>l++ [d]
 |false=>l
def w7:List Oper→List Nat→List Nat
 | [],l=>l
 |o::r,l=>w7 r (match o.op,o.dst with
  | .assign _,some d=>Ag3 d l
  | .alloc _,some d=>Ag3 d l
  | .box _ _,some d=>Ag3 d l
  |_,_=>l)
def Kn:Code→List Nat→List Nat
 | .region _ os _,l=>w7 os.toList l
 | .seq a b,l=>Kn b (Kn a l)
 | .cond _ a b,l=>Kn b (Kn a l)
 | .block _ b,l=>Kn b l
 | .loop b,l=>Kn b l
 |_,l=>l
def Ue:List Oper→List Nat
 | []=> []
 |o::r=>match o.op,o.dst with
  | .move _,some d=>d::Ue r
  |_,_=>Ue r
def I0:Code→List Nat
 | .region _ os _=>Ue os.toList
 | .seq a b=>I0 a++I0 b
 | .cond _ a b=>I0 a++I0 b
 | .block _ b=>I0 b
 | .loop b=>I0 b
 |_=> []
def Z4:List Nat→List Nat
 | []=> []
 |d::r=>match Ag d r with
  |true=>Z4 r
  |false=>d::Z4 r
def Jr:List B5→List Nat
 | []=> []
 |o::r=>match o.k.makes,o.dst with
  |true,some d=>d::Jr r
  |_,_=>Jr r
def V5:List Nat→Nat
 | []=>0
 |s::r=>(1 <<< s) ||| V5 r
def Afp:List Oper→Nat
 | []=>0
 |o::r=>V5 (Jv o.op.operands.toList) ||| (match o.dst with|some d=>1 <<< d|none=>0) ||| Afp r
def E8:Code→Nat
 | .region _ os _=>Afp os.toList
 | .seq a b=>E8 a ||| E8 b
 | .cond c a b=>V5 (Jv [c]) ||| E8 a ||| E8 b
 | .block _ b=>E8 b
 | .loop b=>E8 b
 |_=>0
def t6:List ResultVar→Nat
 | []=>0
 | .tmp t::r=>(1 <<< t) ||| t6 r
 | .cell t _::r=>(1 <<< t) ||| t6 r
def k7:List ResultVar→List Nat
 | []=> []
 | .tmp t::r=>t::k7 r
 | .cell t _::r=>t::k7 r
def Lh(nt:Nat)(V:List Nat)(out body:Nat):List Nat:=
 (List.range nt).filter fun s=>Nat.testBit out s && (Nat.testBit body s || !(Ag s V))
def u9:Code→Bool
 | .exit _=>true
 | .ret=>true
 | .skip=>true
 |_=>false
def Aij(nt m:Nat):List Nat:=(List.range nt).filter fun s=>Nat.testBit m s
def Abr:List B5→List Nat→List Nat
 | [],acc=>acc
 |o::r,acc=>Abr r (match o.k,o.dst with
  | .bslice _ _ ps,_=>Jv ps++acc
  | .call _ args,_=>Jv args++acc
  | .move (.tmp s),some d=>match Ag d acc with
   |true=>acc
   |false=>s::Me d acc
  | .take s,some d=>match Ag d acc with
   |true=>acc
   |false=>s::Me d acc
  |_,_=>acc)
def Jw(P:Program)(inl:Nat→Bool)(once nt:Nat)(V:List Nat)(out lt:Nat):Code→EC
 | .skip=> .skip
 | .region _ os d=>match X3 P inl once os os.toList with
  |some l=>match Nf nt l with
   |true=>match d with
    |true=>match O1 [] os.toList l with
     |true=> .region (Jr l) [] l
     |false=>match O1 (R8 l l) os.toList l with
      |true=> .region (Jr l) (R8 l l) l
      |false=> .stop
    |false=>match Nat.testBit once 40003 with
     |true=> .seq (.frz (Abr l.reverse [])) (.regS l)
     |false=> .regS l
   |false=> .stop
  |none=> .stop
 | .seq a b=> .seq (Jw P inl once nt V (out ||| E8 b) (lt ||| E8 b) a) (match u9 b with
  |true=>Jw P inl once nt V (out ||| E8 a) lt b
  |false=> .seq (.kp (Aij nt (lt ||| E8 b))) (Jw P inl once nt V (out ||| E8 a) lt b))
 | .cond c a b=> .cond c (Jw P inl once nt V (out ||| E8 b ||| V5 (Jv [c])) lt a) (Jw P inl once nt V (out ||| E8 a ||| V5 (Jv [c])) lt b)
 | .block id b=> .block id (Jw P inl once nt V out lt b)
 | .loop b=>match Nat.testBit once 40004 with
  |true=> .loopU (Lh nt V out (E8 b)) (Jw P inl once nt (V++Lh nt V out (E8 b)) out (lt ||| E8 b) b)
  |false=> .loop (Lh nt V out (E8 b)) (Jw P inl once nt (V++Lh nt V out (E8 b)) out (lt ||| E8 b) b)
 | .exit id=> .exit id
 | .ret=> .ret
 |_=> .stop
def Yl(inl:Nat→Bool)(fn:Func)(j b:Nat):Nat:=match inl (1099511627776+((match fn.params.toList with|t::_=>t| []=>0)*16777216+fn.endLine*4096+fn.ntmps)*8+j) with
 |true=>1 <<< b
 |false=>0
def cFn(P:Program)(inl:Nat→Bool)(fn:Func):Option EC:=match fn.body with
 |some c=>some (Jw P inl (Afs c fn.ntmps ||| Yl inl fn 0 40001 ||| Yl inl fn 1 40003 ||| Yl inl fn 2 40002 ||| Yl inl fn 3 40004 ||| Yl inl fn 4 40005) fn.ntmps (Kn c (List.range fn.params.size++k7 fn.results.toList++Z4 (I0 c))) (V5 (List.range fn.params.size) ||| t6 fn.results.toList) (t6 fn.results.toList) c)
 |none=>none
def R2(sz:Nat):Nat→List PV→List (List PV)
 |0,_=> []
 |n+1,l=>l.take sz::R2 sz n (l.drop sz)
def PV.finN(O:Nat→List PV):Nat→PV→PV
 |0,p=>p.pure0
 |m+1,p=>match p with
 | .vw c d e sz n=>match c,O d with
  |false,[.arrO x]=>match Nat.beq sz x.sz with
   |true=> .lst false x
   |false=> .any
  |true,cs=>match LX.lit e (R2 sz n (cs.map (PV.finN O m))),Ir cs (n*sz) && Dg cs with
   |some x,true=>match Nat.beq sz x.sz with
    |true=> .lst false x
    |false=> .any
   |_,_=> .any
  |_,_=> .any
 |p=>p.pure0
def PV.fin1(O:Nat→List PV)(p:PV):PV:=PV.finN O 3 p
def PV.fin(O:Nat→List PV):PV→PV
 | .agg l=> .agg (l.map (PV.fin1 O))
 | .tup l=> .tup (l.map (PV.fin1 O))
 | .sl _ e sz es=> .sl false e sz (es.map fun r=>r.map PV.pure0)
 |p=>p.fin1 O
def G4(P:Program)(st:St):List ResultVar→(List PV→Prop)→Prop
 | [],k=>k []
 | .tmp t::r,k=>G4 P st r fun l=>k (st.get t::l)
 | .cell a t::r,k=>match st.get a,Ow P t,P.underlying t with
  | .loc b off,some sz,some _=>match Bz P t,Nat.beq sz 1,G5 ((st.obj b).drop off) sz && Dg (((st.obj b).drop off).take sz) with
   |true,_,true=>G4 P st r fun l=>k (.agg (((st.obj b).drop off).take sz)::l)
   |false,true,true=>G4 P st r fun l=>k (Oq false (((st.obj b).drop off).take sz)::l)
   |_,_,_=>False
  |_,_,_=>False
def La(i:Nat):List PV→List (Nat×PV)
 | []=> []
 |p::r=>(i,p.view)::La (i+1) r
def Ni(O:Nat→List PV)(k:PV→Prop):List PV→Prop
 | [r]=>k (r.fin O)
 |l=>k (.tup (l.map (PV.fin O)))
def Kj(P:Program)(rs:List ResultVar)(k:PV→Prop):Ex→St→Prop:=fun e st=>match e with
 | .exit _=>False
 | .normal=>G4 P st rs (Ni st.obj k)
 | .ret=>G4 P st rs (Ni st.obj k)
def W3(ob:List (Nat×List PV))(k:PV→List (Nat×List PV)→Prop):List PV→Prop
 | [r]=>k r ob
 |l=>k (.tup (l.map PV.view)) ob
def V1(P:Program)(rs:List ResultVar)(k:PV→List (Nat×List PV)→Prop):Ex→St→Prop:=fun e st=>match e with
 | .exit _=>False
 | .normal=>G4 P st rs (W3 (Ml st.ob) k)
 | .ret=>G4 P st rs (W3 (Ml st.ob) k)
def Mb:List (Nat×List PV)→Nat
 | []=>0
 |(d,_)::r=>match Nat.ble (Mb r) d with
  |true=>d+1
  |false=>Mb r
def Afh(e b:Nat)(args:List PV)(k:PV→List (Nat×List PV)→Prop):Prop:=match args,LX.nil e with
 | [.val (.slice none 0 0),.val (.int .i64 m)],some x=>gd (0≤m) (gd (m*(b:Int)≤140737488355328) (gd (m≤(4611686018427387904:Int)) (k (.lst true x) [])))
 |_,_=>False
def evJ(P:Program)(inl:Nat→Bool)(C:Av)(L:Nat)(X:Tc):Tc:=fun f args ob k=>match inl f with
  |true=>match P.funcs[f]? with
   |some fn=>match cFn P inl fn,Nat.ble args.length fn.ntmps,Dj P f with
    |some ec,true,true=>On P C X L ec { fr:=La 0 args,ob:=ob,base:=Mb ob } (V1 P fn.results.toList k)
    |_,_,_=>False
   |none=>False
  |false=>match Dj P f with
   |true=>C f (args.map (U0 (Bp [] ob))) fun r=>k r.view []
   |false=>False
def Abi(e:Nat)(args:List PV)(k:PV→List (Nat×List PV)→Prop)(E:Prop):Prop:=match args,LX.nil e with
 | [.lst _ z],some n=>br (Nat.beq z.len 0) (k (.lst true n) []) E
 |_,_=>E
def evB(P:Program)(inl:Nat→Bool)(G:Nat→Option (Nat×Nat))(C:Av)(L:Nat)(X:Tc):Tc:=fun f args ob k=>match G f with
  |some (e,b)=>match Nat.beq b 0 with
   |true=>Abi e args k (evJ P inl C L X f args ob k)
   |false=>Afh e b args k
  |none=>evJ P inl C L X f args ob k
def Yh(P:Program)(inl:Nat→Bool)(G:Nat→Option (Nat×Nat))(C:Av)(L:Nat):Nat→Tc
 |0,_,_,_,_=>False
 |n+1,f,args,ob,k=>evB P inl G C L (Yh P inl G C L n) f args ob k
noncomputable def YoS(P:Program)(inl:Nat→Bool)(G:Nat→Option (Nat×Nat))(C:Av)(L:Nat): { Y:Nat→Tc // Y=Yh P inl G C L } :=Classical.choice ⟨⟨Yh P inl G C L,rfl⟩⟩
noncomputable def Yo(P:Program)(inl:Nat→Bool)(G:Nat→Option (Nat×Nat))(C:Av)(L:Nat):Nat→Tc:=(YoS P inl G C L).1
noncomputable def evI(P:Program)(inl:Nat→Bool)(G:Nat→Option (Nat×Nat))(J:Nat→Bool)(C:Av)(L:Nat):Nat→Tc
 |0,_,_,_,_=>False
 |n+1,f,args,ob,k=>match J f with
  |true=>Yo P inl G C L (n+1) f args ob k
  |false=>evB P inl G C L (evI P inl G J C L n) f args ob k
theorem Aff(P:Program)(inl:Nat→Bool)(G:Nat→Option (Nat×Nat))(C:Av)(L:Nat):Yo P inl G C L=Yh P inl G C L:=(YoS P inl G C L).2
theorem b0(P:Program)(inl:Nat→Bool)(G:Nat→Option (Nat×Nat))(J:Nat→Bool)(C:Av)(L:Nat):∀n,evI P inl G J C L n=Yh P inl G C L n
 |0=>rfl
 |n+1=>by
  funext f args ob k
  simp only [evI,Yh,Aff,b0 P inl G J C L n]
  cases J f<;>rfl
theorem P0(P:Program)(inl:Nat→Bool)(G:Nat→Option (Nat×Nat))(J:Nat→Bool)(C:Av)(L n f:Nat)(args:List PV)(ob:List (Nat×List PV))(k:PV→List (Nat×List PV)→Prop):
  Yo P inl G C L (n+1) f args ob k=evB P inl G C L (evI P inl G J C L n) f args ob k:=by
 rw [Aff,b0];rfl
def Aed(P:Program)(C:Av)(X:Tc)(L:Nat)(rs:List ResultVar)(ec:EC)(args:List PV)(k:PV→Prop):Prop:=
 On P C X L ec { fr:=La 0 args,ob:= [],base:=0 } (Kj P rs k)
end Go.Proofs.YtmimkinjcfekmaaGreat.Ev
