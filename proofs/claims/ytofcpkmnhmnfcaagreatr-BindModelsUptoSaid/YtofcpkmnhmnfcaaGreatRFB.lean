/-  An evaluator of translated code on data without memory: definitions. -/
import Derived.Test.YtofcpkmnhmnfcaaGreatRFA
namespace Go.Proofs.YtofcpkmnhmnfcaaGreatR.Ev
open Go
set_option linter.unusedVariables false
set_option linter.unusedSimpArgs false
set_option linter.unnecessarySimpa false
structure SV where
 own:Bool
 e:Nat
 sz:Nat
 n:Nat
 f:Nat→List PV
def PV.sv:PV→Option SV
 | .sl own e sz es=>some ⟨own,e,sz,es.length,fun i=>es.getD i []⟩
 | .lst own x=>some ⟨own,x.e,x.sz,x.len,x.row⟩
 |_=>none
structure St where
 fr:List (Nat×PV)
 ob:List (Nat×List PV)
 base:Nat
structure Cx where
 s:List (Nat×PV)
 o:List (Nat×List PV)
def Ij{α :Type}(d: α):List (Nat×α)→Nat→α
 | [],_=>d
 |(a,x)::r,s=>match Nat.beq a s with
  |true=>x
  |false=>Ij d r s
def Bi(d:Nat):List Nat→Bool
 | []=>true
 |a::r=>match Nat.beq a d with
  |true=>false
  |false=>Bi d r
def rem(K:List Nat):List (Nat×List PV)→List (Nat×List PV)
 | []=> []
 |(d,l)::r=>match Bi d K with
  |true=>(d,l)::rem K r
  |false=>rem K r
def B55(o:List (Nat×List PV))(l:List (Nat×List PV)):List (Nat×List PV):=match o with
 | []=>l
 | [x]=>x::l
 |x::y::r=>(x::y::r)++rem ((x::y::r).map Prod.fst) l
def St.app(st:St)(δ :Cx):St:= { fr:= δ.s++st.fr,ob:=B55 δ.o st.ob,base:=st.base }
def St.get(st:St)(s:Nat):PV:=Ij .any st.fr s
def St.put(st:St)(s:Nat)(p:PV):St:= { st with fr:=(s,p)::st.fr }
def St.obj(st:St)(d:Nat):List PV:=Ij [] st.ob d
def St.vobj(st:St)(d:Nat):List PV:=(st.obj d).map PV.view
def A10:Value→Bool
 | .agg _| .tuple _=>false
 |_=>true
def St.opd(st:St):Operand→PV
 | .tmp t=>st.get t
 | .const v=>match A10 v with
  |true=> .val v
  |false=> .any
 | .func f=> .clo f 0 []
 |_=> .any
def PV.cells:PV→List PV
 | .agg l=>l
 |p=> [p]
def PV.one:PV→Bool
 | .val v=>A10 v
 | .sl _ _ _ _=>true
 | .lst _ _=>true
 | .loc _ _=>true
 | .el _ _ _ _=>true
 | .vw _ _ _ _ _=>true
 | .mp _=>true
 | .clo _ _ _=>true
 |_=>false
def Akm:List PV→Bool
 | []=>true
 |p::r=>match p.one with
  |true=>Akm r
  |false=>false
inductive K where
 |move (x:Operand)
 |nilsl (e:Nat)
 |take (x:Nat)
 |pick (c a b:Operand)
 |alloc (zero:List PV)
 |box (x:Operand)
 |build (zero:List PV) (parts:List (Nat×Nat×Operand))
 |bslice (e sz:Nat) (parts:List Operand)
 |load (agg:Bool) (sz:Nat) (x:Operand)
 |loadT (x:Operand)
 |store (sz:Nat) (a x:Operand)
 |storeT (a:Operand) (s:Nat)
 |scal (o:Oper)
 |eqA (neg:Bool) (ts:List (Nat×Nat)) (x y:Operand)
 |bin2 (tag:Nat) (x y:Operand)
 |field (off:Nat) (x:Operand)
 |index (sz:Nat) (x i:Operand)
 |len (x:Operand)
 |cap (x:Operand)
 |app (e sz by_:Nat) (s:Nat) (x:Operand)
 |clone (cm:Bool) (e sz by_:Nat) (s:Nat) (x:Operand)
 |call (f:Nat) (args:List Operand)
 |icall (f:Nat) (args:List Operand)
 |callv (x:Operand) (args:List Operand)
 |mkfn (f n:Nat) (caps:List Operand)
 |extract (x:Operand) (i:Nat)
 |nil (x:Operand)
 |mksl (e sz by_:Nat) (z:List PV) (n:Operand)
 |mkcap (e sz by_:Nat) (n:Operand)
 |slc (sz:Nat) (x:Operand) (lo hi mx:Option Operand)
 |sstr (x:Operand) (lo hi:Option Operand)
 |mkmap (gk gv:Bool) (ks vs:LX)
 |lookup (gq:Bool) (ts:List (Nat×Nat)) (ok g:Bool) (z:List PV) (m k:Operand)
 |mapup (gq:Bool) (ts:List (Nat×Nat)) (m k v:Operand)
 |del (m k:Operand)
 |aidx (off sz:Nat) (g:Bool) (x:Operand)
 |stop
structure Kj where
 dst:Option Nat
 g:Option (Nat×Bool)
 k:K
inductive EC where
 |skip
 |region (ban:List Nat) (ap:List (Nat×Nat)) (ops:List Kj)
 |regS (ops:List Kj)
 |seq (a b:EC)
 |cond (c:Operand) (a b:EC)
 |block (id:Nat) (b:EC)
 |loop (keys:List Nat) (b:EC)
 |exit (id:Nat)
 |ret
 |kp (keys:List Nat)
 |frz (ts:List Nat)
 |loopU (keys:List Nat) (b:EC)
 |stop
inductive Ex where
 |normal|exit (id:Nat)|ret
def Az0{α :Type}(P:Program):Sem α→(α→Prop)→Prop
 | .pure a,k=>k a
 | .program f,k=>Az0 P (f P) k
 |_,_=>False
abbrev Bd:=Nat→List PV→(PV→Prop)→Prop
abbrev Inl:=Nat→List PV→List (Nat×List PV)→(PV→List (Nat×List PV)→Prop)→Prop
def gd(p:Prop) [d:Decidable p](k:Prop):Prop:=match d with
 | .isTrue _=>k
 | .isFalse _=>False
theorem Bc(p:Prop) [d:Decidable p](k:Prop):gd p k=(p∧k):=by
 unfold gd
 cases d with
 |isTrue h=>exact propext ⟨fun hk=>⟨h,hk⟩,fun hk=>hk.2⟩
 |isFalse h=>exact propext ⟨fun hk=>hk.elim,fun hk=>h hk.1⟩
def br(t:Bool)(A B:Prop):Prop:=match t with
 |true=>A
 |false=>B
def fk(r:Option Nat)(A:Nat→Prop)(B:Prop):Prop:=match r with
 |some i=>A i
 |none=>B
def Yr(l:List PV)(off:Nat):PV:=match l,off with
 | [],_=> .any
 |p::_,0=>p
 |_::r,n+1=>Yr r n
def Af0(l:List PV)(n:Nat):Bool:=match l,n with
 | [],0=>true
 |_::r,n+1=>Af0 r n
 |_,_=>false
def Aar(l:List PV)(n:Nat):Bool:=match l,n with
 |_,0=>true
 |_::r,n+1=>Aar r n
 |_,_=>false
def mkP(agg:Bool)(l:List PV):PV:=match agg,l with
 |true,l=> .agg l
 |false,[p]=>p.view
 |false,_=> .any
def dput(d:Option Nat)(p:PV):Cx:=match d with
 |some s=>⟨[(s,p)],[]⟩
 |none=>⟨[],[]⟩
def Rt:List PV→Bool
 | []=>true
 | .arrO _::_=>false
 | .mapO _ _ _ _::_=>false
 |_::r=>Rt r
def PV.pure0(p:PV):PV:=match p.flat with
 |true=>p.view
 |false=> .any
def A9j(O:Nat→List PV):PV→PV
 | .loc d off=>match Rt ((O d).drop off) with
  |true=> .ref (((O d).drop off).map PV.pure0)
  |false=> .any
 | .agg l=> .agg (l.map PV.pure0)
 | .ref l=> .ref (l.map PV.pure0)
 |p=>p.pure0
def Akf(st:St)(ban:List Nat):List Operand→Bool
 | []=>true
 |x::r=>match ban,st.opd x with
  | [],_=>true
  |ban,.loc b _=>match Bi b ban with
   |true=>Akf st ban r
   |false=>false
  |ban,_=>Akf st ban r
def Awa(st:St)(cells:List PV):List (Nat×Nat×Operand)→(List PV→Prop)→Prop
 | [],k=>k cells
 |(off,sz,x)::r,k=>match Af0 (st.opd x).cells sz,Akm (st.opd x).cells,Aar cells (off+sz) with
  |true,true,true=>Awa st (Ox cells off ((st.opd x).cells.map PV.view)) r k
  |_,_,_=>False
def Aud(st:St)(sz:Nat):List Operand→(List (List PV)→Prop)→Prop
 | [],k=>k []
 |x::r,k=>match Af0 (st.opd x).cells sz,Akm (st.opd x).cells with
  |true,true=>Aud st sz r fun l=>k ((st.opd x).cells.map PV.view::l)
  |_,_=>False
def Aof(st:St):List Operand→Bool
 | []=>true
 |x::r=>match st.opd x with
  | .val _=>Aof st r
  |_=>false
def St.valOf(st:St)(x:Operand):Value:=match st.opd x with
 | .val v=>v
 |_=>undef
def Bcb(P:Program)(st:St)(o:Oper)(d:Option Nat)(k:Cx→Prop):Prop:=
 match Aof st o.op.operands.toList with
 |true=>Az0 P (execOp st.valOf o) fun n=>match n with
  | .value v=>match A10 v with
   |true=>k (dput d (.val v))
   |false=>False
  |_=>False
 |false=>False
def Axa:List (Nat×Nat)→List PV→List PV→Option Bool
 | [],_,_=>some true
 |(tag,o)::r,xs,ys=>match Axa r xs ys with
  |none=>none
  |some t=>match tag,Yr xs o,Yr ys o with
   |0,.val (.bool a),.val (.bool b)=>some ((a == b) && t)
   |1,.val (.int k a),.val (.int k' b)=>match decide (k=k') with
    |true=>some ((a == b) && t)
    |false=>none
   |2,.val (.string a),.val (.string b)=>some ((a == b) && t)
   |_,_,_=>none
def Eg:Option UInt8→Int
 |some b=>(b.toNat:Int)
 |none=>0
def bin2(tag:Nat)(x y:Value):Option (Bool×Value):=match tag,x,y with
 |0,.int k a,.int k' b=>match decide (k=k') with
  |true=>some (!decide (b=0),.int k (k.wrap (a.tdiv b)))
  |false=>none
 |1,.int k a,.int k' b=>match decide (k=k') with
  |true=>some (!decide (b=0),.int k (a.tmod b))
  |false=>none
 |2,.int k a,.int _ b=>some (!decide (b < 0),.int k (k.wrap (a*2 ^ (min b.toNat k.bits))))
 |3,.int k a,.int _ b=>some (!decide (b < 0),.int k (a.fdiv (2 ^ (min b.toNat k.bits))))
 |4,.string a,.string b=>some (!decide (((a.size+b.size:Nat):Int) > IntKind.i64.max),.string (a++b))
 |5,.string s,.int _ n=>some ((if 0≤n then s[n.toNat]? else none).isSome,.int .u8 (Eg (if 0≤n then s[n.toNat]? else none)))
 |_,_,_=>none
def Bfd:Nat→PV→Bool
 |0,.val (.bool _)=>true
 |1,.val (.int _ _)=>true
 |2,.val (.string _)=>true
 |_,_=>false
def Ae3:List (Nat×Nat)→List PV→Bool
 | [],[]=>true
 |(tag,_)::r,p::l=>match Bfd tag p with
  |true=>Ae3 r l
  |false=>false
 |_,_=>false
def Axg(gq:Bool)(ts:List (Nat×Nat))(p:PV):Option (List PV):=match gq,p with
 |true,.agg l=>match Ae3 ts l with
  |true=>some l
  |false=>none
 |true,_=>none
 |false,p=>match Ae3 ts [p] with
  |true=>some [p]
  |false=>none
def Bb9:Bool→Bool→Bool
 |true,true=>true
 |false,false=>true
 |_,_=>false
def Bff(g:Bool)(p:PV):Option (List PV):=match g,p with
 |true,.agg l=>some (l.map PV.view)
 |true,_=>none
 |false,p=>match p.one with
  |true=>some [p.view]
  |false=>none
def Clj:Operand→Bool
 | .const _=>true
 |_=>false
def St.bnd(st:St)(d:Int):Option Operand→Option Int
 |none=>some d
 |some x=>match st.opd x with
  | .val (.int _ n)=>some n
  |_=>none
def A1p(st:St)(x:Operand)(v:Value)(tag:Nat)(d:Option Nat)(k:Cx→Prop):Prop:=match v,(st.opd x).sv with
 | .slice none 0 0,some s=>match tag with
  |6=>gd (0 < s.n) (k (dput d (.val (.bool false))))
  |7=>gd (0 < s.n) (k (dput d (.val (.bool true))))
  |_=>False
 |_,_=>False
def PV.bare(e sz:Nat):PV→Bool
 | .val (.slice none 0 0)=>true
 | .lst true y=>match Nat.beq y.len 0,Nat.beq e y.e,Nat.beq sz y.sz with
  |true,true,true=>true
  |_,_,_=>false
 |_=>false
def Bpf:PV→PV→PV
 | .lst true y,.val (.slice none 0 0)=>match Nat.beq y.len 0 with
  |true=> .lst true y
  |false=> .val (.slice none 0 0)
 |_,p=>p
def Ant:List PV→List PV→List PV
 |_,[]=> []
 | [],p::ps=>p::ps
 |o::os,p::ps=>Bpf o p::Ant os ps
def LX.flat(z:LX):List PV:=(((List.range z.len).map z.row).flatten).map PV.view
def Bf(P:Program)(C:Bd)(X:Inl)(ban:List Nat)(o:K)(d:Option Nat)(st:St)(k:Cx→Prop):Prop:=
 match o with
 | .move x=>k (dput d (st.opd x).view)
 | .nilsl e=>match d,LX.nil e with
  |some d,some x=>k ⟨[(d,.lst true x)],[]⟩
  |_,_=>False
 | .take s=>match d with
  |some d=>k ⟨[(d,st.get s),(s,(st.get s).view)],[]⟩
  |none=>False
 | .pick c a b=>match st.opd c with
  | .val (.bool t)=>br t (k (dput d (st.opd a).view)) (k (dput d (st.opd b).view))
  |_=>False
 | .alloc z=>match d with
  |some s=>match Bi (st.base+s) (st.ob.map Prod.fst) with
   |true=>k ⟨[(s,.loc (st.base+s) 0)],[(st.base+s,z)]⟩
   |_=>False
  |none=>False
 | .box x=>match d with
  |some s=>match Bi (st.base+s) (st.ob.map Prod.fst),Akm (st.opd x).cells with
   |true,true=>k ⟨[(s,.loc (st.base+s) 0)],[(st.base+s,(st.opd x).cells.map PV.view)]⟩
   |_,_=>False
  |none=>False
 | .build z parts=>Awa st (z.map PV.view) parts fun l=>k (dput d (.agg l))
 | .bslice e sz parts=>Aud st sz parts fun l=>match LX.lit e l with
  |some x=>match Nat.beq x.sz sz with
   |true=>k (dput d (.lst true x))
   |false=>False
  |none=>k (dput d (.sl true e sz l))
 | .load agg sz x=>match st.opd x with
  | .loc b off=>match Bi b ban,Aar ((st.vobj b).drop off) sz,Rt (((st.vobj b).drop off).take sz) with
   |true,true,true=>k (dput d (mkP agg (((st.vobj b).drop off).take sz)))
   |_,_,_=>False
  | .ref l=>match Aar l sz with
   |true=>k (dput d (mkP agg (l.take sz)))
   |false=>False
  | .el b sz' i off=>match Bi b ban,st.vobj b with
   |true,[.arrO x]=>match Nat.beq sz' x.sz,Aar ((x.row i).drop off) sz with
    |true,true=>k (dput d (mkP agg (((x.row i).drop off).take sz)))
    |_,_=>False
   |_,_=>False
  |_=>False
 | .loadT x=>match st.opd x,d with
  | .loc b off,some d=>match Bi b ban,(Yr (st.obj b) off).one && Rt (st.obj b) with
   |true,true=>k ⟨[(d,Yr (st.obj b) off)],[(b,Ox (st.obj b) off [(Yr (st.obj b) off).view])]⟩
   |_,_=>False
  |_,_=>False
 | .store sz a x=>match st.opd a with
  | .loc b off=>match Af0 (st.opd x).cells sz,Akm (st.opd x).cells,Aar (st.obj b) (off+sz) && Rt (st.obj b) with
   |true,true,true=>k ⟨[],[(b,Ox (st.obj b) off (Ant ((st.obj b).drop off) ((st.opd x).cells.map PV.view)))]⟩
   |_,_,_=>False
  | .el b sz' i off=>match Af0 (st.opd x).cells sz,Akm (st.opd x).cells,st.obj b with
   |true,true,[.arrO y]=>match Nat.beq sz' y.sz,LX.set y i off ((st.opd x).cells.map PV.view) with
    |true,some y'=>k ⟨[],[(b,[.arrO y'])]⟩
    |_,_=>False
   |_,_,_=>False
  |_=>False
 | .storeT a s=>match st.opd a with
  | .loc b off=>match (st.get s).one,Aar (st.obj b) (off+1) && Rt (st.obj b) with
   |true,true=>k ⟨[(s,(st.get s).view)],[(b,Ox (st.obj b) off [st.get s])]⟩
   |_,_=>False
  | .el b sz' i off=>match (st.get s).one,st.obj b with
   |true,[.arrO y]=>match Nat.beq sz' y.sz,LX.set y i off [(st.get s).view] with
    |true,some y'=>k ⟨[(s,(st.get s).view)],[(b,[.arrO y'])]⟩
    |_,_=>False
   |_,_=>False
  |_=>False
 | .scal o=>Bcb P st o d k
 | .bin2 tag x y=>match st.opd x,st.opd y with
  | .val u,.val v=>match bin2 tag u v with
   |some (c,r)=>br c (k (dput d (.val r))) False
   |none=>False
  |_,.val v=>A1p st x v tag d k
  |_,_=>False
 | .eqA neg ts x y=>match st.opd x,st.opd y with
  | .agg xs,.agg ys=>match Axa ts xs ys with
   |some t=>match neg with
    |true=>k (dput d (.val (.bool (!t))))
    |false=>k (dput d (.val (.bool t)))
   |none=>False
  |_,_=>False
 | .field off x=>match st.opd x with
  | .loc b o=>k (dput d (.loc b (o+off)))
  | .ref l=>k (dput d (.ref (l.drop off)))
  | .el b sz i o=>k (dput d (.el b sz i (o+off)))
  |_=>False
 | .index sz x i=>match st.opd x,st.opd i with
  | .vw c b e sz' m,.val (.int _ n)=>match Nat.beq sz sz',c with
   |true,false=>gd (0≤n) (gd (n < (m:Int)) (k (dput d (.el b sz n.toNat 0))))
   |true,true=>gd (0≤n) (gd (n < (m:Int)) (k (dput d (.loc b (n.toNat*sz)))))
   |_,_=>False
  |p,.val (.int _ n)=>match p.sv with
   |some s=>match Nat.beq sz s.sz with
    |true=>gd (0≤n) (gd (n < (s.n:Int)) (k (dput d (.ref (s.f n.toNat)))))
    |false=>False
   |none=>False
  |_,_=>False
 | .len x=>match st.opd x with
  | .vw _ _ _ _ m=>k (dput d (.val (.int .i64 m)))
  | .val (.slice _ n _)=>k (dput d (.val (.int .i64 n)))
  |p=>match p.sv with
   |some s=>k (dput d (.val (.int .i64 s.n)))
   |none=>False
 | .cap x=>match st.opd x with
  | .val (.slice _ _ c)=>k (dput d (.val (.int .i64 c)))
  |_=>False
 | .app e sz by_ s x=>match d with
  |some d=>match st.get s,st.opd x with
   | .lst true y,.lst _ z=>match Nat.beq e y.e,Nat.beq sz y.sz,LX.cat y z with
    |true,true,some r=>gd ((y.len+z.len)*by_≤140737488355328) (gd (y.len+z.len≤maxLen) (k ⟨[(d,.lst true r),(s,.lst false y)],[]⟩))
    |_,_,_=>False
   | .lst true y,.val (.slice none 0 0)=>match Nat.beq e y.e with
    |true=>k ⟨[(d,.lst true y),(s,.lst false y)],[]⟩
    |false=>False
   | .val (.slice none 0 0),.lst _ z=>match Nat.beq e z.e,Nat.beq sz z.sz with
    |true,true=>gd ((0+z.len)*by_≤140737488355328) (gd (0+z.len≤maxLen) (k ⟨[(d,.lst true z)],[]⟩))
    |_,_=>False
   |_,_=>False
  |none=>False
 | .clone cm e sz by_ s x=>match d,LX.nil e with
  |some d,some n=>match Bi (st.base+d) (st.ob.map Prod.fst),(st.get s).bare e sz && Nat.beq e n.e && Nat.beq sz n.sz with
   |true,true=>match st.opd x with
    | .lst _ z=>match Nat.beq e z.e,Nat.beq sz z.sz with
     |true,true=>br (Nat.beq z.len 0) (k ⟨[(d,.lst true n),(s,(st.get s).view)],[]⟩)
      (gd (z.len*by_≤140737488355328) (gd (z.len≤maxLen) (k ⟨[(d,.vw cm (st.base+d) e sz z.len),(s,(st.get s).view)],[(st.base+d,match cm with|true=>z.flat|false=> [.arrO z])]⟩)))
     |_,_=>False
    |_=>False
   |_,_=>False
  |_,_=>False
 | .call f args=>match Akf st ban args with
  |true=>C f (args.map fun x=>A9j st.obj (st.opd x)) fun r=>k (dput d r.view)
  |false=>False
 | .icall f args=>X f (args.map fun x=>(st.opd x).view) st.ob fun r o'=>k ⟨(dput d r).s,o'⟩
 | .callv x args=>match st.opd x with
  | .clo f n caps=>X f (caps.take n++((args.map fun x=>(st.opd x).view)++caps.drop n)) st.ob fun r o'=>k ⟨(dput d r).s,o'⟩
  |_=>False
 | .mkfn f n caps=>k (dput d (.clo f n (caps.map fun x=>(st.opd x).view)))
 | .extract x i=>match st.opd x with
  | .tup l=>match Aar l (i+1) with
   |true=>k (dput d (Yr l i).view)
   |false=>False
  |_=>False
 | .nil x=>match st.opd x with
  | .loc b off=>k (dput d (.loc b off))
  | .ref l=>k (dput d (.ref l))
  | .el b sz i off=>k (dput d (.el b sz i off))
  |_=>False
 | .mksl e sz by_ z n=>match d,st.opd n with
  |some s,.val (.int .i64 m)=>match Clj n with
   |true=>match decide (0≤m),Bi (st.base+s) (st.ob.map Prod.fst),Nat.ble (m.toNat*by_) 140737488355328 && Nat.ble m.toNat 16777216 with
    |true,true,true=>k ⟨[(s,.vw true (st.base+s) e sz m.toNat)],[(st.base+s,(List.replicate m.toNat z).flatten)]⟩
    |_,_,_=>False
   |false=>match Bi (st.base+s) (st.ob.map Prod.fst),LX.lit e [z.map PV.view] with
    |true,some y=>match Nat.beq y.sz sz with
     |true=>gd (0≤m) (gd (m*(by_:Int)≤140737488355328) (gd (m≤9223372036854775807) (k ⟨[(s,.vw false (st.base+s) e sz m.toNat)],[(st.base+s,[.arrO (y.rep m.toNat)])]⟩)))
     |false=>False
    |_,_=>False
  |_,_=>False
 | .mkcap e sz by_ n=>match d,st.opd n,LX.nil e with
  |some s,.val (.int .i64 m),some x=>match Nat.beq x.sz sz with
   |true=>gd (0≤m) (gd (m*(by_:Int)≤140737488355328) (gd (m≤(maxLen:Int)) (k ⟨[(s,.lst true x)],[]⟩)))
   |false=>False
  |_,_,_=>False
 | .slc sz x lo hi mx=>match st.opd x with
  | .lst _ y=>match Nat.beq sz y.sz,st.bnd y.len mx with
   |true,some m=>match st.bnd y.len hi with
    |some h=>match st.bnd 0 lo with
     |some l=>gd (0≤l) (gd (l≤h) (gd (h≤m) (gd (m≤(y.len:Int)) (k (dput d (.lst (mx.isSome && decide (m=0)) (y.sub l.toNat h.toNat)))))))
     |none=>False
    |none=>False
   |_,_=>False
  |_=>False
 | .sstr x lo hi=>match st.opd x with
  | .val (.string s)=>match st.bnd s.size hi with
   |some h=>match st.bnd 0 lo with
    |some l=>gd (0≤l) (gd (l≤h) (gd (h≤(s.size:Int)) (k (dput d (.val (.string (s.extract l.toNat h.toNat)))))))
    |none=>False
   |none=>False
  |_=>False
 | .mkmap gk gv ks vs=>match d with
  |some s=>match Bi (st.base+s) (st.ob.map Prod.fst) with
   |true=>k ⟨[(s,.mp (st.base+s))],[(st.base+s,[.mapO gk gv ks vs])]⟩
   |false=>False
  |none=>False
 | .lookup gq ts ok g z m q=>match st.opd m with
  | .mp b=>match Bi b ban,st.obj b,Axg gq ts (st.opd q) with
   |true,[.mapO gk gv ks vs],some c=>match Bb9 gq gk,LX.find ks c,Bb9 g gv with
    |true,some r,true=>fk r (fun i=>k (dput d (match ok with|true=> .tup [mkP gv (vs.row i),.val (.bool true)]|false=>mkP gv (vs.row i))))
      (k (dput d (match ok with|true=> .tup [mkP g (z.map PV.view),.val (.bool false)]|false=>mkP g (z.map PV.view))))
    |_,_,_=>False
   |_,_,_=>False
  |_=>False
 | .mapup gq ts m q v=>match st.opd m with
  | .mp b=>match st.obj b,Axg gq ts (st.opd q) with
   | [.mapO gk gv ks vs],some ck=>match Bb9 gq gk,LX.find ks ck,Bff gv (st.opd v) with
    |true,some r,some c=>fk r (fun i=>match Nat.beq c.length vs.sz,LX.set vs i 0 c with
      |true,some vs'=>k ⟨[],[(b,[.mapO gk gv ks vs'])]⟩
      |_,_=>False)
     (match LX.push ks ck,LX.push vs c with
      |some ks',some vs'=>k ⟨[],[(b,[.mapO gk gv ks' vs'])]⟩
      |_,_=>False)
    |_,_,_=>False
   |_,_=>False
  |_=>False
 | .del m q=>False
 | .aidx off sz g x=>match st.opd x with
  | .agg l=>match Aar l (off+sz) with
   |true=>k (dput d (mkP g ((l.drop off).take sz)))
   |false=>False
  |_=>False
 | .stop=>False
def Y7(P:Program)(C:Bd)(X:Inl)(ban:List Nat):List Kj→St→(St→Prop)→Prop
 | [],st,k=>k st
 |o::r,st,k=>match o.g with
  |none=>Bf P C X ban o.k o.dst st fun δ =>Y7 P C X ban r (st.app δ) k
  |some (s,want)=>match st.get s with
   | .val (.bool t)=>
    br t
    (match want with
     |true=>Bf P C X ban o.k o.dst (st.put s (.val (.bool true))) fun δ =>Y7 P C X ban r ((st.put s (.val (.bool true))).app δ) k
     |false=>Y7 P C X ban r ((st.put s (.val (.bool true))).app (dput o.dst (.tup []))) k)
    (match want with
     |false=>Bf P C X ban o.k o.dst (st.put s (.val (.bool false))) fun δ =>Y7 P C X ban r ((st.put s (.val (.bool false))).app δ) k
     |true=>Y7 P C X ban r ((st.put s (.val (.bool false))).app (dput o.dst (.tup []))) k)
   | .tup []=>Y7 P C X ban r (st.app (dput o.dst (.tup []))) k
   |_=>False
def K.quiet:K→Bool
 | .move _| .scal _| .field .. | .load .. | .len _| .cap _| .bin2 .. | .eqA .. | .index .. | .extract .. | .nil _| .call .. | .pick .. | .sstr .. | .lookup .. =>true
 |_=>false
def Ax6(s:Nat):List Kj→Option (List Kj×Nat×List Kj)
 | []=>none
 |eo::r=>match eo.k.quiet,eo.g with
  |true,some _=>match Ax6 s r with
   |some (B,pd,r')=>some (eo::B,pd,r')
   |none=>none
  |true,none=>match eo.k,eo.dst with
   | .pick (.tmp c) _ _,some pd=>match Nat.beq c s with
    |true=>some ([eo],pd,r)
    |false=>none
   |_,_=>none
  |false,_=>none
def A9y:List Kj→List (Nat×PV)
 | []=> []
 |eo::r=>match eo.dst with
  |some d=>(d,.any)::A9y r
  |none=>A9y r
def stJ(st:St)(B:List Kj)(pd:Nat)(b:Bool):St:=st.app ⟨(pd,.val (.bool b))::A9y B,[]⟩
def jn{σ :Type}(X:(σ→Prop)→Prop)(j: σ→Prop):Prop:=X j
def A3h(pd:Nat)(j:Bool→Prop)(st:St):Prop:=match st.get pd with
 | .val (.bool b)=>j b
 |_=>False
def Xk(P:Program)(C:Bd)(X:Inl):Nat→List Kj→St→(St→Prop)→Prop
 |_,[],st,k=>k st
 |0,_::_,_,_=>False
 |n+1,o::r,st,k=>match o.g with
  |none=>Bf P C X [] o.k o.dst st fun δ =>Xk P C X n r (st.app δ) k
  |some (s,want)=>match st.get s with
   | .val (.bool t)=>match Ax6 s (o::r) with
    |some (B,pd,r')=>jn (fun j=>br t (Y7 P C X [] B (st.put s (.val (.bool true))) (A3h pd j)) (Y7 P C X [] B (st.put s (.val (.bool false))) (A3h pd j)))
      (fun b=>Xk P C X n r' (stJ st B pd b) k)
    |none=>br t
     (match want with
      |true=>Bf P C X [] o.k o.dst (st.put s (.val (.bool true))) fun δ =>Xk P C X n r ((st.put s (.val (.bool true))).app δ) k
      |false=>Xk P C X n r ((st.put s (.val (.bool true))).app (dput o.dst (.tup []))) k)
     (match want with
      |false=>Bf P C X [] o.k o.dst (st.put s (.val (.bool false))) fun δ =>Xk P C X n r ((st.put s (.val (.bool false))).app δ) k
      |true=>Xk P C X n r ((st.put s (.val (.bool false))).app (dput o.dst (.tup []))) k)
   | .tup []=>Xk P C X n r (st.app (dput o.dst (.tup []))) k
   |_=>False
def PV.safe0(D:Nat→Bool):PV→Bool
 | .any=>true
 | .val _=>true
 | .lst _ _=>true
 | .loc d _=> !(D d)
 | .el d _ _ _=> !(D d)
 | .vw _ d _ _ _=> !(D d)
 | .mp d=> !(D d)
 | .arrO _=>true
 | .mapO _ _ _ _=>true
 |_=>false
def Awi(s:PV→Bool):List PV→Bool
 | []=>true
 |p::r=>match s p with
  |true=>Awi s r
  |false=>false
def Be4(s:PV→Bool):List (List PV)→Bool
 | []=>true
 |p::r=>match Awi s p with
  |true=>Be4 s r
  |false=>false
def PV.safeUp(s:PV→Bool):PV→Bool
 | .agg l=>Awi s l
 | .tup l=>Awi s l
 | .ref l=>Awi s l
 | .clo _ _ l=>Awi s l
 | .sl _ _ _ es=>Be4 s es
 |p=>s p
def PV.safe(D:Nat→Bool)(p:PV):Bool:=PV.safeUp (PV.safeUp (PV.safeUp (PV.safe0 D))) p
def PV.clean(D:Nat→Bool)(p:PV):PV:=match p.safe D with
 |true=>p
 |false=> .any
def Bvy(d:Nat):List Nat→List Nat
 | []=> [d]
 |b::r=>match Nat.blt d b,Nat.beq d b with
  |true,_=>d::b::r
  |false,true=>b::r
  |false,false=>b::Bvy d r
def A9k:List Nat→List Nat
 | []=> []
 |d::r=>Bvy d (A9k r)
def Asq(l:List (Nat×List PV)):List (Nat×List PV):=(A9k (l.map Prod.fst)).map fun d=>(d,Ij [] l d)
def Js(st:St):List Nat:=A9k (st.ob.map Prod.fst)
def keep(keys live:List Nat)(st:St):St:=
 { fr:=keys.map fun s=>(s,(st.get s).clean fun d=>Bi d live),ob:=live.map fun d=>(d,(st.obj d).map fun p=>p.clean fun d=>Bi d live),base:=st.base }
def frF(st:St)(live:List Nat):List Nat→List (Nat×PV)
 | []=> []
 |s::r=>match (st.get s).clean fun d=>Bi d live with
  | .any=>frF st live r
  |p=>(s,p)::frF st live r
def Bpe(keys live:List Nat)(st:St):St:=
 { fr:=frF st live keys,ob:=live.map fun d=>(d,(st.obj d).map fun p=>p.clean fun d=>Bi d live),base:=st.base }
def Ar5(b:Nat):List Nat→List Nat
 | []=> []
 |a::r=>match Nat.beq a b with
  |true=>Ar5 b r
  |false=>a::Ar5 b r
def St.frz1(st:St)(t:Nat):St:=match st.get t with
 | .vw false b _ _ _=>match st.obj b,Nat.ble st.base b with
  | [.arrO y],true=>(Bpe (st.fr.map Prod.fst) (Ar5 b (Js st)) st).app ⟨[(t,.lst false y)],[]⟩
  |_,_=>st
 |_=>st
def St.frzL(st:St):List Nat→St
 | []=>st
 |t::r=>St.frzL (st.frz1 t) r
def Hh(f:St→(Ex→St→Prop)→Prop)(keys live:List Nat)(k:Ex→St→Prop):Ex→St→Prop:=fun e st'=>match e with
 | .normal=>f (keep keys live st') k
 | .exit i=>k (.exit i) (keep keys live st')
 | .ret=>k .ret (keep keys live st')
def Jj(body:St→(Ex→St→Prop)→Prop)(keys live:List Nat):Nat→St→(Ex→St→Prop)→Prop
 |0,_,_=>False
 |n+1,st,k=>body st (Hh (Jj body keys live n) keys live k)
def B35(f:St→(Ex→St→Prop)→Prop)(keys:List Nat)(k:Ex→St→Prop):Ex→St→Prop:=fun e st'=>match e with
 | .normal=>f (Bpe keys (Js st') st') k
 | .exit i=>k (.exit i) st'
 | .ret=>k .ret st'
def A7x(body:St→(Ex→St→Prop)→Prop)(keys:List Nat):Nat→St→(Ex→St→Prop)→Prop
 |0,_,_=>False
 |n+1,st,k=>body st (B35 (A7x body keys n) keys k)
def Are(st:St):List (Nat×Nat)→Bool
 | []=>true
 |(a,b)::r=>match st.get a,st.get b with
  | .loc d _,.loc d' _=>match Nat.beq d d' with
   |true=>false
   |false=>Are st r
  |_,_=>false
def Be(f:St→(Ex→St→Prop)→Prop)(k:Ex→St→Prop):Ex→St→Prop:=fun e st'=>match e with
 | .normal=>f st' k
 | .exit i=>k (.exit i) st'
 | .ret=>k .ret st'
def Av(id:Nat)(k:Ex→St→Prop):Ex→St→Prop:=fun e st'=>match e with
 | .exit i=>match Nat.beq i id with
  |true=>k .normal st'
  |false=>k (.exit i) st'
 | .normal=>k .normal st'
 | .ret=>k .ret st'
def evC(P:Program)(C:Bd)(X:Inl)(L:Nat):EC→St→(Ex→St→Prop)→Prop
 | .skip,st,k=>k .normal st
 | .region ban ap l,st,k=>match Are st ap with
  |true=>Y7 P C X (ban.map (st.base+ ·)) l st fun st'=>k .normal st'
  |false=>False
 | .regS l,st,k=>Xk P C X l.length l st fun st'=>k .normal st'
 | .seq a b,st,k=>evC P C X L a st (Be (evC P C X L b) k)
 | .cond c a b,st,k=>match st.opd c with
  | .val (.bool t)=>br t (evC P C X L a st k) (evC P C X L b st k)
  |_=>False
 | .block id b,st,k=>evC P C X L b st (Av id k)
 | .loop keys b,st,k=>Jj (evC P C X L b) keys (Js st) L (keep keys (Js st) st) k
 | .loopU keys b,st,k=>A7x (evC P C X L b) keys L st k
 | .exit id,st,k=>k (.exit id) st
 | .ret,st,k=>k .ret st
 | .kp keys,st,k=>k .normal (Bpe keys (Js st) st)
 | .frz ts,st,k=>k .normal (st.frzL ts)
 | .stop,_,_=>False
def Jq(P:Program)(t:Nat):Bool:=match P.underlying t with
 |some (.struct _)|some (.array _ _)=>true
 |_=>false
def Anr(P:Program)(t:Nat):Bool:=match P.underlying t with
 |some (.slice _)=>true
 |_=>false
def szT(P:Program)(t:Nat):Option Nat:=(P.info? t).map (·.size)
def A0g(P:Program)(t:Nat):Option (List Value):=((P.info? t).bind (·.zero)).map fun v=>v.cells.toList
def Bmj(P:Program)(t:Nat):Option (List (Nat×Nat)):=match P.underlying t with
 |some (.struct fs)=>fs.toList.mapM fun f=>(P.info? f.type).map fun i=>(f.offset,i.size)
 |some (.array n e)=>(P.info? e).map fun i=>(List.range n).map fun k=>(k*i.size,i.size)
 |_=>none
def B62(P:Program):Nat→Nat→List (Option Nat)
 |0,_=> [none]
 |n+1,t=>match P.underlying t with
  |some (.slice e)=> [some e]
  |some (.struct fs)=>fs.toList.flatMap fun f=>B62 P n f.type
  |some (.array k e)=>(List.replicate k (B62 P n e)).flatten
  |_=> [none]
def Brt:Option Nat→Value→PV
 |some e,.slice none 0 0=>match LX.nil e with
  |some x=> .lst true x
  |none=> .val (.slice none 0 0)
 |_,v=> .val v
def A2l:List (Option Nat)→List Value→List PV
 |_,[]=> []
 | [],v::vs=> .val v::A2l [] vs
 |o::os,v::vs=>Brt o v::A2l os vs
def At3:List Value→Bool
 | []=>true
 |v::r=>match A10 v with
  |true=>At3 r
  |false=>false
def A0f(P:Program)(t:Nat):Option (List PV):=match A0g P t with
 |some z=>match At3 z with
  |true=>some (A2l (B62 P 8 t) z)
  |false=>none
 |none=>none
def Bz5(b:Bool)(P:Program)(t:Nat):Option (List PV):=match b with
 |false=>A0f P t
 |true=>match A0g P t with
  |some z=>match At3 z with
   |true=>some (A2l [] z)
   |false=>none
  |none=>none
def Bz4(P:Program)(t:Nat)(g:Bool):Bool:=match (P.info? t).bind (·.zero) with
 |some (.agg _)=>g
 |some (.tuple _)=>false
 |some _=> !g
 |none=>false
def A14(fs:List (Nat×Nat)):List (Nat×Operand)→Option (List (Nat×Nat×Operand))
 | []=>some []
 |(i,x)::r=>match fs[i]?,A14 fs r with
  |some (off,sz),some l=>some ((off,sz,x)::l)
  |_,_=>none
def Aub(i:Nat):List (Nat×Operand)→Option (List Operand)
 | []=>some []
 |(j,x)::r=>match Nat.beq i j,Aub (i+1) r with
  |true,some l=>some (x::l)
  |_,_=>none
def Avu(P:Program)(t:Nat):Option Nat:=match P.underlying t with
 |some .bool=>some 0
 |some (.int _)=>some 1
 |some .string=>some 2
 |_=>none
def Axb(P:Program):List Field→Option (List (Nat×Nat))
 | []=>some []
 |f::r=>match f.name == "_",Avu P f.type,Axb P r with
  |false,some tag,some l=>some ((tag,f.offset)::l)
  |_,_,_=>none
def A9h:Nat→List (Nat×Nat)→Bool
 |_,[]=>true
 |k,(_,o)::r=>match Nat.beq o k with
  |true=>A9h (k+1) r
  |false=>false
def A25(tag:Nat):List Nat→List (Nat×Nat)
 | []=> []
 |k::r=>(tag,k)::A25 tag r
def Arl(P:Program)(t:Nat):Option (List (Nat×Nat)):=match P.underlying t with
 |some (.struct fs)=>match P.stoodInHeld t,P.eqGuardType P.depth t with
  |false,false=>Axb P fs.toList
  |_,_=>none
 |some (.array n e)=>match Avu P e,Nat.beq (P.cellsOf e) 1 && (P.info? e).isSome,P.eqGuardType P.depth t with
  |some tag,true,false=>some (A25 tag (List.range n))
  |_,_,_=>none
 |_=>none
def Ava(P:Program)(t:Nat):Option (Bool×List (Nat×Nat)):=match Avu P t with
 |some tag=>some (false,[(tag,0)])
 |none=>match Arl P t with
  |some (x::r)=>match A9h 0 (x::r) with
   |true=>some (true,x::r)
   |false=>none
  |_=>none
def Su(P:Program)(f:Nat):Bool:=match P.funcs[f]? with
 |some fn=> !(fn.name == "runtime.NumGoroutine") && fn.body.isSome
 |none=>false
def Bj8:Operand→Bool
 | .const (.slice none 0 0)=>true
 |_=>false
def Cl9(P:Program)(t:Nat):Option Nat:=match P.underlying t with
 |some (.slice e)=>match LX.nil e with
  |some _=>some e
  |none=>none
 |_=>none
def Bux(s:Nat):List Operand→Nat
 | []=>0
 | .tmp t::r=>match Nat.beq s t with
  |true=>1+Bux s r
  |false=>Bux s r
 |_::r=>Bux s r
def Buy(s:Nat):List Oper→Nat
 | []=>0
 |o::r=>Bux s o.op.operands.toList+Buy s r
def Bjs(s:Nat):Code→Nat
 | .region _ os _=>Buy s os.toList
 | .seq a b=>Bjs s a+Bjs s b
 | .cond c a b=>Bux s [c]+Bjs s a+Bjs s b
 | .block _ b=>Bjs s b
 | .loop b=>Bjs s b
 | .skip=>0
 | .exit _=>0
 | .ret=>0
 |_=>2
def Bc9(s:Nat):List Oper→Bool
 | []=>false
 |o::r=>match o.op with
  | .call { callee:= .builtin .append,args,argTypes:=_ } =>match args.toList with
   | .tmp t::_=>match Nat.beq s t with
    |true=>true
    |false=>Bc9 s r
   |_=>Bc9 s r
  |_=>Bc9 s r
def Bjn(s:Nat):Code→Bool
 | .region _ os _=>Bc9 s os.toList
 | .seq a b=>match Bjn s a with
  |true=>true
  |false=>Bjn s b
 | .cond _ a b=>match Bjn s a with
  |true=>true
  |false=>Bjn s b
 | .block _ b=>Bjn s b
 | .loop b=>Bjn s b
 |_=>false
def B8b(c:Code):Nat→Nat
 |0=>0
 |n+1=>(match Nat.beq (Bjs n c) 1,Bjn n c with
  |true,true=>(1 <<< (2*n)) ||| (1 <<< (2*n+1))
  |true,false=>1 <<< (2*n)
  |_,_=>0) ||| B8b c n
def Be5:Operand→Operand→Bool
 | .tmp a,.tmp b=>Nat.beq a b
 | .const (.int .i64 a),.const (.int .i64 b)=>decide (a=b)
 |_,_=>false
def Bfh:Operand→Bool
 | .const (.int .i64 a)=>decide (a=0)
 |_=>false
def Bs2(P:Program)(x:Operand)(ty:Nat)(k:K):K:=match Bj8 x,Cl9 P ty with
 |true,some e=> .nilsl e
 |_,_=>k
def Bcl(P:Program)(ty:Nat)(x:Operand):K:=match Anr P ty,x with
 |true,.tmp s=> .take s
 |_,x=> .move x
def Bb0(P:Program)(once ty:Nat)(dst:Option Nat)(x:Operand):K:=match Anr P ty,x,dst with
 |true,.tmp s,some d=>match Nat.testBit once (2*d+1) with
  |true=> .take s
  |false=> .move (.tmp s)
 |_,x,_=> .move x
def Bhd(P:Program)(once t:Nat)(dst:Option Nat)(g:Bool)(sz:Nat)(x:Operand):K:=match Anr P t,dst with
 |true,some s=>match Nat.testBit once (2*s+1) with
  |true=> .loadT x
  |false=> .load g sz x
 |_,_=> .load g sz x
def Blg(P:Program)(once t sz:Nat)(a x:Operand):K:=match Anr P t,x with
 |true,.tmp s=>match Nat.testBit once (2*s),Nat.beq sz 1 with
  |true,true=> .storeT a s
  |_,_=> .store sz a x
 |_,_=> .store sz a x
def cOp(P:Program)(inl:Nat→Bool)(once:Nat)(o:Oper):K:=
 match o.op with
 | .move x=>Bs2 P x o.type (Bb0 P once o.type o.dst x)
 | .assign x=>Bs2 P x o.type (Bcl P o.type x)
 | .pick c a b=> .pick c a b
 | .alloc t=>match A0f P t with
  |some z=> .alloc z
  |none=> .stop
 | .box _ x=> .box x
 | .build t parts=>match Bz5 (Nat.testBit once 40005) P t,Bmj P t with
  |some z,some fs=>match A14 fs parts.toList with
   |some l=> .build z l
   |none=> .stop
  |_,_=> .stop
 | .buildSlice t n parts=>match P.underlying t with
  |some (.slice e)=>match szT P e,A0g P e,Aub 0 parts.toList with
   |some sz,some z,some l=>match Nat.beq l.length n,Nat.ble (n*sz) 16777216,Nat.beq z.length sz,Nat.ble 1 sz with
    |true,true,true,true=> .bslice e sz l
    |_,_,_,_=> .stop
   |_,_,_=> .stop
  |_=> .stop
 | .load t x=>match P.underlying t,szT P t with
  |some _,some sz=>match Jq P t,Nat.beq sz 1 with
   |false,false=> .stop
   |false,true=>Bhd P once t o.dst false sz x
   |true,_=>Bhd P once t o.dst true sz x
  |_,_=> .stop
 | .store t a x=>match o.dst,szT P t with
  |none,some sz=>Blg P once t sz a x
  |_,_=> .stop
 | .fieldAddr t x f=>match P.underlying t with
  |some (.struct fs)=>match fs[f]? with
   |some fd=>match szT P fd.type with
    |some (_+1)=> .field fd.offset x
    |_=> .stop
   |none=> .stop
  |_=> .stop
 | .indexAddr t x i=>match P.underlying t with
  |some (.slice e)=>match szT P e with
   |some sz=> .index sz x i
   |none=> .stop
  |_=> .stop
 | .extract x i=> .extract x i
 | .nilCheck x=> .nil x
 | .makeFunc (.func f) first caps=>match Su P f with
  |true=> .mkfn f first.size (first.toList++caps.toList)
  |false=> .stop
 | .makeSlice t l c=>match P.underlying t with
  |some (.slice e)=>match P.info? e,szT P e,A0f P e with
   |some i,some sz,some z=>match Nat.beq z.length sz,Nat.ble 1 sz,Be5 l c,Bfh l with
    |true,true,true,_=> .mksl e sz i.bytes z l
    |true,true,false,true=> .mkcap e sz i.bytes c
    |_,_,_,_=> .stop
   |_,_,_=> .stop
  |_=> .stop
 | .slice t x lo hi mx=>match P.underlying t with
  |some .string=>match mx with
   |none=> .sstr x lo hi
   |some _=> .stop
  |some (.slice e)=>match szT P e,(match mx,hi with|some _,none=>false|_,_=>true) with
   |some sz,true=> .slc sz x lo hi mx
   |_,_=> .stop
  |_=> .stop
 | .makeMap t none=>match P.underlying t with
  |some (.map ek ev)=>match LX.nil ek,LX.nil ev with
   |some x,some y=> .mkmap (Jq P ek) (Jq P ev) x y
   |_,_=> .stop
  |_=> .stop
 | .lookup t m q ok=>match P.underlying t with
  |some (.map ek ev)=>match Ava P ek,A0f P ev with
   |some (gq,ts),some z=>match Bz4 P ev (Jq P ev) with
    |true=> .lookup gq ts ok (Jq P ev) z m q
    |false=> .stop
   |_,_=> .stop
  |_=> .stop
 | .mapUpdate t m q v=>match P.underlying t,o.dst with
  |some (.map ek ev),none=>match Ava P ek with
   |some (gq,ts)=> .mapup gq ts m q v
   |none=> .stop
  |_,_=> .stop
 | .call { callee:= .value (.func f),args,argTypes:=_ } =>match Su P f with
  |true=>match inl f with
   |true=> .icall f args.toList
   |false=> .call f args.toList
  |false=> .stop
 | .call { callee:= .value (.tmp x),args,argTypes:=_ } => .callv (.tmp x) args.toList
 | .call { callee:= .builtin .len,args,argTypes } =>match args.toList,argTypes.toList with
  | [x],[t]=>match Anr P t with
   |true=> .len x
   |false=> .scal o
  |_,_=> .stop
 | .call { callee:= .builtin .cap,args,argTypes } =>match args.toList,argTypes.toList with
  | [x],[t]=>match Anr P t with
   |true=> .cap x
   |false=> .stop
  |_,_=> .stop
 | .call { callee:= .builtin .append,args,argTypes } =>match args.toList,argTypes.toList with
  | [.tmp s,x],[t,t']=>match Nat.beq t t',P.underlying t with
   |true,some (.slice e)=>match P.info? e with
    |some i=>match i.zero with
     |some z=>match Nat.beq z.cells.size i.size,Nat.ble 1 i.size with
      |true,true=>match Nat.testBit once 40001 with
       |true=> .clone (Nat.testBit once 40002) e i.size i.bytes s x
       |false=> .app e i.size i.bytes s x
      |_,_=> .stop
     |none=> .stop
    |none=> .stop
   |_,_=> .stop
  |_,_=> .stop
 | .call { callee:= .builtin .min,args:=_,argTypes:=_ } | .call { callee:= .builtin .max,args:=_,argTypes:=_ } => .scal o
 | .binOp b t x y _=>match Jq P t with
  |false=>match b,P.underlying t with
   | .quo,some (.int _)=> .bin2 0 x y
   | .rem,some (.int _)=> .bin2 1 x y
   | .shl,some (.int _)=> .bin2 2 x y
   | .shr,some (.int _)=> .bin2 3 x y
   | .add,some .string=> .bin2 4 x y
   | .eql,some (.slice _)=> .bin2 6 x y
   | .neq,some (.slice _)=> .bin2 7 x y
   |_,_=> .scal o
  |true=>match b,Arl P t with
   | .eql,some ts=> .eqA false ts x y
   | .neq,some ts=> .eqA true ts x y
   |_,_=> .stop
 | .unOp .. | .convert .. => .scal o
 | .index t x i=>match P.underlying t with
  |some .string=> .bin2 5 x i
  |_=> .stop
 |_=> .stop
def Aw5(os:Array Oper):Option (Nat×Bool)→Option (Option (Nat×Bool))
 |none=>some none
 |some (j,w)=>match (os[j]?).bind (·.dst) with
  |some s=>some (some (s,w))
  |none=>none
def Bft(P:Program)(inl:Nat→Bool)(once:Nat)(os:Array Oper):List Oper→Option (List Kj)
 | []=>some []
 |o::r=>match Aw5 os o.guard,Bft P inl once os r with
  |some g,some l=>some (⟨o.dst,g,cOp P inl once o⟩::l)
  |_,_=>none
def K.heapy:K→Bool
 | .alloc _| .box _| .load .. | .loadT .. | .store .. | .storeT .. | .call .. | .icall .. | .callv .. | .mksl .. | .clone .. | .mkmap .. | .lookup .. | .mapup .. | .del .. =>true
 |_=>false
def K.isStore:K→Bool
 | .store .. | .storeT .. | .loadT .. | .icall .. | .callv .. | .mapup .. | .del .. =>true
 |_=>false
def K.wild:K→Bool
 | .icall .. | .callv .. =>true
 |_=>false
def K.makes:K→Bool
 | .alloc _| .box _| .mksl .. | .clone .. | .mkmap .. =>true
 |_=>false
def Ako:List Operand→List Nat
 | []=> []
 | .tmp t::r=>t::Ako r
 |_::r=>Ako r
def Bki:Option Operand→List Operand
 |some x=> [x]
 |none=> []
def K.opds:K→List Operand
 | .move x| .box x| .load _ _ x| .loadT x| .field _ x| .len x| .cap x| .extract x _| .nil x| .aidx _ _ _ x=> [x]
 | .take s=> [.tmp s]
 | .pick c a b=> [c,a,b]
 | .alloc _| .nilsl _| .mkmap .. | .stop=> []
 | .build _ ps=>ps.map fun p=>p.2.2
 | .bslice _ _ ps=>ps
 | .store _ a x| .index _ a x| .eqA _ _ a x| .bin2 _ a x| .del a x| .lookup _ _ _ _ _ a x=> [a,x]
 | .storeT a s=> [a,.tmp s]
 | .mapup _ _ m q v=> [m,q,v]
 | .scal o=>o.op.operands.toList
 | .app _ _ _ s x| .clone _ _ _ _ s x=> [.tmp s,x]
 | .call _ args| .icall _ args| .mkfn _ _ args=>args
 | .callv x args=>x::args
 | .mksl _ _ _ _ n| .mkcap _ _ _ n=> [n]
 | .slc _ x lo hi mx=>x::(Bki lo++Bki hi++Bki mx)
 | .sstr x lo hi=>x::(Bki lo++Bki hi)
def Kj.reads(o:Kj):List Nat:=Ako o.k.opds++(match o.g with|some (s,_)=> [s]|none=> [])
def Kj.writes(o:Kj):List Nat:=(match o.dst with|some d=> [d]|none=> [])++(match o.k with| .take s=> [s]| .app _ _ _ s _=> [s]| .clone _ _ _ _ s _=> [s]| .storeT _ s=> [s]|_=> [])
def Aun(a b:List Nat):Bool:=a.any fun x=>b.any fun y=>Nat.beq x y
def K.addr:K→Option Nat
 | .load _ _ (.tmp a)=>some a
 | .loadT (.tmp a)=>some a
 | .store _ (.tmp a) _=>some a
 | .storeT (.tmp a) _=>some a
 |_=>none
def Anq(a b:Nat):List (Nat×Nat)→Bool
 | []=>false
 |(c,d)::r=>(Nat.beq a c && Nat.beq b d) || (Nat.beq a d && Nat.beq b c) || Anq a b r
def Adp(ap:List (Nat×Nat))(x y:Kj):Bool:=match x.k.addr,y.k.addr with
 |some a,some b=>Anq a b ap
 |_,_=>false
def K.isLoad:K→Bool
 | .load .. =>true
 | .call .. =>true
 |_=>false
def K.isTake:K→Bool
 | .loadT _=>true
 |_=>false
def A7a(fx:Bool)(x:K)(fy:Bool)(y:K):Bool:=((x.isTake || fx) && y.isLoad) || (x.isLoad && (y.isTake || fy))
def Acu(ap:List (Nat×Nat))(fx:Bool)(x:Kj)(fy:Bool)(y:Kj):Bool:=
 Aun x.writes y.reads || Aun x.writes y.writes || Aun x.reads y.writes || (((x.k.isStore && y.k.heapy) || (x.k.heapy && y.k.isStore)) && !Adp ap x y && !A7a fx x.k fy y.k)
def Xa(a:Nat):List Kj→Bool
 | []=>true
 |e::r=>match Bi a e.writes with
  |true=>Xa a r
  |false=>false
def Bc7:List Kj→List Nat
 | []=> []
 |e::r=>match e.k.addr with
  |some a=>a::Bc7 r
  |none=>Bc7 r
def A12(l:List Kj)(a:Nat):List Nat→List (Nat×Nat)
 | []=> []
 |b::r=>match Nat.beq a b,Xa b l with
  |false,true=>(a,b)::A12 l a r
  |_,_=>A12 l a r
def A2k(l:List Kj):List Kj→List (Nat×Nat)
 | []=> []
 |e::r=>match e.k.isStore,e.k.addr with
  |true,some a=>match Xa a l with
   |true=>A12 l a (Bc7 l)++A2k l r
   |false=>A2k l r
  |_,_=>A2k l r
def Ank(l:List Kj):List (Nat×Nat)→Bool
 | []=>true
 |(a,b)::r=>Xa a l && Xa b l && Ank l r
def Alb(o:Oper):List Nat:=(o.after.toList.filter fun e=>Region.binds .any e).map (·.on)
def A8f(acc:List Nat):List Nat→Nat
 | []=>0
 |e::r=>(1 <<< e) ||| (acc.getD e 0) ||| A8f acc r
def B02:List Oper→List Nat→List Nat
 | [],acc=>acc
 |o::r,acc=>B02 r (acc++ [A8f acc (Alb o)])
def below(n:Nat)(p:Nat→Bool):Bool:=match n with
 |0=>true
 |n+1=>match p n with
  |true=>below n p
  |false=>false
def Kj.mkAt(a:Nat)(e:Kj):Bool:=match e.k,e.g,e.dst with
 | .alloc _,none,some d=>Nat.beq d a
 | .box _,none,some d=>Nat.beq d a
 |_,_,_=>false
def Com(l:List Kj)(a k:Nat):Bool:=below l.length fun j=>Nat.beq j k || (match l[j]? with|some e=>Bi a e.writes|none=>true)
def Db(l:List Kj)(j:Nat):Bool:=match l[j]? with
 |some e=>e.k.isStore && !e.k.isTake && (match e.k.addr with
  |some a=> !(below j fun k=> !(match l[k]? with|some e'=>e'.mkAt a && Com l a k|none=>false))
  |none=>false)
 |none=>false
def Bx0(ap:List (Nat×Nat))(l:List Kj)(A:List Nat)(i j:Nat):Bool:=match l[i]?,l[j]? with
 |some x,some y=>match Acu ap (Db l i) x (Db l j) y with
  |true=>Nat.testBit (A.getD j 0) i
  |false=>true
 |_,_=>true
def Arj(j:Nat):List Nat→Bool
 | []=>true
 |e::r=>match Nat.blt e j with
  |true=>Arj j r
  |false=>false
def Aw8(ap:List (Nat×Nat))(os:List Oper)(l:List Kj):Bool:=
 Ank l ap && below os.length fun j=>below j (fun i=>Bx0 ap l (B02 os []) i j) && (match os[j]? with|some o=>Arj j (Alb o)|none=>true)
def Auc(nt:Nat):List Kj→Bool
 | []=>true
 |o::r=>match o.dst with
  |some d=>match Nat.blt d nt with
   |true=>Auc nt r
   |false=>false
  |none=>Auc nt r
def Cb3(d:Nat)(l:List Nat):List Nat:=match Bi d l with
 |true=>l++ [d]
 |false=>l
def Brq:List Oper→List Nat→List Nat
 | [],l=>l
 |o::r,l=>Brq r (match o.op,o.dst with
  | .assign _,some d=>Cb3 d l
  | .alloc _,some d=>Cb3 d l
  | .box _ _,some d=>Cb3 d l
  |_,_=>l)
def Am1:Code→List Nat→List Nat
 | .region _ os _,l=>Brq os.toList l
 | .seq a b,l=>Am1 b (Am1 a l)
 | .cond _ a b,l=>Am1 b (Am1 a l)
 | .block _ b,l=>Am1 b l
 | .loop b,l=>Am1 b l
 |_,l=>l
def A8h:List Oper→List Nat
 | []=> []
 |o::r=>match o.op,o.dst with
  | .move _,some d=>d::A8h r
  |_,_=>A8h r
def Agy:Code→List Nat
 | .region _ os _=>A8h os.toList
 | .seq a b=>Agy a++Agy b
 | .cond _ a b=>Agy a++Agy b
 | .block _ b=>Agy b
 | .loop b=>Agy b
 |_=> []
def Bju:List Nat→List Nat
 | []=> []
 |d::r=>match Bi d r with
  |true=>Bju r
  |false=>d::Bju r
def Akh:List Kj→List Nat
 | []=> []
 |o::r=>match o.k.makes,o.dst with
  |true,some d=>d::Akh r
  |_,_=>Akh r
def Bbz:List Nat→Nat
 | []=>0
 |s::r=>(1 <<< s) ||| Bbz r
def B77:List Oper→Nat
 | []=>0
 |o::r=>Bbz (Ako o.op.operands.toList) ||| (match o.dst with|some d=>1 <<< d|none=>0) ||| B77 r
def Zc:Code→Nat
 | .region _ os _=>B77 os.toList
 | .seq a b=>Zc a ||| Zc b
 | .cond c a b=>Bbz (Ako [c]) ||| Zc a ||| Zc b
 | .block _ b=>Zc b
 | .loop b=>Zc b
 |_=>0
def Bpq:List ResultVar→Nat
 | []=>0
 | .tmp t::r=>(1 <<< t) ||| Bpq r
 | .cell t _::r=>(1 <<< t) ||| Bpq r
def Bk9:List ResultVar→List Nat
 | []=> []
 | .tmp t::r=>t::Bk9 r
 | .cell t _::r=>t::Bk9 r
def Apn(nt:Nat)(V:List Nat)(out body:Nat):List Nat:=
 (List.range nt).filter fun s=>Nat.testBit out s && (Nat.testBit body s || !(Bi s V))
def Brm:Code→Bool
 | .exit _=>true
 | .ret=>true
 | .skip=>true
 |_=>false
def Cl7(nt m:Nat):List Nat:=(List.range nt).filter fun s=>Nat.testBit m s
def Bu9:List Kj→List Nat→List Nat
 | [],acc=>acc
 |o::r,acc=>Bu9 r (match o.k,o.dst with
  | .bslice _ _ ps,_=>Ako ps++acc
  | .call _ args,_=>Ako args++acc
  | .move (.tmp s),some d=>match Bi d acc with
   |true=>acc
   |false=>s::Ar5 d acc
  | .take s,some d=>match Bi d acc with
   |true=>acc
   |false=>s::Ar5 d acc
  |_,_=>acc)
def Aks(P:Program)(inl:Nat→Bool)(once nt:Nat)(V:List Nat)(out lt:Nat):Code→EC
 | .skip=> .skip
 | .region _ os d=>match Bft P inl once os os.toList with
  |some l=>match Auc nt l with
   |true=>match d with
    |true=>match Aw8 [] os.toList l with
     |true=> .region (Akh l) [] l
     |false=>match Aw8 (A2k l l) os.toList l with
      |true=> .region (Akh l) (A2k l l) l
      |false=> .stop
    |false=>match Nat.testBit once 40003 with
     |true=> .seq (.frz (Bu9 l.reverse [])) (.regS l)
     |false=> .regS l
   |false=> .stop
  |none=> .stop
 | .seq a b=> .seq (Aks P inl once nt V (out ||| Zc b) (lt ||| Zc b) a) (match Brm b with
  |true=>Aks P inl once nt V (out ||| Zc a) lt b
  |false=> .seq (.kp (Cl7 nt (lt ||| Zc b))) (Aks P inl once nt V (out ||| Zc a) lt b))
 | .cond c a b=> .cond c (Aks P inl once nt V (out ||| Zc b ||| Bbz (Ako [c])) lt a) (Aks P inl once nt V (out ||| Zc a ||| Bbz (Ako [c])) lt b)
 | .block id b=> .block id (Aks P inl once nt V out lt b)
 | .loop b=>match Nat.testBit once 40004 with
  |true=> .loopU (Apn nt V out (Zc b)) (Aks P inl once nt (V++Apn nt V out (Zc b)) out (lt ||| Zc b) b)
  |false=> .loop (Apn nt V out (Zc b)) (Aks P inl once nt (V++Apn nt V out (Zc b)) out (lt ||| Zc b) b)
 | .exit id=> .exit id
 | .ret=> .ret
 |_=> .stop
def Bge(inl:Nat→Bool)(fn:Func)(j b:Nat):Nat:=match inl (1099511627776+((match fn.params.toList with|t::_=>t| []=>0)*16777216+fn.endLine*4096+fn.ntmps)*8+j) with
 |true=>1 <<< b
 |false=>0
def cFn(P:Program)(inl:Nat→Bool)(fn:Func):Option EC:=match fn.body with
 |some c=>some (Aks P inl (B8b c fn.ntmps ||| Bge inl fn 0 40001 ||| Bge inl fn 1 40003 ||| Bge inl fn 2 40002 ||| Bge inl fn 3 40004 ||| Bge inl fn 4 40005) fn.ntmps (Am1 c (List.range fn.params.size++Bk9 fn.results.toList++Bju (Agy c))) (Bbz (List.range fn.params.size) ||| Bpq fn.results.toList) (Bpq fn.results.toList) c)
 |none=>none
def A2b(sz:Nat):Nat→List PV→List (List PV)
 |0,_=> []
 |n+1,l=>l.take sz::A2b sz n (l.drop sz)
def PV.finN(O:Nat→List PV):Nat→PV→PV
 |0,p=>p.pure0
 |m+1,p=>match p with
 | .vw c d e sz n=>match c,O d with
  |false,[.arrO x]=>match Nat.beq sz x.sz with
   |true=> .lst false x
   |false=> .any
  |true,cs=>match LX.lit e (A2b sz n (cs.map (PV.finN O m))),Af0 cs (n*sz) && Rt cs with
   |some x,true=>match Nat.beq sz x.sz with
    |true=> .lst false x
    |false=> .any
   |_,_=> .any
  |_,_=> .any
 |p=>p.pure0
def PV.fin1(O:Nat→List PV)(p:PV):PV:=PV.finN O 3 p
def PV.fin(O:Nat→List PV):PV→PV
 | .agg l=> .agg (l.map (PV.fin1 O))
 | .tup l=> .tup (l.map (PV.fin1 O))
 | .sl _ e sz es=> .sl false e sz (es.map fun r=>r.map PV.pure0)
 |p=>p.fin1 O
def Aaq(P:Program)(st:St):List ResultVar→(List PV→Prop)→Prop
 | [],k=>k []
 | .tmp t::r,k=>Aaq P st r fun l=>k (st.get t::l)
 | .cell a t::r,k=>match st.get a,szT P t,P.underlying t with
  | .loc b off,some sz,some _=>match Jq P t,Nat.beq sz 1,Aar ((st.obj b).drop off) sz && Rt (((st.obj b).drop off).take sz) with
   |true,_,true=>Aaq P st r fun l=>k (.agg (((st.obj b).drop off).take sz)::l)
   |false,true,true=>Aaq P st r fun l=>k (mkP false (((st.obj b).drop off).take sz)::l)
   |_,_,_=>False
  |_,_,_=>False
def Aoj(i:Nat):List PV→List (Nat×PV)
 | []=> []
 |p::r=>(i,p.view)::Aoj (i+1) r
def Aue(O:Nat→List PV)(k:PV→Prop):List PV→Prop
 | [r]=>k (r.fin O)
 |l=>k (.tup (l.map (PV.fin O)))
def Cp(P:Program)(rs:List ResultVar)(k:PV→Prop):Ex→St→Prop:=fun e st=>match e with
 | .exit _=>False
 | .normal=>Aaq P st rs (Aue st.obj k)
 | .ret=>Aaq P st rs (Aue st.obj k)
def Bdn(ob:List (Nat×List PV))(k:PV→List (Nat×List PV)→Prop):List PV→Prop
 | [r]=>k r ob
 |l=>k (.tup (l.map PV.view)) ob
def Eb(P:Program)(rs:List ResultVar)(k:PV→List (Nat×List PV)→Prop):Ex→St→Prop:=fun e st=>match e with
 | .exit _=>False
 | .normal=>Aaq P st rs (Bdn (Asq st.ob) k)
 | .ret=>Aaq P st rs (Bdn (Asq st.ob) k)
def Aru:List (Nat×List PV)→Nat
 | []=>0
 |(d,_)::r=>match Nat.ble (Aru r) d with
  |true=>d+1
  |false=>Aru r
def B7m(e b:Nat)(args:List PV)(k:PV→List (Nat×List PV)→Prop):Prop:=match args,LX.nil e with
 | [.val (.slice none 0 0),.val (.int .i64 m)],some x=>gd (0≤m) (gd (m*(b:Int)≤140737488355328) (gd (m≤(4611686018427387904:Int)) (k (.lst true x) [])))
 |_,_=>False
def evJ(P:Program)(inl:Nat→Bool)(C:Bd)(L:Nat)(X:Inl):Inl:=fun f args ob k=>match inl f with
  |true=>match P.funcs[f]? with
   |some fn=>match cFn P inl fn,Nat.ble args.length fn.ntmps,Su P f with
    |some ec,true,true=>evC P C X L ec { fr:=Aoj 0 args,ob:=ob,base:=Aru ob } (Eb P fn.results.toList k)
    |_,_,_=>False
   |none=>False
  |false=>match Su P f with
   |true=>C f (args.map (A9j (Ij [] ob))) fun r=>k r.view []
   |false=>False
def Buw(e:Nat)(args:List PV)(k:PV→List (Nat×List PV)→Prop)(E:Prop):Prop:=match args,LX.nil e with
 | [.lst _ z],some n=>br (Nat.beq z.len 0) (k (.lst true n) []) E
 |_,_=>E
def evB(P:Program)(inl:Nat→Bool)(G:Nat→Option (Nat×Nat))(C:Bd)(L:Nat)(X:Inl):Inl:=fun f args ob k=>match G f with
  |some (e,b)=>match Nat.beq b 0 with
   |true=>Buw e args k (evJ P inl C L X f args ob k)
   |false=>B7m e b args k
  |none=>evJ P inl C L X f args ob k
def Bf7(P:Program)(inl:Nat→Bool)(G:Nat→Option (Nat×Nat))(C:Bd)(L:Nat):Nat→Inl
 |0,_,_,_,_=>False
 |n+1,f,args,ob,k=>evB P inl G C L (Bf7 P inl G C L n) f args ob k
noncomputable def YoS(P:Program)(inl:Nat→Bool)(G:Nat→Option (Nat×Nat))(C:Bd)(L:Nat): { Y:Nat→Inl // Y=Bf7 P inl G C L } :=Classical.choice ⟨⟨Bf7 P inl G C L,rfl⟩⟩
noncomputable def Yo(P:Program)(inl:Nat→Bool)(G:Nat→Option (Nat×Nat))(C:Bd)(L:Nat):Nat→Inl:=(YoS P inl G C L).1
noncomputable def evI(P:Program)(inl:Nat→Bool)(G:Nat→Option (Nat×Nat))(J:Nat→Bool)(C:Bd)(L:Nat):Nat→Inl
 |0,_,_,_,_=>False
 |n+1,f,args,ob,k=>match J f with
  |true=>Yo P inl G C L (n+1) f args ob k
  |false=>evB P inl G C L (evI P inl G J C L n) f args ob k
theorem B7g(P:Program)(inl:Nat→Bool)(G:Nat→Option (Nat×Nat))(C:Bd)(L:Nat):Yo P inl G C L=Bf7 P inl G C L:=(YoS P inl G C L).2
theorem Bjy(P:Program)(inl:Nat→Bool)(G:Nat→Option (Nat×Nat))(J:Nat→Bool)(C:Bd)(L:Nat):∀n,evI P inl G J C L n=Bf7 P inl G C L n
 |0=>rfl
 |n+1=>by
  funext f args ob k
  simp only [evI,Bf7,B7g,Bjy P inl G J C L n]
  cases J f<;>rfl
theorem C3(P:Program)(inl:Nat→Bool)(G:Nat→Option (Nat×Nat))(J:Nat→Bool)(C:Bd)(L n f:Nat)(args:List PV)(ob:List (Nat×List PV))(k:PV→List (Nat×List PV)→Prop):
  Yo P inl G C L (n+1) f args ob k=evB P inl G C L (evI P inl G J C L n) f args ob k:=by
 rw [B7g,Bjy];rfl
def B2v(P:Program)(C:Bd)(X:Inl)(L:Nat)(rs:List ResultVar)(ec:EC)(args:List PV)(k:PV→Prop):Prop:=
 evC P C X L ec { fr:=Aoj 0 args,ob:= [],base:=0 } (Cp P rs k)
end Go.Proofs.YtofcpkmnhmnfcaaGreatR.Ev
namespace Go.Proofs.YtofcpkmnhmnfcaaGreatR.Ev
open Go Go.RowKit
set_option linter.unusedVariables false
set_option linter.unusedSimpArgs false
set_option linter.unnecessarySimpa false
abbrev Mut:=Nat→Option Nat
abbrev Loc:=Nat→Option (Nat×Nat)
def imm(M:Mut)(a:Addr):Prop:=∀n,M a.block=some n→a.off < n
inductive Ct (w:World) (M:Mut) (β :Loc) (B:Nat):PV→Value→Prop
 |any (v:Value):Ct w M β B .any v
 |val (v:Value) (h:v.oneCell'=true):Ct w M β B (.val v) v
 |agg (l:List PV) (cs:List Value) (hl:l.length=cs.length) (h1:∀v∈cs,v.oneCell'=true)
   (hr:∀(i:Nat) (p:PV) (v:Value),l[i]? =some p→cs[i]? =some v→Ct w M β B p v):Ct w M β B (.agg l) (.agg cs.toArray)
 |tup (l:List PV) (cs:List Value) (hl:l.length=cs.length)
   (hr:∀(i:Nat) (p:PV) (v:Value),l[i]? =some p→cs[i]? =some v→Ct w M β B p v):Ct w M β B (.tup l) (.tuple cs.toArray)
 |row (p:PV) (s:SV) (hs:p.sv=some s) (a:Option Addr) (c:Nat) (vs:Nat→Nat→Value)
   (hc:s.n≤c) (hsz:∀(i:Nat),i < s.n→(s.f i).length=s.sz) (ha:∀(i:Nat),i < s.n→∃ad,a=some ad)
   (hm:∀(ad:Addr) (i:Nat) (j:Nat) (p:PV),a=some ad→i < s.n→(s.f i)[j]? =some p→imm M (ad.add (i*s.sz+j))∧w.cell? (ad.add (i*s.sz+j))=some (vs i j)∧(vs i j).oneCell'=true)
   (hr:∀(i:Nat) (j:Nat) (p:PV),i < s.n→(s.f i)[j]? =some p→Ct w M β B p (vs i j)):Ct w M β B p (.slice a s.n c)
 |loc (d off b n:Nat) (h: β d=some (b,n)):Ct w M β B (.loc d off) (.pointer (some ⟨b,off,none⟩))
 |el (d sz i off b n:Nat) (h: β d=some (b,n)) (hi:i < n):Ct w M β B (.el d sz i off) (.pointer (some ⟨b,i*sz+off,none⟩))
 |vw (cf:Bool) (d e sz n b c:Nat) (h: β d=some (b,n)) (hc:n≤c):Ct w M β B (.vw cf d e sz n) (.slice (some ⟨b,0,none⟩) n c)
 |mp (d b n:Nat) (h: β d=some (b,n)):Ct w M β B (.mp d) (.map (some b))
 |clo (f n:Nat) (l:List PV) (cs:List Value) (hl:l.length=cs.length)
   (hr:∀(i:Nat) (p:PV) (v:Value),l[i]? =some p→cs[i]? =some v→Ct w M β B p v):Ct w M β B (.clo f n l) (.func (.func f) (cs.take n).toArray (cs.drop n).toArray)
 |ref (l:List PV) (ad:Addr) (vs:Nat→Value) (hm:∀(i:Nat) (p:PV),l[i]? =some p→(ad.block < B∨Ev.imm M (ad.add i))∧w.cell? (ad.add i)=some (vs i)∧(vs i).oneCell'=true)
   (hr:∀(i:Nat) (p:PV),l[i]? =some p→Ct w M β B p (vs i)):Ct w M β B (.ref l) (.pointer (some ad))
def Ext(w:World)(M:Mut)(w':World)(M':Mut):Prop:=∀a v,imm M a→w.cell? a=some v→imm M' a∧w'.cell? a=some v
theorem Ext.refl(w:World)(M:Mut):Ext w M w M:=fun _ _ h h'=>⟨h,h'⟩
theorem Ext.trans{w w' w'':World}{M M' M'':Mut}(h:Ext w M w' M')(h':Ext w' M' w'' M''):Ext w M w'' M'':=
 fun a v hi hc=>let ⟨h1,h2⟩:=h a v hi hc;h' a v h1 h2
theorem Bbe(a:Addr)(n:Nat):(a.add n).block=a.block:=by unfold Addr.add;split<;>rfl
theorem A5d(a:Addr)(i j:Nat):(a.add i).add j=a.add (i+j):=by
 unfold Addr.add
 by_cases hi:i=0<;>by_cases hj:j=0<;>simp [hi,hj,Nat.add_assoc]
theorem Ays(g k:Nat):(⟨g,0,none⟩:Addr).add k=⟨g,k,none⟩:=by unfold Addr.add;split<;>simp_all
theorem Ayt(g o k:Nat):(⟨g,o,none⟩:Addr).add k=⟨g,o+k,none⟩:=by unfold Addr.add;split<;>simp_all
section
variable {w w':World} {M M':Mut} {β β':Loc} {B:Nat}
theorem Ct.ext(h:Ext w M w' M')(hB:∀a,a.block < B→w'.cell? a=w.cell? a)(hβ :∀d x,β d=some x→β' d=some x){p:PV}{v:Value}(hr:Ct w M β B p v):Ct w' M' β' B p v:=by
 induction hr with
 |any v=>exact .any v
 |val v h=>exact .val v h
 |agg l cs hl h1 _ ih=>exact .agg l cs hl h1 ih
 |tup l cs hl _ ih=>exact .tup l cs hl ih
 |row p s hs a c vs hc hsz ha hm _ ih=>
  exact .row p s hs a c vs hc hsz ha (fun ad i j p h1 h2 h3=>let ⟨g1,g2,g3⟩:=hm ad i j p h1 h2 h3;let ⟨k1,k2⟩:=h _ _ g1 g2;⟨k1,k2,g3⟩) ih
 |loc d off b n h=>exact .loc d off b n (hβ _ _ h)
 |el d sz i off b n h hi=>exact .el d sz i off b n (hβ _ _ h) hi
 |vw cf d e sz n b c h hc=>exact .vw cf d e sz n b c (hβ _ _ h) hc
 |mp d b n h=>exact .mp d b n (hβ _ _ h)
 |clo f n l cs hl _ ih=>exact .clo f n l cs hl ih
 |ref l ad vs hm _ ih=>
  refine .ref l ad vs (fun i p hp=> ?_) ih
  obtain ⟨g1,g2,g3⟩:=hm i p hp
  rcases g1 with g1|g1
  ·exact ⟨.inl g1,by rw [hB _ (by rw [Bbe];exact g1)];exact g2,g3⟩
  ·obtain ⟨k1,k2⟩:=h _ _ g1 g2
   exact ⟨.inr k1,k2,g3⟩
theorem B69{p:PV}{s:SV}(h:p.sv=some s):p.view.sv=some { s with own:=false } :=by
 cases p<;>simp only [PV.sv] at h<;>first|(injection h with h;subst h;rfl)|cases h
theorem W5{p:PV}{s:SV}(h:p.view.sv=some s):s.own=false:=by
 cases p<;>simp only [PV.view,PV.sv] at h<;>first|(injection h with h;subst h;rfl)|cases h
theorem Bfg{p:PV}(h:p.sv=none):p.view=p:=by
 cases p<;>first|rfl|(simp only [PV.sv] at h;cases h)
theorem Ct.view{p:PV}{v:Value}(h:Ct w M β B p v):Ct w M β B p.view v:=by
 cases hq:p.sv with
 |none=>rw [Bfg hq];exact h
 |some s=>
  have key:∀(p q:PV) (s:SV),p.sv=some s→q.sv=some { s with own:=false } →Ct w M β B p v→Ct w M β B q v:=by
   intro p q s hp hq hr
   cases hr with
   |row p s' hs a c vs hc hsz ha hm hr=>
    rw [hp] at hs;injection hs with hs;subst hs
    exact .row q { s with own:=false } hq a c vs hc hsz ha hm hr
   |_=>simp only [PV.sv] at hp;cases hp
  exact key p p.view s hq (B69 hq) h
theorem Ben(v:Value):A10 v=v.oneCell':=by cases v<;>rfl
theorem Ct.one{p:PV}{v:Value}(h:Ct w M β B p v)(h1:p.one=true):v.oneCell'=true:=by
 cases h with
 |any=>simp [PV.one] at h1
 |val v h=>exact h
 |agg=>simp [PV.one] at h1
 |tup=>simp [PV.one] at h1
 |_=>rfl
theorem Bu8{p:PV}{s:SV}(hf:p.flat=true)(hs:p.sv=some s):∀(i j:Nat) (q:PV),(s.f i)[j]? =some q→q.flat=true:=by
 intro i j q hq
 cases p with
 |lst own x=>injection hs with hs;subst hs;exact LX.row_flat _ _ _ (List.mem_of_getElem? hq)
 |sl=>cases hf
 |_=>cases hs
theorem Ct.flat{B':Nat}{p:PV}{v:Value}(h:Ct w M β B p v)(hf:p.flat=true):Ct w M β' B' p v:=by
 induction h with
 |any v=>exact .any v
 |val v h=>exact .val v h
 |row p s hs a c vs hc hsz ha hm hr ih=>
  exact .row p s hs a c vs hc hsz ha hm (fun i j q hi hq=>ih i j q hi hq (Bu8 hf hs i j q hq))
 |_=>simp [PV.flat] at hf
theorem Ct.pure0{B':Nat}{p:PV}{v:Value}(h:Ct w M β B p v):Ct w M β' B' p.pure0 v:=by
 unfold PV.pure0
 cases hf:p.flat with
 |true=>exact (h.flat hf).view
 |false=>exact .any v
theorem Ct.val_eq{v u:Value}(h:Ct w M β B (.val v) u):u=v:=by
 cases h with
 |val v h=>rfl
 |row p s hs=>cases hs
theorem Ct.le{p q:PV}{v:Value}(hl:PV.Le p q)(h:Ct w M β B p v):Ct w M β B q v:=by
 cases hl with
 |view=>exact h.view
 |nil own y hy=>
  have:=h.val_eq
  subst this
  have:Ct w M β B (.lst own y) (.slice none (SV.mk own y.e y.sz y.len y.row).n 0):=
   .row _ ⟨own,y.e,y.sz,y.len,y.row⟩ rfl none 0 (fun _ _=>undef) (by simp [hy]) (fun i hi=>by simp [hy] at hi) (fun i hi=>by simp [hy] at hi) (fun ad i j p ha=>by cases ha) (fun i j p hi=>by simp [hy] at hi)
  simpa [hy] using this
theorem Alr{s:PV→Bool} :∀ {l:List PV},Awi s l=true→∀(i:Nat) (p:PV),l[i]? =some p→s p=true
 | [],_,i,p,h=>by simp at h
 |q::r,h,i,p,hp=>by
  simp only [Awi] at h
  cases hq:s q with
  |false=>rw [hq] at h;cases h
  |true=>
   rw [hq] at h
   cases i with
   |zero=>simp at hp;subst hp;exact hq
   |succ i=>exact Alr h i p (by simpa using hp)
theorem A9d{s:PV→Bool} :∀ {l:List (List PV)},Be4 s l=true→∀(i:Nat),Awi s (l.getD i [])=true
 | [],_,i=>rfl
 |q::r,h,i=>by
  simp only [Be4] at h
  cases hq:Awi s q with
  |false=>rw [hq] at h;cases h
  |true=>
   rw [hq] at h
   cases i with
   |zero=>exact hq
   |succ i=>exact A9d h i
def Loc.cut(β :Loc)(D:Nat→Bool):Loc:=fun d=>if D d then none else β d
theorem Loc.cut_some{β :Loc}{D:Nat→Bool}{d:Nat}{x:Nat×Nat}(h: β.cut D d=some x): β d=some x∧D d=false:=by
 unfold Loc.cut at h
 cases hd:D d with
 |true=>rw [hd] at h;simp at h
 |false=>rw [hd] at h;exact ⟨by simpa using h,rfl⟩
theorem Loc.cut_eq{β :Loc}{D:Nat→Bool}{d:Nat}(h:D d=false): β.cut D d= β d:=by unfold Loc.cut;rw [h];rfl
theorem Ct.safe0{D:Nat→Bool}{p:PV}{v:Value}(hs:p.safe0 D=true)(h:Ct w M β B p v):Ct w M (β.cut D) B p v:=by
 cases h with
 |any v=>exact .any v
 |val v h=>exact .val v h
 |row p s hsv a c vs hc hsz ha hm hr=>
  cases p with
  |sl=>simp [PV.safe0] at hs
  |lst own x=>exact (Ct.row (β := β) (B:=B) _ s hsv a c vs hc hsz ha hm hr).flat rfl
  |_=>cases hsv
 |loc d off b n h=>exact .loc d off b n (by rw [Loc.cut_eq (by simpa [PV.safe0] using hs)];exact h)
 |el d sz i off b n h hi=>exact .el d sz i off b n (by rw [Loc.cut_eq (by simpa [PV.safe0] using hs)];exact h) hi
 |vw cf d e sz n b c h hc=>exact .vw cf d e sz n b c (by rw [Loc.cut_eq (by simpa [PV.safe0] using hs)];exact h) hc
 |mp d b n h=>exact .mp d b n (by rw [Loc.cut_eq (by simpa [PV.safe0] using hs)];exact h)
 |_=>simp [PV.safe0] at hs
theorem Ct.safeUp{s:PV→Bool}(hs:∀p v,s p=true→Ct w M β B p v→Ct w M β' B p v){p:PV}{v:Value}(h1:p.safeUp s=true)(h:Ct w M β B p v):Ct w M β' B p v:=by
 cases h with
 |agg l cs hl h1' hr=>exact .agg l cs hl h1' (fun i p v hp hv=>hs _ _ (Alr h1 i p hp) (hr i p v hp hv))
 |tup l cs hl hr=>exact .tup l cs hl (fun i p v hp hv=>hs _ _ (Alr h1 i p hp) (hr i p v hp hv))
 |clo f n l cs hl hr=>exact .clo f n l cs hl (fun i p v hp hv=>hs _ _ (Alr h1 i p hp) (hr i p v hp hv))
 |ref l ad vs hm hr=>exact .ref l ad vs hm (fun i p hp=>hs _ _ (Alr h1 i p hp) (hr i p hp))
 |row p sv hsv a c vs hc hsz ha hm hr=>
  cases p with
  |sl own e sz es=>
   injection hsv with hsv;subst hsv
   exact .row _ _ rfl a c vs hc hsz ha hm (fun i j q hi hq=>hs _ _ (Alr (A9d h1 i) j q hq) (hr i j q hi hq))
  |lst own x=>exact (Ct.row (β := β) (B:=B) _ sv hsv a c vs hc hsz ha hm hr).flat rfl
  |_=>cases hsv
 |any v=>exact .any v
 |val v h=>exact .val v h
 |loc d off b n h=>exact hs _ _ h1 (.loc d off b n h)
 |el d sz i off b n h hi=>exact hs _ _ h1 (.el d sz i off b n h hi)
 |vw cf d e sz n b c h hc=>exact hs _ _ h1 (.vw cf d e sz n b c h hc)
 |mp d b n h=>exact hs _ _ h1 (.mp d b n h)
theorem Ct.clean{D:Nat→Bool}{p:PV}{v:Value}(h:Ct w M β B p v):Ct w M (β.cut D) B (p.clean D) v:=by
 unfold PV.clean
 cases hs:p.safe D with
 |false=>exact .any v
 |true=>
  refine Ct.safeUp (s:=PV.safeUp (PV.safeUp (PV.safe0 D))) (fun p v h1 h=> ?_) hs h
  refine Ct.safeUp (s:=PV.safeUp (PV.safe0 D)) (fun p v h1 h=> ?_) h1 h
  exact Ct.safeUp (s:=PV.safe0 D) (fun p v h1 h=>h.safe0 h1) h1 h
theorem Bfx{D:Nat→Bool}{p:PV}{s:SV}(h:(p.clean D).sv=some s):p.sv=some s:=by
 unfold PV.clean at h
 split at h
 ·exact h
 ·cases h
end
def tb:Value→Option Nat
 | .slice (some a) _ c=>match c with
  |0=>none
  |_+1=>some a.block
 |_=>none
def Av6(w:World)(M:Mut)(B:Nat)(s:SV)(v:Value):Prop:=
 (∃a,v= .slice a 0 0∧s.n=0)∨
 ∃g c cur,v= .slice (some ⟨g,0,none⟩) s.n (c+1)∧B≤g∧M g=some (s.n*s.sz)∧w.heap[g]? =some (.cells cur s.e (0,0))∧s.n≤c+1∧c+1≤maxLen∧cur.size=(c+1)*s.sz
inductive Aap (w:World) (M:Mut) (β :Loc) (B b n:Nat):List PV→Prop
 |cells (l:List PV) (cs:Array Value) (t:Nat) (hh:w.heap[b]? =some (.cells cs t (0,0))) (hs:l.length≤cs.size)
   (hr:∀(i:Nat) (p:PV) (v:Value),l[i]? =some p→cs[i]? =some v→Ct w M β B p v∧v.oneCell'=true):Aap w M β B b n l
 |arr (x:LX) (cs:Array Value) (t:Nat) (hh:w.heap[b]? =some (.cells cs t (0,0))) (hn:x.len=n) (hs:n*x.sz≤cs.size)
   (hr:∀(i j:Nat) (p:PV) (v:Value),i < n→(x.row i)[j]? =some p→cs[i*x.sz+j]? =some v→Ct w M β B p v∧v.oneCell'=true):Aap w M β B b n [.arrO x]
 |map (gk gv:Bool) (ks vs:LX) (es:Array MapEntry) (clock:Nat) (hh:w.heap[b]? =some (.map es clock)) (hk:es.size=ks.len) (hv:vs.len=ks.len)
   (hr:∀(i:Nat) (e:MapEntry),es[i]? =some e→Ct w M β B (mkP gk (ks.row i)) e.key∧Ct w M β B (mkP gv (vs.row i)) e.val):Aap w M β B b n [.mapO gk gv ks vs]
inductive Acy (κ :Type) where
 |slot (k: κ)
 |cell (d i:Nat)
def Own{κ :Type}(H: κ→PV×Value)(O:Nat→List PV)(w:World)(β :Loc):Acy κ→SV→Value→Prop
 | .slot k,s,v=>(H k).1.sv=some s∧s.own=true∧(H k).2=v
 | .cell d i,s,v=>∃b n p,β d=some (b,n)∧(O d)[i]? =some p∧p.sv=some s∧s.own=true∧w.cell? ⟨b,i,none⟩=some v
structure SH {κ :Type} (H: κ→PV×Value) (w0:World) (N:Mut) (O:Nat→List PV) (D:Nat→Bool) (w:World) (M:Mut) (β :Loc):Prop where
 bel:Below w0.heap.size w0 w
 mN:∀b,b < w0.heap.size→M b=N b
 mlt:∀b n,M b=some n→b < w.heap.size
 box:∀d b n,β d=some (b,n)→w0.heap.size≤b∧M b=some 0∧Aap w M β w0.heap.size b n (O d)
 inj:∀d d' b n n',β d=some (b,n)→β d'=some (b,n')→d=d'
 dom:∀d,D d=true→β d=none
 reg:∀k,Ct w M β w0.heap.size (H k).1 (H k).2
 tok:∀key s v,Own H O w β key s v→Av6 w M w0.heap.size s v
 tokne:∀key key' s s' v v' g,Own H O w β key s v→Own H O w β key' s' v'→key≠key'→tb v=some g→tb v'≠some g
 tokbox:∀key s v g d n,Own H O w β key s v→tb v=some g→β d≠some (g,n)
section
variable {κ κ':Type} {H: κ→PV×Value} {H': κ'→PV×Value} {w0 w w':World} {N M M':Mut} {O O':Nat→List PV} {D D':Nat→Bool} {β β':Loc}
theorem SH.perm(h:SH H w0 N O D w M β)(hr:∀k,Ct w M β w0.heap.size (H' k).1 (H' k).2)(hbox:∀d b n,β d=some (b,n)→Aap w M β w0.heap.size b n (O' d))(hD:∀d,D' d=true→β d=none)
  (φ :Acy κ'→Option (Acy κ)) (hφ :∀key s v,Own H' O' w β key s v→∃key',φ key=some key'∧Own H O w β key' s v)
  (hinj:∀k k' j,φ k=some j→φ k'=some j→k=k'):SH H' w0 N O' D' w M β :=by
 refine ⟨h.bel,h.mN,h.mlt,fun d b n hd=>⟨(h.box d b n hd).1,(h.box d b n hd).2.1,hbox d b n hd⟩,h.inj,hD,hr,?_,?_,?_⟩
 ·intro key s v ho
  obtain ⟨k',_,h2⟩:=hφ key s v ho
  exact h.tok k' s v h2
 ·intro key key' s s' v v' g ho ho' hne hg
  obtain ⟨j,h1,h2⟩:=hφ key s v ho
  obtain ⟨j',h1',h2'⟩:=hφ key' s' v' ho'
  refine h.tokne j j' s s' v v' g h2 h2' (fun e=>hne (hinj _ _ j h1 (by rw [e];exact h1'))) hg
 ·intro key s v g d n ho hg
  obtain ⟨j,h1,h2⟩:=hφ key s v ho
  exact h.tokbox j s v g d n h2 hg
theorem SH.hold(h:SH H w0 N O D w M β)(hr:∀k,Ct w M β w0.heap.size (H' k).1 (H' k).2)(g: κ'→Option κ)
  (hg:∀k s,(H' k).1.sv=some s→s.own=true→∃j,g k=some j∧(H j).1.sv=some s∧(H j).2=(H' k).2) (hinj:∀k k' j,g k=some j→g k'=some j→k=k'):SH H' w0 N O D w M β :=by
 refine h.perm hr (fun d b n hd=>(h.box d b n hd).2.2) h.dom (fun key=>match key with| .slot k=>(g k).map .slot| .cell d i=>some (.cell d i)) ?_ ?_
 ·intro key s v ho
  cases key with
  |slot k=>
   obtain ⟨h1,h2,h3⟩:=ho
   obtain ⟨j,q1,q2,q3⟩:=hg k s h1 h2
   exact ⟨.slot j,by simp [q1],q2,h2,by rw [q3];exact h3⟩
  |cell d i=>exact ⟨.cell d i,rfl,ho⟩
 ·intro k k' j hk hk'
  cases k with
  |slot k=>
   cases k' with
   |slot k'=>
    simp only [Option.map_eq_some_iff] at hk hk'
    obtain ⟨a,ha,rfl⟩:=hk
    obtain ⟨a',ha',e⟩:=hk'
    injection e with e;subst e
    rw [hinj k k' _ ha ha']
   |cell d i=>
    simp only [Option.map_eq_some_iff] at hk hk'
    obtain ⟨a,ha,rfl⟩:=hk
    cases hk'
  |cell d i=>
   cases k' with
   |slot k'=>
    simp only [Option.map_eq_some_iff] at hk hk'
    obtain ⟨a,ha,rfl⟩:=hk'
    cases hk
   |cell d' i'=>injection hk with hk;injection hk' with hk';have e:=hk.trans hk'.symm;injection e with e1 e2;rw [e1,e2]
def Ajh(x:PV×Value)(H: κ→PV×Value):Option κ→PV×Value
 |none=>x
 |some k=>H k
theorem SH.cons(h:SH H w0 N O D w M β)(p:PV)(v:Value)(hr:Ct w M β w0.heap.size p v)
  (ht:∀s,p.sv=some s→s.own=true→Av6 w M w0.heap.size s v∧(∀key s' v' g,Own H O w β key s' v'→tb v=some g→tb v'≠some g)∧(∀g d n,tb v=some g→β d≠some (g,n))):
  SH (Ajh (p,v) H) w0 N O D w M β :=by
 have old:∀(key:Acy (Option κ)) s u,Own (Ajh (p,v) H) O w β key s u→(key= .slot none∧p.sv=some s∧s.own=true∧v=u)∨∃key':Acy κ,Own H O w β key' s u∧(∀key2:Acy (Option κ),Own (Ajh (p,v) H) O w β key2 s u→True)∧
   (match key' with| .slot k=>key= .slot (some k)| .cell d i=>key= .cell d i):=by
  intro key s u ho
  cases key with
  |slot k=>
   cases k with
   |none=>exact .inl ⟨rfl,ho.1,ho.2.1,ho.2.2⟩
   |some k=>exact .inr ⟨.slot k,ho,fun _ _=>trivial,rfl⟩
  |cell d i=>exact .inr ⟨.cell d i,ho,fun _ _=>trivial,rfl⟩
 refine ⟨h.bel,h.mN,h.mlt,h.box,h.inj,h.dom,?_,?_,?_,?_⟩
 ·intro k
  cases k with
  |none=>exact hr
  |some k=>exact h.reg k
 ·intro key s u ho
  rcases old key s u ho with ⟨_,h1,h2,rfl⟩|⟨k',h1,_⟩
  ·exact (ht s h1 h2).1
  ·exact h.tok k' s u h1
 ·intro key key' s s' u u' g ho ho' hne hg
  rcases old key s u ho with ⟨e1,h1,h2,rfl⟩|⟨k1,h1,_,e1⟩
  ·rcases old key' s' u' ho' with ⟨e2,_⟩|⟨k2,h2',_,e2⟩
   ·exact absurd (e1.trans e2.symm) hne
   ·exact (ht s h1 h2).2.1 k2 s' u' g h2' hg
  ·rcases old key' s' u' ho' with ⟨e2,h3,h4,rfl⟩|⟨k2,h2',_,e2⟩
   ·exact fun hv=>(ht s' h3 h4).2.1 k1 s u g h1 hv hg
   ·refine h.tokne k1 k2 s s' u u' g h1 h2' (fun e=>hne ?_) hg
    subst e
    cases k1<;>exact e1.trans e2.symm
 ·intro key s u g d n ho hg
  rcases old key s u ho with ⟨_,h1,h2,rfl⟩|⟨k',h1,_⟩
  ·exact (ht s h1 h2).2.2 g d n hg
  ·exact h.tokbox k' s u g d n h1 hg
theorem A5e{w:World}{x:Addr}{v:Value}(hx:w.cell? x=some v):x.block < w.heap.size:=by
 unfold World.cell? at hx
 rcases Nat.lt_or_ge x.block w.heap.size with h1|h1
 ·exact h1
 ·rw [Array.getElem?_eq_none h1] at hx;simp at hx
theorem Aap.ext{B b n:Nat}{l:List PV}(h:Aap w M β B b n l)(hh:w'.heap[b]? =w.heap[b]?)(hR:∀p v,Ct w M β B p v→Ct w' M' β' B p v):Aap w' M' β' B b n l:=by
 cases h with
 |cells l cs t q1 q2 q3=>exact .cells l cs t (by rw [hh];exact q1) q2 (fun i p v hp hv=>⟨hR _ _ (q3 i p v hp hv).1,(q3 i p v hp hv).2⟩)
 |arr x cs t q1 q2 q3 q4=>exact .arr x cs t (by rw [hh];exact q1) q2 q3 (fun i j p v hi hp hv=>⟨hR _ _ (q4 i j p v hi hp hv).1,(q4 i j p v hi hp hv).2⟩)
 |map gk gv ks vs es clock q1 q2 q3 q4=>exact .map gk gv ks vs es clock (by rw [hh];exact q1) q2 q3 (fun i e he=>⟨hR _ _ (q4 i e he).1,hR _ _ (q4 i e he).2⟩)
theorem Av6.ext{B:Nat}{s:SV}{v:Value}(h:Av6 w M B s v)(hh:∀g,tb v=some g→w'.heap[g]? =w.heap[g]? ∧M' g=M g):Av6 w' M' B s v:=by
 rcases h with h|⟨g,c,cur,h1,h2,h3,h4,h5⟩
 ·exact .inl h
 ·have:=hh g (by rw [h1];rfl)
  exact .inr ⟨g,c,cur,h1,h2,by rw [this.2];exact h3,by rw [this.1];exact h4,h5⟩
theorem Av6.lt{B:Nat}{s:SV}{v:Value}(h:Av6 w M B s v){g:Nat}(hg:tb v=some g):B≤g∧∃k,M g=some k:=by
 rcases h with ⟨a,h,_⟩|⟨g',c,cur,h1,h2,h3,_⟩
 ·rw [h] at hg
  cases a<;>cases hg
 ·rw [h1] at hg
  have:g'=g:=by simpa [tb] using hg
  subst this
  exact ⟨h2,_,h3⟩
theorem SH.world(h:SH H w0 N O D w M β)(hb:Below w.heap.size w w'):SH H w0 N O D w' M β :=by
 have hc:∀(x:Addr) v,w.cell? x=some v→w'.cell? x=some v:=fun x v hv=>by rw [hb.cell (A5e hv)];exact hv
 have hE:Ext w M w' M:=fun x v hi hv=>⟨hi,hc x v hv⟩
 have hle:w0.heap.size≤w.heap.size:=h.bel.size
 have hR:∀p v,Ct w M β w0.heap.size p v→Ct w' M β w0.heap.size p v:=fun p v hr=>hr.ext hE (fun x hx=>hb.cell (by omega)) (fun _ _ h=>h)
 have hO:∀key s v,Own H O w' β key s v→Own H O w β key s v:=by
  intro key s v ho
  cases key with
  |slot k=>exact ho
  |cell d i=>
   obtain ⟨b,n,p,h1,h2,h3,h4,h5⟩:=ho
   have hbl:=h.mlt b 0 (h.box d b n h1).2.1
   exact ⟨b,n,p,h1,h2,h3,h4,by rw [←hb.cell (p:=⟨b,i,none⟩) hbl];exact h5⟩
 refine ⟨h.bel.trans (hb.mono hle),h.mN,fun b n hn=>Nat.lt_of_lt_of_le (h.mlt b n hn) hb.size,?_,h.inj,h.dom,fun k=>hR _ _ (h.reg k),?_,?_,?_⟩
 ·intro d b n hd
  obtain ⟨h1,h2,h3⟩:=h.box d b n hd
  exact ⟨h1,h2,h3.ext (hb.block b (h.mlt b 0 h2)) hR⟩
 ·intro key s v ho
  have ht:=h.tok key s v (hO _ _ _ ho)
  exact ht.ext (fun g hg=>⟨hb.block g (let ⟨_,k,hk⟩:=ht.lt hg;h.mlt g k hk),rfl⟩)
 ·intro key key' s s' v v' g ho ho';exact h.tokne key key' s s' v v' g (hO _ _ _ ho) (hO _ _ _ ho')
 ·intro key s v g d n ho;exact h.tokbox key s v g d n (hO _ _ _ ho)
theorem SH.drawn(h:SH H w0 N O D w M β):SH H w0 N O D { w with drawn:=w.drawn+1 } M β :=
 h.world ⟨rfl,rfl,rfl,Nat.le_refl _,fun _ _=>rfl⟩
end
end Go.Proofs.YtofcpkmnhmnfcaaGreatR.Ev
namespace Go.Proofs.YtofcpkmnhmnfcaaGreatR.Ev
open Go Go.RowKit
set_option linter.unusedVariables false
set_option linter.unusedSimpArgs false
set_option linter.unnecessarySimpa false
section
variable {κ κ':Type} {H: κ→PV×Value} {H': κ'→PV×Value} {w0 w w':World} {N M M':Mut} {O O':Nat→List PV} {D D':Nat→Bool} {β β':Loc}
theorem At9(w:World)(o:Obj){x:Addr}{v:Value}(h:w.cell? x=some v):(w.alloc o).cell? x=some v:=by
 rw [World.cell?_of_block (w:=w) (Below.heap_alloc w o x.block (A5e h))];exact h
theorem SH.alloc(h:SH H w0 N O D w M β)(d n:Nat)(l:List PV)(o:Obj)(hnew:D d=true)
  (hO1:O' d=l) (hO2:∀x,x≠d→O' x=O x) (hD:∀x,D' x=true→D x=true∧x≠d)
  (hown:∀(i:Nat) (p:PV) (s:SV),l[i]? =some p→p.sv=some s→s.own=true→∀v,(w.alloc o).cell? ⟨w.heap.size,i,none⟩=some v→s.n=0∧∃a,v= .slice a 0 0)
  (hobj:∀(M':Mut) (β':Loc),(∀p v,Ct w M β w0.heap.size p v→Ct (w.alloc o) M' β' w0.heap.size p v)→β' d=some (w.heap.size,n)→Aap (w.alloc o) M' β' w0.heap.size w.heap.size n l):
  ∃M' β',SH H w0 N O' D' (w.alloc o) M' β'∧β' d=some (w.heap.size,n)∧(∀p v,Ct w M β w0.heap.size p v→Ct (w.alloc o) M' β' w0.heap.size p v):=by
 have hβ : β d=none:=h.dom d hnew
 let M':Mut:=fun b=>if b=w.heap.size then some 0 else M b
 let β':Loc:=fun x=>if x=d then some (w.heap.size,n) else β x
 have hMw:M w.heap.size=none:=by
  cases hm:M w.heap.size with
  |none=>rfl
  |some n=>exact absurd (h.mlt _ _ hm) (by omega)
 have hE:Ext w M (w.alloc o) M':=fun x v hi hc=>by
  have hx:=A5e hc
  refine ⟨fun n hn=>hi n ?_,At9 w _ hc⟩
  simp only [M'] at hn
  rw [if_neg (by omega)] at hn
  exact hn
 have hle:w0.heap.size≤w.heap.size:=h.bel.size
 have hβb:∀x b n,β x=some (b,n)→b < w.heap.size:=fun x b n hb=>h.mlt b 0 (h.box x b n hb).2.1
 have hmono:∀x y,β x=some y→β' x=some y:=fun x y hb=>by
  simp only [β']
  by_cases e:x=d
  ·subst e;rw [hβ] at hb;cases hb
  ·rw [if_neg e];exact hb
 have hB:∀x:Addr,x.block < w0.heap.size→(w.alloc o).cell? x=w.cell? x:=fun x hx=>
  World.cell?_of_block (w:=w) (Below.heap_alloc w _ x.block (by omega))
 have hR:∀p v,Ct w M β w0.heap.size p v→Ct (w.alloc o) M' β' w0.heap.size p v:=fun p v hr=>hr.ext hE hB hmono
 have hd: β' d=some (w.heap.size,n):=by simp [β']
 have hOwn:∀key s v,Own H O' (w.alloc o) β' key s v→Own H O w β key s v∨((∃a,v= .slice a 0 0)∧s.n=0):=by
  intro key s v ho
  cases key with
  |slot k=>exact .inl ho
  |cell x i=>
   obtain ⟨b,m,p,h1,h2,h3,h4,h5⟩:=ho
   simp only [β'] at h1
   by_cases e:x=d
   ·subst e
    rw [if_pos rfl] at h1
    injection h1 with h1
    injection h1 with h1 _
    subst h1
    rw [hO1] at h2
    have:=hown i p s h2 h3 h4 v h5
    exact .inr ⟨this.2,this.1⟩
   ·rw [if_neg e] at h1
    have hbl:=hβb x b m h1
    refine .inl ⟨b,m,p,h1,by rw [←hO2 x e];exact h2,h3,h4,?_⟩
    rw [←World.cell?_of_block (w:=w) (a:=⟨b,i,none⟩) (Below.heap_alloc w o b hbl)];exact h5
 have tb0:∀v g,(∃a,v= .slice a 0 0)→tb v=some g→False:=by
  rintro v g ⟨a,rfl⟩ hg
  cases a<;>cases hg
 refine ⟨M',β',⟨h.bel.alloc hle _,?_,?_,?_,?_,?_,fun k=>hR _ _ (h.reg k),?_,?_,?_⟩,hd,hR⟩
 ·intro b hb
  simp only [M']
  rw [if_neg (by omega)]
  exact h.mN b hb
 ·intro b n hn
  simp only [M'] at hn
  by_cases e:b=w.heap.size
  ·subst e;simp
  ·rw [if_neg e] at hn;have:=h.mlt b n hn;simp;omega
 ·intro x b m hb
  by_cases e:x=d
  ·subst e
   rw [hd] at hb
   injection hb with hb
   injection hb with hb hb2
   subst hb;subst hb2
   exact ⟨hle,by simp [M'],by rw [hO1];exact hobj M' β' hR hd⟩
  ·simp only [β'] at hb
   rw [if_neg e] at hb
   obtain ⟨h1,h2,h3⟩:=h.box x b m hb
   have hbl:=h.mlt b 0 h2
   exact ⟨h1,by simp only [M'];rw [if_neg (by omega)];exact h2,by rw [hO2 x e];exact h3.ext (Below.heap_alloc w _ b hbl) hR⟩
 ·intro x y b m m' hx hy
  simp only [β'] at hx hy
  by_cases e1:x=d<;>by_cases e2:y=d
  ·rw [e1,e2]
  ·rw [if_pos e1] at hx;rw [if_neg e2] at hy
   injection hx with hx;injection hx with hx _
   have:=hβb y b m' hy
   omega
  ·rw [if_neg e1] at hx;rw [if_pos e2] at hy
   injection hy with hy;injection hy with hy _
   have:=hβb x b m hx
   omega
  ·rw [if_neg e1] at hx;rw [if_neg e2] at hy
   exact h.inj x y b m m' hx hy
 ·intro x hx
  obtain ⟨h1,h2⟩:=hD x hx
  simp only [β']
  rw [if_neg h2]
  exact h.dom x h1
 ·intro key s v ho
  rcases hOwn key s v ho with ho|⟨⟨a,ha⟩,hn⟩
  ·have ht:=h.tok key s v ho
   refine ht.ext (fun g hg=> ?_)
   obtain ⟨_,k,hk⟩:=ht.lt hg
   have hgl:=h.mlt g k hk
   exact ⟨Below.heap_alloc w _ g hgl,by simp only [M'];rw [if_neg (by omega)]⟩
  ·exact .inl ⟨a,ha,hn⟩
 ·intro key key' s s' v v' g ho ho' hne hg
  rcases hOwn key s v ho with ho|⟨ha,_⟩
  ·rcases hOwn key' s' v' ho' with ho'|⟨ha,_⟩
   ·exact h.tokne key key' s s' v v' g ho ho' hne hg
   ·exact fun hg'=>tb0 _ _ ha hg'
  ·exact (tb0 _ _ ha hg).elim
 ·intro key s v g x m ho hg
  rcases hOwn key s v ho with ho|⟨ha,_⟩
  ·simp only [β']
   by_cases e:x=d
   ·rw [if_pos e]
    intro e3
    injection e3 with e3
    injection e3 with e3 _
    obtain ⟨_,k,hk⟩:=(h.tok key s v ho).lt hg
    have:=h.mlt g k hk
    omega
   ·rw [if_neg e]
    exact h.tokbox key s v g x m ho hg
  ·exact (tb0 _ _ ha hg).elim
theorem SH.adopt(h:SH H w0 N O D w M β)(d g n:Nat)(l:List PV)(hnew:D d=true)(hgB:w0.heap.size≤g)(hM:M g=some 0)(hbx:∀x n,β x≠some (g,n))
  (hno:∀key s v,Own H O w β key s v→tb v≠some g) (hO1:O' d=l) (hO2:∀x,x≠d→O' x=O x) (hD:∀x,D' x=true→D x=true∧x≠d)
  (hown:∀(i:Nat) (p:PV) (s:SV),l[i]? =some p→p.sv=some s→s.own=true→False)
  (hobj:∀(β':Loc),(∀p v,Ct w M β w0.heap.size p v→Ct w M β' w0.heap.size p v)→β' d=some (g,n)→Aap w M β' w0.heap.size g n l):
  ∃β',SH H w0 N O' D' w M β'∧β' d=some (g,n):=by
 have hβ : β d=none:=h.dom d hnew
 let β':Loc:=fun x=>if x=d then some (g,n) else β x
 have hmono:∀x y,β x=some y→β' x=some y:=fun x y hb=>by
  simp only [β']
  by_cases e:x=d
  ·subst e;rw [hβ] at hb;cases hb
  ·rw [if_neg e];exact hb
 have hR:∀p v,Ct w M β w0.heap.size p v→Ct w M β' w0.heap.size p v:=fun p v hr=>hr.ext (Ext.refl w M) (fun _ _=>rfl) hmono
 have hd: β' d=some (g,n):=by simp [β']
 have hOwn:∀key s v,Own H O' w β' key s v→Own H O w β key s v:=by
  intro key s v ho
  cases key with
  |slot k=>exact ho
  |cell x i=>
   obtain ⟨b,m,p,h1,h2,h3,h4,h5⟩:=ho
   simp only [β'] at h1
   by_cases e:x=d
   ·subst e
    rw [hO1] at h2
    exact (hown i p s h2 h3 h4).elim
   ·rw [if_neg e] at h1
    exact ⟨b,m,p,h1,by rw [←hO2 x e];exact h2,h3,h4,h5⟩
 refine ⟨β',⟨h.bel,h.mN,h.mlt,?_,?_,?_,fun k=>hR _ _ (h.reg k),fun key s v ho=>h.tok key s v (hOwn _ _ _ ho),fun key key' s s' v v' g ho ho'=>h.tokne key key' s s' v v' g (hOwn _ _ _ ho) (hOwn _ _ _ ho'),?_⟩,hd⟩
 ·intro x b m hb
  by_cases e:x=d
  ·subst e
   rw [hd] at hb
   injection hb with hb
   injection hb with hb hb2
   subst hb;subst hb2
   exact ⟨hgB,hM,by rw [hO1];exact hobj β' hR hd⟩
  ·simp only [β'] at hb
   rw [if_neg e] at hb
   obtain ⟨h1,h2,h3⟩:=h.box x b m hb
   exact ⟨h1,h2,by rw [hO2 x e];exact h3.ext rfl hR⟩
 ·intro x y b m m' hx hy
  simp only [β'] at hx hy
  by_cases e1:x=d<;>by_cases e2:y=d
  ·rw [e1,e2]
  ·rw [if_pos e1] at hx;rw [if_neg e2] at hy
   injection hx with hx;injection hx with hx _
   subst hx
   exact absurd hy (hbx y m')
  ·rw [if_neg e1] at hx;rw [if_pos e2] at hy
   injection hy with hy;injection hy with hy _
   subst hy
   exact absurd hx (hbx x m)
  ·rw [if_neg e1] at hx;rw [if_neg e2] at hy
   exact h.inj x y b m m' hx hy
 ·intro x hx
  obtain ⟨h1,h2⟩:=hD x hx
  simp only [β']
  rw [if_neg h2]
  exact h.dom x h1
 ·intro key s v b x m ho hg
  have ho':=hOwn key s v ho
  simp only [β']
  by_cases e:x=d
  ·rw [if_pos e]
   intro e3
   injection e3 with e3
   injection e3 with e3 _
   subst e3
   exact hno key s v ho' hg
  ·rw [if_neg e]
   exact h.tokbox key s v b x m ho' hg
theorem SH.setObj(h:SH H w0 N O D w M β)(d b n:Nat)(hβ : β d=some (b,n))(l:List PV)(hO1:O' d=l)(hO2:∀x,x≠d→O' x=O x)
  (hoth:∀k,k≠b→w'.heap[k]? =w.heap[k]?) (hsz:w'.heap.size=w.heap.size) (hdl:Below w0.heap.size w w')
  (hobj:(∀p v,Ct w M β w0.heap.size p v→Ct w' M β w0.heap.size p v)→Aap w' M β w0.heap.size b n l)
  (hown:∀(i:Nat) (p:PV) (s:SV) (v:Value),l[i]? =some p→p.sv=some s→s.own=true→w'.cell? ⟨b,i,none⟩=some v→((∃q,(O d)[i]? =some q∧q.sv=some s)∧w.cell? ⟨b,i,none⟩=some v)∨(s.n=0∧∃a,v= .slice a 0 0)):
  SH H w0 N O' D w' M β∧(∀p v,Ct w M β w0.heap.size p v→Ct w' M β w0.heap.size p v):=by
 obtain ⟨hb1,hb2,hb3⟩:=h.box d b n hβ
 have hbw:b < w.heap.size:=h.mlt b 0 hb2
 have hE:Ext w M w' M:=fun x v hi hc=>by
  have hx:x.block≠b:=fun e=>by have:=hi 0 (by rw [e];exact hb2);omega
  exact ⟨hi,by rw [World.cell?_of_block (w:=w) (hoth _ hx)];exact hc⟩
 have hR:∀p v,Ct w M β w0.heap.size p v→Ct w' M β w0.heap.size p v:=fun p v hr=>hr.ext hE (fun x hx=>World.cell?_of_block (w:=w) (hoth _ (by omega))) (fun _ _ h=>h)
 have tb0:∀v g,(∃a,v= .slice a 0 0)→tb v=some g→False:=by
  rintro v g ⟨a,rfl⟩ hg
  cases a<;>cases hg
 have hOwn:∀key s v,Own H O' w' β key s v→Own H O w β key s v∨(s.n=0∧∃a,v= .slice a 0 0):=by
  intro key s v ho
  cases key with
  |slot k=>exact .inl ho
  |cell x i=>
   obtain ⟨b',m,p,h1,h2,h3,h4,h5⟩:=ho
   by_cases e:x=d
   ·subst e
    rw [hβ] at h1
    injection h1 with h1
    injection h1 with h1 h1'
    subst h1;subst h1'
    rw [hO1] at h2
    rcases hown i p s v h2 h3 h4 h5 with ⟨⟨q,q1,q2⟩,q3⟩|hz
    ·exact .inl ⟨b,n,q,hβ,q1,q2,h4,q3⟩
    ·exact .inr hz
   ·have hne:b'≠b:=fun e'=>e (h.inj x d b' m n h1 (by rw [e'];exact hβ))
    exact .inl ⟨b',m,p,h1,by rw [←hO2 x e];exact h2,h3,h4,by rw [←World.cell?_of_block (w:=w) (a:=⟨b',i,none⟩) (hoth b' hne)];exact h5⟩
 refine ⟨⟨h.bel.trans hdl,h.mN,fun x n hn=>by rw [hsz];exact h.mlt x n hn,?_,h.inj,h.dom,fun k=>hR _ _ (h.reg k),?_,?_,?_⟩,hR⟩
 ·intro x b' m hx
  by_cases e:x=d
  ·subst e
   rw [hβ] at hx
   injection hx with hx
   injection hx with hx hx'
   subst hx;subst hx'
   exact ⟨hb1,hb2,by rw [hO1];exact hobj hR⟩
  ·obtain ⟨h1,h2,h3⟩:=h.box x b' m hx
   have hne:b'≠b:=fun e'=>e (h.inj x d b' m n hx (by rw [e'];exact hβ))
   exact ⟨h1,h2,by rw [hO2 x e];exact h3.ext (hoth b' hne) hR⟩
 ·intro key s v ho
  rcases hOwn key s v ho with ho'|⟨hn,a,ha⟩
  ·refine (h.tok key s v ho').ext (fun g hg=>⟨hoth g (fun e=> ?_),rfl⟩)
   exact h.tokbox key s v g d n ho' hg (by rw [e];exact hβ)
  ·exact .inl ⟨a,ha,hn⟩
 ·intro key key' s s' v v' g ho ho' hne hg
  rcases hOwn _ _ _ ho with q|⟨_,q⟩
  ·rcases hOwn _ _ _ ho' with q'|⟨_,q'⟩
   ·exact h.tokne key key' s s' v v' g q q' hne hg
   ·exact fun hg'=>tb0 _ _ q' hg'
  ·exact (tb0 _ _ q hg).elim
 ·intro key s v g x m ho hg
  rcases hOwn _ _ _ ho with q|⟨_,q⟩
  ·exact h.tokbox key s v g x m q hg
  ·exact (tb0 _ _ q hg).elim
theorem SH.rowWrite(h:SH H w0 N O D w M β)(g k k':Nat)(cur cs:Array Value)(t:Nat)(hgB:w0.heap.size≤g)(hM:M g=some k)(hk:k≤k')
  (hh:w.heap[g]? =some (.cells cur t (0,0))) (hsame:∀i,i < k→cs[i]? =cur[i]?)
  (hbox:∀x n,β x≠some (g,n)) (hno:∀key s v,Own H O w β key s v→tb v≠some g):
  Ext w M (w.setRow g cs) (fun b=>if b=g then some k' else M b)∧SH H w0 N O D (w.setRow g cs) (fun b=>if b=g then some k' else M b) β∧
  (∀p v,Ct w M β w0.heap.size p v→Ct (w.setRow g cs) (fun b=>if b=g then some k' else M b) β w0.heap.size p v)∧
  (∀key s v,Own H O (w.setRow g cs) β key s v→Own H O w β key s v):=by
 have hw1:(w.setRow g cs).heap[g]? =some (.cells cs t (0,0)):=setRow_heap w g cur _ t (0,0) hh
 have hoth:∀x,x≠g→(w.setRow g cs).heap[x]? =w.heap[x]? :=fun x hx=>setRow_other w g x _ hx
 have hsz:(w.setRow g cs).heap.size=w.heap.size:=by simp [World.setRow]
 have hgw:g < w.heap.size:=h.mlt g k hM
 have hE:Ext w M (w.setRow g cs) (fun b=>if b=g then some k' else M b):=by
  intro x v hi hc
  by_cases e:x.block=g
  ·have hlt:=hi k (by rw [e];exact hM)
   refine ⟨fun n hn=> ?_,?_⟩
   ·rw [e] at hn;simp only [if_true] at hn;injection hn with hn;omega
   ·unfold World.cell? at hc ⊢
    rw [e,hh] at hc
    rw [e,hw1]
    simp only at hc ⊢
    rw [hsame _ hlt];exact hc
  ·refine ⟨fun n hn=> ?_,by rw [World.cell?_of_block (w:=w) (hoth _ e)];exact hc⟩
   simp only [e,if_false] at hn
   exact hi n hn
 have hR:∀p v,Ct w M β w0.heap.size p v→Ct (w.setRow g cs) (fun b=>if b=g then some k' else M b) β w0.heap.size p v:=fun p v hr=>hr.ext hE (fun x hx=>World.cell?_of_block (w:=w) (hoth _ (by omega))) (fun _ _ h=>h)
 have hOwn:∀key s v,Own H O (w.setRow g cs) β key s v→Own H O w β key s v:=by
  intro key s v ho
  cases key with
  |slot k=>exact ho
  |cell x i=>
   obtain ⟨b',m,p,h1,h2,h3,h4,h5⟩:=ho
   have hne:b'≠g:=fun e=>hbox x m (by rw [h1,e])
   exact ⟨b',m,p,h1,h2,h3,h4,by rw [←World.cell?_of_block (w:=w) (a:=⟨b',i,none⟩) (hoth b' hne)];exact h5⟩
 refine ⟨hE,⟨h.bel.trans ⟨rfl,rfl,rfl,by omega,fun x hx=>hoth x (by omega)⟩,?_,?_,?_,h.inj,h.dom,fun k=>hR _ _ (h.reg k),?_,?_,?_⟩,hR,hOwn⟩
 ·intro b hb;simp only [show b≠g by omega,if_false];exact h.mN b hb
 ·intro b n hn
  by_cases e:b=g
  ·rw [e,hsz];exact hgw
  ·simp only [e,if_false] at hn;rw [hsz];exact h.mlt b n hn
 ·intro d b m hd
  have hne:b≠g:=fun e=>hbox d m (by rw [hd,e])
  obtain ⟨h1,h2,h3⟩:=h.box d b m hd
  exact ⟨h1,by simp only [hne,if_false];exact h2,h3.ext (hoth b hne) hR⟩
 ·intro key s v ho
  have ho':=hOwn key s v ho
  refine (h.tok key s v ho').ext (fun g' hg=> ?_)
  have hne:g'≠g:=fun e=>hno key s v ho' (by rw [hg,e])
  exact ⟨hoth g' hne,by simp only [hne,if_false]⟩
 ·intro key key' s s' v v' g ho ho';exact h.tokne key key' s s' v v' g (hOwn _ _ _ ho) (hOwn _ _ _ ho')
 ·intro key s v g x m ho;exact h.tokbox key s v g x m (hOwn _ _ _ ho)
theorem SH.fixed(h:SH H w0 N O D w M β)(g k:Nat)(hM:M g=some 0)(hbox:∀x n,β x≠some (g,n))(hno:∀key s v,Own H O w β key s v→tb v≠some g)(hgB:w0.heap.size≤g):
  SH H w0 N O D w (fun b=>if b=g then some k else M b) β∧(∀p v,Ct w M β w0.heap.size p v→Ct w (fun b=>if b=g then some k else M b) β w0.heap.size p v):=by
 have hE:Ext w M w (fun b=>if b=g then some k else M b):=by
  intro x v hi hc
  refine ⟨fun n hn=> ?_,hc⟩
  by_cases e:x.block=g
  ·have:=hi 0 (by rw [e];exact hM);omega
  ·simp only [e,if_false] at hn
   exact hi n hn
 have hR:∀p v,Ct w M β w0.heap.size p v→Ct w (fun b=>if b=g then some k else M b) β w0.heap.size p v:=fun p v hr=>hr.ext hE (fun _ _=>rfl) (fun _ _ h=>h)
 refine ⟨⟨h.bel,?_,?_,?_,h.inj,h.dom,fun k=>hR _ _ (h.reg k),?_,h.tokne,h.tokbox⟩,hR⟩
 ·intro b hb;simp only [show b≠g by omega,if_false];exact h.mN b hb
 ·intro b n hn
  by_cases e:b=g
  ·rw [e];exact h.mlt g 0 hM
  ·simp only [e,if_false] at hn;exact h.mlt b n hn
 ·intro d b m hd
  have hne:b≠g:=fun e=>hbox d m (by rw [hd,e])
  obtain ⟨h1,h2,h3⟩:=h.box d b m hd
  exact ⟨h1,by simp only [hne,if_false];exact h2,h3.ext rfl hR⟩
 ·intro key s v ho
  refine (h.tok key s v ho).ext (fun g' hg=>⟨rfl,?_⟩)
  have hne:g'≠g:=fun e=>hno key s v ho (by rw [hg,e])
  simp only [hne,if_false]
theorem SH.rowNew(h:SH H w0 N O D w M β)(cs:Array Value)(t k:Nat):
  Ext w M (w.alloc (.cells cs t)) (fun b=>if b=w.heap.size then some k else M b)∧SH H w0 N O D (w.alloc (.cells cs t)) (fun b=>if b=w.heap.size then some k else M b) β∧
  (∀p v,Ct w M β w0.heap.size p v→Ct (w.alloc (.cells cs t)) (fun b=>if b=w.heap.size then some k else M b) β w0.heap.size p v)∧
  (∀x n,β x≠some (w.heap.size,n))∧(∀key s v,Own H O (w.alloc (.cells cs t)) β key s v→Own H O w β key s v∧tb v≠some w.heap.size):=by
 have hoth:∀x,x < w.heap.size→(w.alloc (.cells cs t)).heap[x]? =w.heap[x]? :=fun x hx=>Below.heap_alloc w _ x hx
 have hle:w0.heap.size≤w.heap.size:=h.bel.size
 have hE:Ext w M (w.alloc (.cells cs t)) (fun b=>if b=w.heap.size then some k else M b):=fun x v hi hc=>by
  have hx:=A5e hc
  refine ⟨fun n hn=>hi n ?_,At9 w _ hc⟩
  simp only [show x.block≠w.heap.size by omega,if_false] at hn
  exact hn
 have hβb:∀x b n,β x=some (b,n)→b < w.heap.size:=fun x b n hb=>h.mlt b 0 (h.box x b n hb).2.1
 have hR:∀p v,Ct w M β w0.heap.size p v→Ct (w.alloc (.cells cs t)) (fun b=>if b=w.heap.size then some k else M b) β w0.heap.size p v:=fun p v hr=>
  hr.ext hE (fun x hx=>World.cell?_of_block (w:=w) (hoth _ (by omega))) (fun _ _ h=>h)
 have hOwn:∀key s v,Own H O (w.alloc (.cells cs t)) β key s v→Own H O w β key s v:=by
  intro key s v ho
  cases key with
  |slot k=>exact ho
  |cell x i=>
   obtain ⟨b',m,p,h1,h2,h3,h4,h5⟩:=ho
   exact ⟨b',m,p,h1,h2,h3,h4,by rw [←World.cell?_of_block (w:=w) (a:=⟨b',i,none⟩) (hoth b' (hβb x b' m h1))];exact h5⟩
 have hlt:∀key s v,Own H O w β key s v→∀g,tb v=some g→g < w.heap.size:=fun key s v ho g hg=>by
  obtain ⟨_,k,hk⟩:=(h.tok key s v ho).lt hg
  exact h.mlt g k hk
 refine ⟨hE,⟨h.bel.alloc hle _,?_,?_,?_,h.inj,h.dom,fun k=>hR _ _ (h.reg k),?_,?_,?_⟩,hR,?_,?_⟩
 ·intro b hb;simp only [show b≠w.heap.size by omega,if_false];exact h.mN b hb
 ·intro b n hn
  by_cases e:b=w.heap.size
  ·subst e;simp
  ·simp only [e,if_false] at hn;have:=h.mlt b n hn;simp;omega
 ·intro d b m hd
  obtain ⟨h1,h2,h3⟩:=h.box d b m hd
  have hbl:=hβb d b m hd
  exact ⟨h1,by simp only [show b≠w.heap.size by omega,if_false];exact h2,h3.ext (hoth b hbl) hR⟩
 ·intro key s v ho
  have ho':=hOwn key s v ho
  refine (h.tok key s v ho').ext (fun g hg=> ?_)
  have:=hlt key s v ho' g hg
  exact ⟨hoth g this,by simp only [show g≠w.heap.size by omega,if_false]⟩
 ·intro key key' s s' v v' g ho ho';exact h.tokne key key' s s' v v' g (hOwn _ _ _ ho) (hOwn _ _ _ ho')
 ·intro key s v g x m ho;exact h.tokbox key s v g x m (hOwn _ _ _ ho)
 ·intro x n hx
  have:=hβb x _ n hx
  omega
 ·intro key s v ho
  have ho':=hOwn key s v ho
  refine ⟨ho',fun hg=> ?_⟩
  have:=hlt key s v ho' _ hg
  omega
end
end Go.Proofs.YtofcpkmnhmnfcaaGreatR.Ev
namespace Go.Proofs.YtofcpkmnhmnfcaaGreatR.Ev
open Go Go.RowKit
set_option linter.unusedVariables false
set_option linter.unusedSimpArgs false
set_option linter.unnecessarySimpa false
def hold{ι :Type}(cx: ι→PV×Value)(st:St)(a:Act):Nat ⊕ ι→PV×Value
 | .inl s=>(st.get s,a.tmps.getD s undef)
 | .inr i=>cx i
structure SR {ι :Type} (cx: ι→PV×Value) (w0:World) (N:Mut) (nt:Nat) (st:St) (a:Act) (w:World) (M:Mut) (β :Loc):Prop where
 defs:a.defers= []
 nt:a.tmps.size=nt
 sh:SH (hold cx st a) w0 N st.obj (fun d=>Bi d (st.ob.map Prod.fst)) w M β
theorem Hc{α :Type}(d x: α)(r:List (Nat×α))(a s:Nat):Ij d ((a,x)::r) s=if a=s then x else Ij d r s:=by
 by_cases h:a=s
 ·subst h;simp [Ij]
 ·have:Nat.beq a s=false:=by
   cases hb:Nat.beq a s
   ·rfl
   ·exact absurd (Nat.eq_of_beq_eq_true hb) h
  simp [Ij,this,h]
theorem Co(d:Nat)(l:List Nat):Bi d l=true↔d∉l:=by
 induction l with
 |nil=>simp [Bi]
 |cons a l ih=>
  by_cases h:a=d
  ·subst h;simp [Bi]
  ·have:Nat.beq a d=false:=by
    cases hb:Nat.beq a d
    ·rfl
    ·exact absurd (Nat.eq_of_beq_eq_true hb) h
   have h':d≠a:=fun e=>h e.symm
   simp [Bi,this,ih,h']
theorem Aee{α :Type}(d: α)(l r:List (Nat×α))(s:Nat):Ij d (l++r) s=if s∈l.map Prod.fst then Ij d l s else Ij d r s:=by
 induction l with
 |nil=>simp
 |cons x l ih=>
  obtain ⟨a,y⟩:=x
  rw [List.cons_append,Hc,Hc,ih]
  by_cases h:a=s
  ·subst h;simp
  ·have:¬s=a:=fun e=>h e.symm
   simp only [h,if_false,List.map_cons,List.mem_cons,this,false_or]
theorem Alq(l r:List Nat)(d:Nat):Bi d (l++r)=(Bi d l && Bi d r):=by
 rw [Bool.eq_iff_iff];simp [Co]
theorem A9b(K:List Nat):∀(l:List (Nat×List PV)) (d:Nat),Ij [] (rem K l) d=if d∈K then [] else Ij [] l d
 | [],d=>by simp [rem,Ij]
 |(a,x)::r,d=>by
  simp only [rem]
  cases h:Bi a K with
  |true=>
   have ha:=(Co _ _).1 h
   simp only
   rw [Hc,Hc,A9b K r d]
   by_cases e:a=d
   ·subst e;simp [ha]
   ·simp [e]
  |false=>
   have ha:a∈K:=by
    have:¬Bi a K=true:=by rw [h];simp
    rw [Co] at this;exact Classical.not_not.1 this
   simp only
   rw [Hc,A9b K r d]
   by_cases e:a=d
   ·subst e;simp [ha]
   ·simp [e]
theorem Be3(K:List Nat):∀(l:List (Nat×List PV)) (d:Nat),d∈(rem K l).map Prod.fst↔d∈l.map Prod.fst∧d∉K
 | [],d=>by simp [rem]
 |(a,x)::r,d=>by
  simp only [rem]
  cases h:Bi a K with
  |true=>
   have ha:=(Co _ _).1 h
   simp only [List.map_cons,List.mem_cons,Be3 K r d]
   constructor
   ·rintro (rfl|⟨h1,h2⟩)
    ·exact ⟨.inl rfl,ha⟩
    ·exact ⟨.inr h1,h2⟩
   ·rintro ⟨h1|h1,h2⟩
    ·exact .inl h1
    ·exact .inr ⟨h1,h2⟩
  |false=>
   have ha:a∈K:=by
    have:¬Bi a K=true:=by rw [h];simp
    rw [Co] at this;exact Classical.not_not.1 this
   simp only [List.map_cons,List.mem_cons,Be3 K r d]
   constructor
   ·rintro ⟨h1,h2⟩;exact ⟨.inr h1,h2⟩
   ·rintro ⟨h1|h1,h2⟩
    ·subst h1;exact absurd ha h2
    ·exact ⟨h1,h2⟩
theorem Azq{a b:List Nat}{d:Nat}(h:d∈a↔d∈b):Bi d a=Bi d b:=by
 rw [Bool.eq_iff_iff,Co,Co,h]
theorem Alp{α :Type}{d: α}(f:Nat→α):∀(keys:List Nat) (s:Nat),Ij d (keys.map fun x=>(x,f x)) s=if s∈keys then f s else d:=by
 intro keys
 induction keys with
 |nil=>intro s;simp [Ij]
 |cons x keys ih=>
  intro s
  rw [List.map_cons,Hc,ih]
  by_cases e:x=s
  ·subst e;simp
  ·have:¬s=x:=fun e'=>e e'.symm
   simp only [e,if_false,List.mem_cons,this,false_or]
theorem Bgk(d:Nat):∀(l:List Nat) (x:Nat),x∈Bvy d l↔x=d∨x∈l
 | [],x=>by simp [Bvy]
 |b::r,x=>by
  simp only [Bvy]
  cases h1:Nat.blt d b with
  |true=>simp
  |false=>
   cases h2:Nat.beq d b with
   |true=>
    have:=Nat.eq_of_beq_eq_true h2
    subst this
    simp
   |false=>
    simp only [List.mem_cons,Bgk d r x]
    constructor
    ·rintro (h|h|h)
     ·exact .inr (.inl h)
     ·exact .inl h
     ·exact .inr (.inr h)
    ·rintro (h|h|h)
     ·exact .inr (.inl h)
     ·exact .inl h
     ·exact .inr (.inr h)
theorem Ahg:∀(l:List Nat) (x:Nat),x∈A9k l↔x∈l
 | [],x=>Iff.rfl
 |d::r,x=>by simp only [A9k,Bgk,Ahg r x,List.mem_cons]
theorem Bby{α :Type}(d: α):∀(l:List (Nat×α)) (s:Nat),s∉l.map Prod.fst→Ij d l s=d
 | [],s,_=>rfl
 |(a,x)::r,s,h=>by
  rw [Hc,if_neg (fun e=>h (by simp [e]))]
  exact Bby d r s (fun hs=>h (by simp at hs ⊢;exact .inr hs))
theorem Bb2(l:List (Nat×List PV))(d:Nat):(d∈(Asq l).map Prod.fst)=(d∈l.map Prod.fst):=by
 have e:(Asq l).map Prod.fst=A9k (l.map Prod.fst):=by
  unfold Asq
  rw [List.map_map]
  exact List.map_id' _
 rw [e]
 exact propext (Ahg _ _)
theorem Bke(l:List (Nat×List PV))(d:Nat):Ij [] (Asq l) d=Ij [] l d:=by
 unfold Asq
 rw [Alp]
 by_cases h:d∈A9k (l.map Prod.fst)
 ·rw [if_pos h]
 ·rw [if_neg h,Bby [] l d (fun hm=>h ((Ahg _ _).2 hm))]
theorem Bs4(l:List (Nat×List PV))(d:Nat):Bi d ((Asq l).map Prod.fst)=Bi d (l.map Prod.fst):=Azq (by rw [Bb2])
theorem A8i(o l:List (Nat×List PV))(d:Nat):Ij [] (B55 o l) d=Ij [] (o++l) d:=by
 match o with
 | []=>rfl
 | [x]=>rfl
 |x::y::r=>
  show Ij [] ((x::y::r)++rem ((x::y::r).map Prod.fst) l) d=_
  rw [Aee,Aee,A9b]
  by_cases h:d∈(x::y::r).map Prod.fst
  ·rw [if_pos h,if_pos h]
  ·rw [if_neg h,if_neg h,if_neg h]
theorem Bdy(o l:List (Nat×List PV))(d:Nat):Bi d ((B55 o l).map Prod.fst)=Bi d ((o++l).map Prod.fst):=by
 match o with
 | []=>rfl
 | [x]=>rfl
 |x::y::r=>
  refine Azq ?_
  show d∈((x::y::r)++rem ((x::y::r).map Prod.fst) l).map Prod.fst↔_
  rw [List.map_append,List.map_append,List.mem_append,List.mem_append,Be3]
  constructor
  ·rintro (h|⟨h,_⟩)
   ·exact .inl h
   ·exact .inr h
  ·rintro (h|h)
   ·exact .inl h
   ·by_cases e:d∈(x::y::r).map Prod.fst
    ·exact .inl e
    ·exact .inr ⟨h,e⟩
theorem Bva(a:Act)(d s:Nat)(v:Value)(hd:d < a.tmps.size):(a.put (some d) v).tmps.getD s undef=if d=s then v else a.tmps.getD s undef:=by
 simp only [Act.put,Array.getD_eq_getD_getElem?,Array.getElem?_setIfInBounds]
 by_cases h:d=s
 ·subst h;simp [hd]
 ·simp [h]
theorem O0(st:St)(d s:Nat)(p:PV):(st.app ⟨[(d,p)],[]⟩).get s=if d=s then p else st.get s:=Hc _ _ _ _ _
section
variable {ι :Type} {cx: ι→PV×Value} {w0 w w':World} {N M M':Mut} {β β':Loc} {nt:Nat} {st st':St} {a:Act}
theorem SR.reg(h:SR cx w0 N nt st a w M β)(s:Nat):Ct w M β w0.heap.size (st.get s) (a.tmps.getD s undef):=h.sh.reg (.inl s)
def Az8(d:Nat):Acy (Nat ⊕ ι)→Option (Acy (Option (Nat ⊕ ι)))
 | .slot (.inl s)=>if d=s then some (.slot none) else some (.slot (some (.inl s)))
 | .slot (.inr i)=>some (.slot (some (.inr i)))
 | .cell x i=>some (.cell x i)
def B63(d:Nat):Acy (Option (Nat ⊕ ι))→Acy (Nat ⊕ ι)
 | .slot none=> .slot (.inl d)
 | .slot (some k)=> .slot k
 | .cell x i=> .cell x i
theorem A3n{d:Nat}{k:Acy (Nat ⊕ ι)}{j:Acy (Option (Nat ⊕ ι))}(h:Az8 d k=some j):k=B63 d j:=by
 cases k with
 |slot k=>
  cases k with
  |inl s=>
   simp only [Az8] at h
   by_cases e:d=s
   ·rw [if_pos e] at h;injection h with h;subst h;rw [←e];rfl
   ·rw [if_neg e] at h;injection h with h;subst h;rfl
  |inr i=>injection h with h;subst h;rfl
 |cell x i=>injection h with h;subst h;rfl
theorem SR.of_cons{O:Nat→List PV}{D:Nat→Bool}(hdef:a.defers= [])(hnt:a.tmps.size=nt){d:Nat}(hd:d < nt){p:PV}{v:Value}{st0:St}
  (h:SH (Ajh (p,v) (hold cx st0 a)) w0 N O D w M β) (hg:∀s,st'.get s=if d=s then p else st0.get s) (hO:∀x,st'.obj x=O x)
  (hD:∀x,Bi x (st'.ob.map Prod.fst)=true→D x=true):SR cx w0 N nt st' (a.put (some d) v) w M β :=by
 have hds:d < a.tmps.size:=by rw [hnt];exact hd
 have e:st'.obj=O:=funext hO
 refine ⟨hdef,by simp [Act.put,hnt],?_⟩
 rw [e]
 have hH:∀s,hold cx st' (a.put (some d) v) (.inl s)=(if d=s then p else st0.get s,if d=s then v else a.tmps.getD s undef):=fun s=>by
  simp only [hold];rw [hg,Bva a d s v hds]
 refine h.perm (fun k=> ?_) (fun d b n hb=>(h.box d b n hb).2.2) (fun x hx=>h.dom x (hD x hx)) (Az8 d) ?_ (fun k k' j h1 h2=>(A3n h1).trans (A3n h2).symm)
 ·cases k with
  |inl s=>
   rw [hH]
   by_cases e:d=s
   ·simp only [e,if_true];exact h.reg none
   ·simp only [e,if_false];exact h.reg (some (.inl s))
  |inr i=>exact h.reg (some (.inr i))
 ·intro key s u ho
  cases key with
  |slot k=>
   cases k with
   |inl t=>
    have ho':(hold cx st' (a.put (some d) v) (.inl t)).1.sv=some s∧s.own=true∧(hold cx st' (a.put (some d) v) (.inl t)).2=u:=ho
    rw [hH] at ho'
    by_cases e:d=t
    ·refine ⟨.slot none,by simp only [Az8];rw [if_pos e],?_⟩
     rw [if_pos e,if_pos e] at ho';exact ho'
    ·refine ⟨.slot (some (.inl t)),by simp only [Az8];rw [if_neg e],?_⟩
     rw [if_neg e,if_neg e] at ho';exact ho'
   |inr i=>exact ⟨_,rfl,ho⟩
  |cell x i=>exact ⟨_,rfl,ho⟩
theorem SR.put(h:SR cx w0 N nt st a w M β)(d:Nat)(p:PV)(v:Value)(hd:d < nt)(hr:Ct w M β w0.heap.size p v)(hn:∀s,p.sv=some s→s.own=false):
  SR cx w0 N nt (st.app ⟨[(d,p)],[]⟩) (a.put (some d) v) w M β :=
 SR.of_cons h.defs h.nt hd (h.sh.cons p v hr (fun s h1 h2=>by rw [hn s h1] at h2;cases h2)) (fun s=>O0 st d s p) (fun _=>rfl) (fun _ h=>h)
theorem SR.dput(h:SR cx w0 N nt st a w M β)(d:Option Nat)(p:PV)(v:Value)(hd:∀x,d=some x→x < nt)(hr:Ct w M β w0.heap.size p v)(hn:∀s,p.sv=some s→s.own=false):
  SR cx w0 N nt (st.app (dput d p)) (a.put d v) w M β :=by
 cases d with
 |none=>exact h
 |some x=>exact h.put x p v (hd x rfl) hr hn
theorem SR.world(h:SR cx w0 N nt st a w M β)(hb:Below w.heap.size w w'):SR cx w0 N nt st a w' M β :=⟨h.defs,h.nt,h.sh.world hb⟩
theorem SR.drawn(h:SR cx w0 N nt st a w M β):SR cx w0 N nt st a { w with drawn:=w.drawn+1 } M β :=⟨h.defs,h.nt,h.sh.drawn⟩
theorem SR.drop(h:SR cx w0 N nt st a w M β)(s:Nat):SR cx w0 N nt (st.app ⟨[(s,(st.get s).view)],[]⟩) a w M β :=by
 refine ⟨h.defs,h.nt,h.sh.hold (fun k=> ?_) some (fun k sv h1 h2=> ?_) (fun k k' j h1 h2=>by injection h1 with h1;injection h2 with h2;rw [h1,h2])⟩
 ·cases k with
  |inl t=>
   simp only [hold]
   rw [O0]
   by_cases e:s=t
   ·subst e;rw [if_pos rfl];exact (h.reg s).view
   ·rw [if_neg e];exact h.reg t
  |inr i=>exact h.sh.reg (.inr i)
 ·cases k with
  |inl t=>
   simp only [hold] at h1
   rw [O0] at h1
   by_cases e:s=t
   ·rw [if_pos e] at h1;rw [W5 h1] at h2;cases h2
   ·rw [if_neg e] at h1;exact ⟨_,rfl,h1,rfl⟩
  |inr i=>exact ⟨_,rfl,h1,rfl⟩
theorem Azz{O:Nat→List PV}{s:Nat}{sv:SV}(h1:(st.get s).sv=some sv)(h2:sv.own=true):Own (hold cx st a) O w β (.slot (.inl s)) sv (a.tmps.getD s undef):=⟨h1,h2,rfl⟩
theorem Aus{O:Nat→List PV}{s:Nat}{key:Acy (Nat ⊕ ι)}{sv:SV}{v:Value}(h:Own (hold cx (st.app ⟨[(s,(st.get s).view)],[]⟩) a) O w β key sv v):
  Own (hold cx st a) O w β key sv v∧key≠ .slot (.inl s):=by
 cases key with
 |slot k=>
  cases k with
  |inl t=>
   obtain ⟨h1,h2,h3⟩:=h
   simp only [hold] at h1
   rw [O0] at h1
   by_cases e:s=t
   ·rw [if_pos e] at h1;rw [W5 h1] at h2;cases h2
   ·rw [if_neg e] at h1;exact ⟨⟨h1,h2,h3⟩,fun e'=>by injection e' with e';injection e' with e';exact e e'.symm⟩
  |inr i=>exact ⟨h,fun e=>by injection e with e;cases e⟩
 |cell d i=>exact ⟨h,fun e=>by cases e⟩
theorem Acx(l:List PV):∀(off:Nat) (new:List PV),(Ox l off new).length=l.length:=by
 induction l with
 |nil=>intro off new;simp [Ox]
 |cons p r ih=>
  intro off new
  cases new with
  |nil=>cases off<;>simp [Ox]
  |cons q new=>
   cases off with
   |zero=>simp [Ox,ih]
   |succ n=>simp [Ox,ih]
theorem Ajo(l:List PV):∀(off:Nat) (new:List PV) (i:Nat),off+new.length≤l.length→
  (Ox l off new)[i]? =if off≤i∧i < off+new.length then new[i - off]? else l[i]? :=by
 induction l with
 |nil=>
  intro off new i h
  have h1:off=0:=by simp at h;omega
  have h2:new= []:=List.eq_nil_of_length_eq_zero (by simp only [List.length_nil] at h;omega)
  subst h1;subst h2;simp [Ox]
 |cons p r ih=>
  intro off new i h
  cases new with
  |nil=>
   have:Ox (p::r) off []=p::r:=by cases off<;>rfl
   rw [this,if_neg (fun hh=>absurd hh.2 (by simp only [List.length_nil];omega))]
  |cons q new=>
   cases off with
   |zero=>
    have e:Ox (p::r) 0 (q::new)=q::Ox r 0 new:=rfl
    rw [e]
    cases i with
    |zero=>simp
    |succ i=>
     rw [List.getElem?_cons_succ,ih 0 new i (by simp at h ⊢;omega)]
     by_cases hi:i < new.length
     ·rw [if_pos ⟨by omega,by omega⟩,if_pos ⟨by omega,by simp;omega⟩];simp
     ·rw [if_neg (by omega),if_neg (by simp;omega)];simp
   |succ n=>
    have e:Ox (p::r) (n+1) (q::new)=p::Ox r n (q::new):=rfl
    rw [e]
    cases i with
    |zero=>rw [if_neg (by omega)];simp
    |succ i=>
     rw [List.getElem?_cons_succ,ih n (q::new) i (by simp at h ⊢;omega)]
     by_cases hi:n≤i∧i < n+(q::new).length
     ·rw [if_pos hi,if_pos ⟨by omega,by omega⟩]
      congr 1;omega
     ·rw [if_neg hi,if_neg (by omega)];simp
theorem Alo(l:List PV):∀n,Af0 l n=true↔l.length=n:=by
 induction l with
 |nil=>intro n;cases n<;>simp [Af0]
 |cons p r ih=>intro n;cases n<;>simp [Af0,ih]
theorem o0(l:List PV):∀n,Aar l n=true↔n≤l.length:=by
 induction l with
 |nil=>intro n;cases n<;>simp [Aar]
 |cons p r ih=>intro n;cases n<;>simp [Aar,ih]
theorem Bdx(cs:List Value)(off:Nat)(vs:List Value)(h:off+vs.length≤cs.length)(i:Nat):
  (cs.take off++vs++cs.drop (off+vs.length))[i]? =if off≤i∧i < off+vs.length then vs[i - off]? else cs[i]? :=by
 rw [List.append_assoc]
 by_cases h1:i < off
 ·rw [if_neg (by omega),List.getElem?_append_left (by simp;omega),List.getElem?_take,if_pos h1]
 ·rw [List.getElem?_append_right (by simp;omega)]
  have hl:(cs.take off).length=off:=by simp;omega
  rw [hl]
  by_cases h2:i < off+vs.length
  ·rw [if_pos ⟨by omega,h2⟩,List.getElem?_append_left (by omega)]
  ·rw [if_neg (by omega),List.getElem?_append_right (by omega),List.getElem?_drop]
   congr 1;omega
def RC(w:World)(M:Mut)(β :Loc)(B:Nat)(l:List PV)(cs:Array Value):Prop:=l.length=cs.size∧∀(i:Nat) (p:PV) (v:Value),l[i]? =some p→cs[i]? =some v→Ct w M β B p v∧v.oneCell'=true
theorem Buv{B:Nat}{p:PV}{v:Value}(h:Ct w M β B p v)(h1:Akm p.cells=true):
  v.cells.toList.length=p.cells.length∧(∀(i:Nat) (q:PV) (u:Value),p.cells[i]? =some q→v.cells.toList[i]? =some u→Ct w M β B q u∧u.oneCell'=true):=by
 have single:∀p v,Ct w M β B p v→p.one=true→p.cells= [p]→v.cells.toList.length=p.cells.length∧(∀(i:Nat) (q:PV) (u:Value),p.cells[i]? =some q→v.cells.toList[i]? =some u→Ct w M β B q u∧u.oneCell'=true):=by
  intro p v h h1 h2
  have ho:=h.one h1
  have hv:v.cells= #[v]:=by cases v<;>first|rfl|(simp [Value.oneCell'] at ho)
  rw [h2,hv]
  refine ⟨rfl,fun i q u hq hu=> ?_⟩
  cases i with
  |zero=>simp at hq hu;subst hq;subst hu;exact ⟨h,ho⟩
  |succ i=>simp at hq
 cases p with
 |agg l=>
  cases h with
  |agg l cs hl ho hr=>
   refine ⟨hl.symm,fun i q u hq hu=>⟨hr i q u hq hu,ho u ?_⟩⟩
   exact List.mem_of_getElem? hu
  |row p s hs=>cases hs
 |any=>simp [PV.cells,Akm,PV.one] at h1
 |tup l=>simp [PV.cells,Akm,PV.one] at h1
 |ref l=>simp [PV.cells,Akm,PV.one] at h1
 |arrO x=>simp [PV.cells,Akm,PV.one] at h1
 |mapO _ _ _ _=>simp [PV.cells,Akm,PV.one] at h1
 |val v=>exact single _ _ h (by simp only [PV.cells,Akm] at h1;split at h1;assumption;cases h1) rfl
 |_=>exact single _ _ h rfl rfl
theorem Ke{l:List PV}{i:Nat}{q:PV}(h:(l.map PV.view)[i]? =some q):∃p,l[i]? =some p∧q=p.view:=by
 rw [List.getElem?_map] at h
 cases hp:l[i]? with
 |none=>rw [hp] at h;cases h
 |some p=>rw [hp] at h;injection h with h;exact ⟨p,rfl,h.symm⟩
theorem Aga{B:Nat}{p:PV}{v:Value}(h:Ct w M β B p v)(h1:Akm p.cells=true):
  v.cells.toList.length=(p.cells.map PV.view).length∧(∀(i:Nat) (q:PV) (u:Value),(p.cells.map PV.view)[i]? =some q→v.cells.toList[i]? =some u→Ct w M β B q u∧u.oneCell'=true):=by
 obtain ⟨c1,c2⟩:=Buv h h1
 refine ⟨by rw [c1];simp,fun i q u hq hu=> ?_⟩
 obtain ⟨p',hp',rfl⟩:=Ke hq
 obtain ⟨r1,r2⟩:=c2 i p' u hp' hu
 exact ⟨r1.view,r2⟩
theorem SR.opd(h:SR cx w0 N nt st a w M β)(x:Operand):Ct w M β w0.heap.size (st.opd x) (a.eval x):=by
 cases x with
 |tmp t=>exact h.reg t
 |const v=>
  show Ct w M β w0.heap.size (match A10 v with|true=> .val v|false=> .any) v
  cases hv:A10 v with
  |true=>exact .val v (by rw [←Ben];exact hv)
  |false=>exact .any v
 |global g=>exact .any _
 |func f=>exact .clo f 0 [] [] rfl (fun i p v hp=>by simp at hp)
theorem SR.valOf(h:SR cx w0 N nt st a w M β):∀(l:List Operand),Aof st l=true→∀x∈l,a.eval x=st.valOf x:=by
 intro l
 induction l with
 |nil=>intro _ x hx;cases hx
 |cons y l ih=>
  intro hl x hx
  simp only [Aof] at hl
  split at hl
  ·rename_i v hy
   rcases List.mem_cons.1 hx with e|e
   ·subst e
    have:=h.opd x
    rw [hy] at this
    simp only [St.valOf,hy]
    exact this.val_eq
   ·exact ih hl x e
  ·cases hl
theorem Bhc{l:List PV}{Q:Nat→PV→Value→Prop}(h:∀(i:Nat) (p:PV),l[i]? =some p→∃v,Q i p v):
  ∃vs:List Value,vs.length=l.length∧∀(i:Nat) (p:PV) (v:Value),l[i]? =some p→vs[i]? =some v→Q i p v:=by
 induction l generalizing Q with
 |nil=>exact ⟨[],rfl,fun i p v hp=>by simp at hp⟩
 |cons p r ih=>
  obtain ⟨v,hv⟩:=h 0 p rfl
  obtain ⟨vs,h1,h2⟩:=ih (Q:=fun i=>Q (i+1)) (fun i q hq=>h (i+1) q (by simpa using hq))
  refine ⟨v::vs,by simp [h1],fun i q u hq hu=> ?_⟩
  cases i with
  |zero=>simp at hq hu;subst hq;subst hu;exact hv
  |succ i=>exact h2 i q u (by simpa using hq) (by simpa using hu)
def Ac3(w:World)(M:Mut)(β :Loc)(B:Nat)(ad:Addr)(l:List PV):Prop:=∀(i:Nat) (p:PV),l[i]? =some p→∃v,w.cell? (ad.add i)=some v∧Ct w M β B p v∧v.oneCell'=true
theorem Ac3.views{B:Nat}{ad:Addr}{l:List PV}(h:Ac3 w M β B ad l):Ac3 w M β B ad (l.map PV.view):=fun i p hp=>by
 obtain ⟨q,h1,rfl⟩:=Ke hp
 obtain ⟨v,a,b,c⟩:=h i q h1
 exact ⟨v,a,b.view,c⟩
theorem Bh2:∀(l:List PV),Rt (l.map PV.view)=Rt l:=by
 intro l
 induction l with
 |nil=>rfl
 |cons p l ih=>cases p<;>simp only [List.map,PV.view,Rt]<;>exact ih
theorem Bz2{b:Nat}{x:LX}(h:st.vobj b= [.arrO x]):st.obj b= [.arrO x]:=by
 unfold St.vobj at h
 generalize st.obj b=l at h ⊢
 match l,h with
 | [],h=>cases h
 | [p],h=>cases p<;>simp [PV.view] at h ⊢ <;>exact h
 |p::q::r,h=>simp at h
theorem Btn(b off sz:Nat):((st.vobj b).drop off).take sz=(((st.obj b).drop off).take sz).map PV.view:=by
 simp only [St.vobj,List.map_drop,List.map_take]
theorem Bx5{B:Nat}{x:LX}{v:Value}(h:Ct w M β B (.arrO x) v):False:=by
 cases h with
 |row p s hs=>cases hs
theorem Bx6{B:Nat}{g1 g2:Bool}{x y:LX}{v:Value}(h:Ct w M β B (.mapO g1 g2 x y) v):False:=by
 cases h with
 |row p s hs=>cases hs
theorem Bdb{B b n:Nat}{l:List PV}{x:LX}(h:Aap w M β B b n l)(hl:l= [.arrO x]):∃cs t,w.heap[b]? =some (.cells cs t (0,0))∧x.len=n∧n*x.sz≤cs.size∧
  ∀(i j:Nat) (p:PV) (v:Value),i < n→(x.row i)[j]? =some p→cs[i*x.sz+j]? =some v→Ct w M β B p v∧v.oneCell'=true:=by
 cases h with
 |cells l cs t q1 q2 q3=>
  subst hl
  have hs:1≤cs.size:=q2
  have:=(q3 0 _ (cs[0]'(by omega)) rfl (Array.getElem?_eq_getElem (by omega))).1
  exact (Bx5 this).elim
 |arr y cs t q1 q2 q3 q4=>injection hl with hl;injection hl with hl;subst hl;exact ⟨cs,t,q1,q2,q3,q4⟩
 |map=>injection hl with hl;cases hl
theorem Bxv{B b n:Nat}{l:List PV}{gk gv:Bool}{ks vs:LX}(h:Aap w M β B b n l)(hl:l= [.mapO gk gv ks vs]):∃es clock,w.heap[b]? =some (.map es clock)∧es.size=ks.len∧vs.len=ks.len∧
  ∀(i:Nat) (e:MapEntry),es[i]? =some e→Ct w M β B (mkP gk (ks.row i)) e.key∧Ct w M β B (mkP gv (vs.row i)) e.val:=by
 cases h with
 |cells l cs t q1 q2 q3=>
  subst hl
  have hs:1≤cs.size:=q2
  have:=(q3 0 _ (cs[0]'(by omega)) rfl (Array.getElem?_eq_getElem (by omega))).1
  exact (Bx6 this).elim
 |arr=>injection hl with hl;cases hl
 |map gk' gv' ks' vs' es clock q1 q2 q3 q4=>injection hl with hl;injection hl with e1 e2 e3 e4;subst e1;subst e2;subst e3;subst e4;exact ⟨es,clock,q1,q2,q3,q4⟩
theorem Bb5:∀ {l:List PV},Rt l=true→∀(i:Nat) (p:PV),l[i]? =some p→(∀x,p≠ .arrO x)∧(∀g1 g2 x y,p≠ .mapO g1 g2 x y)
 | [],_,i,p,h=>by simp at h
 |q::r,h,i,p,hp=>by
  have hq:(∀x,q≠ .arrO x)∧(∀g1 g2 x y,q≠ .mapO g1 g2 x y)∧Rt r=true:=by
   cases q with
   |arrO x=>cases h
   |mapO a b c d=>cases h
   |_=>exact ⟨fun x e=>(by cases e),fun a b c d e=>(by cases e),h⟩
  cases i with
  |zero=>simp at hp;subst hp;exact ⟨hq.1,hq.2.1⟩
  |succ i=>exact Bb5 hq.2.2 i p (by simpa using hp)
theorem SR.cellsAt(h:SR cx w0 N nt st a w M β){d off b n:Nat}(hβ : β d=some (b,n)){l:List PV}(hl:∀(i:Nat) (p:PV),l[i]? =some p→(st.obj d)[off+i]? =some p)(hp:Rt l=true):Ac3 w M β w0.heap.size ⟨b,off,none⟩ l:=by
 intro i p hp'
 obtain ⟨_,_,h3⟩:=h.sh.box d b n hβ
 have hn:=Bb5 hp i p hp'
 have hq:=hl i p hp'
 generalize st.obj d=od at h3 hq
 cases h3 with
 |cells l cs t q1 q2 q3=>
  have hlt:off+i < cs.size:=by
   have:=(List.getElem?_eq_some_iff.1 hq).1
   omega
  have hv:cs[off+i]? =some cs[off+i]:=Array.getElem?_eq_getElem hlt
  refine ⟨_,?_,(q3 _ p _ hq hv)⟩
  rw [Ayt,World.cell?,q1]
  exact hv
 |arr x cs t q1 q2 q3 q4=>
  rw [List.getElem?_cons] at hq
  split at hq
  ·injection hq with hq;exact absurd hq.symm (hn.1 x)
  ·simp at hq
 |map g1 g2 ks vs es clock q1 q2 q3 q4=>
  rw [List.getElem?_cons] at hq
  split at hq
  ·injection hq with hq;exact absurd hq.symm (hn.2 _ _ _ _)
  ·simp at hq
theorem Aoh{l:List PV}{off sz i:Nat}{p:PV}(h:((l.drop off).take sz)[i]? =some p):l[off+i]? =some p:=by
 rw [List.getElem?_take] at h
 split at h
 ·rw [List.getElem?_drop] at h;exact h
 ·cases h
end
end Go.Proofs.YtofcpkmnhmnfcaaGreatR.Ev
