/-  An evaluator of translated code on data without memory: definitions. -/
import Derived.Test.YthjhkpgonleelaaGreatDoorLFA
set_option linter.unusedVariables false
set_option linter.unusedSimpArgs false
set_option linter.unnecessarySimpa false
namespace Go.Proofs.YthjhkpgonleelaaGreatDoor.Ev
open Go
structure SV where
 own:Bool
 e:Nat
 sz:Nat
 n:Nat
 f:Nat->List PV
def PV.sv:PV->Option SV
 | .sl own e sz es=>some ⟨own,e,sz,es.length,λi=>es.getD i []⟩
 | .bA own x=>some ⟨own,x.e,x.sz,x.len,x.row⟩
 |_=>none
structure St where
 fr:List (Nat×PV)
 ob:List (Nat×List PV)
 base:Nat
structure Co where
 s:List (Nat×PV)
 o:List (Nat×List PV)
def Dn{α :Type}(d: α):List (Nat×α)->Nat->α
 | [],_=>d
 |(a,x)::r,s=>match Nat.beq a s with
  |true=>x
  |false=>Dn d r s
def Ay(d:Nat):List Nat->Bool
 | []=>true
 |a::r=>match Nat.beq a d with
  |true=>false
  |false=>Ay d r
def rem(K:List Nat):List (Nat×List PV)->List (Nat×List PV)
 | []=> []
 |(d,l)::r=>match Ay d K with
  |true=>(d,l)::rem K r
  |false=>rem K r
def Buy(o:List (Nat×List PV))(l:List (Nat×List PV)):List (Nat×List PV):=match o with
 | []=>l
 | [x]=>x::l
 |x::y::r=>(x::y::r)++rem ((x::y::r).map Prod.fst) l
def St.app(st:St)(δ :Co):St:= { fr:= δ.s++st.fr,ob:=Buy δ.o st.ob,base:=st.base }
def St.get(st:St)(s:Nat):PV:=Dn .any st.fr s
def St.put(st:St)(s:Nat)(p:PV):St:= { st with fr:=(s,p)::st.fr }
def St.obj(st:St)(d:Nat):List PV:=Dn [] st.ob d
def St.vobj(st:St)(d:Nat):List PV:=(st.obj d).map PV.view
def Ayw:Value->Bool
 | .agg _| .tuple _=>false
 |_=>true
def A37:List (Nat×LX)->Nat->Option LX
 | [],_=>none
 |(a,x)::r,g=>match Nat.beq a g with
  |true=>some x
  |false=>A37 r g
def St.aT(st:St):Operand->PV
 | .tmp t=>st.get t
 | .global g=>match A37 GL g with
  |some x=>.ref [.bA false x]
  |none=>.any
 | .const v=>match Ayw v with
  |true=>.val v
  |false=>.any
 | .func f=>.bI f 0 []
def PV.cells:PV->List PV
 | .agg l=>l
 |p=> [p]
def PV.one:PV->Bool
 | .val v=>Ayw v
 | .sl _ _ _ _=>true
 | .bA _ _=>true
 | .loc _ _=>true
 | .el _ _ _ _=>true
 | .vw _ _ _ _ _=>true
 | .mp _=>true
 | .bI _ _ _=>true
 |_=>false
def Aev:List PV->Bool
 | []=>true
 |p::r=>match p.one with
  |true=>Aev r
  |false=>false
inductive K where
 |move (x:Operand)
 |gF (e:Nat)
 |take (x:Nat)
 |pick (c a b:Operand)
 |alloc (zero:List PV)
 |box (x:Operand)
 |build (zero:List PV) (parts:List (Nat×Nat×Operand))
 |fP (e sz:Nat) (parts:List Operand)
 |load (agg:Bool) (sz:Nat) (x:Operand)
 |loadT (x:Operand)
 |store (sz:Nat) (a x:Operand)
 |storeT (a:Operand) (s:Nat)
 |eY (o:Oper)
 |gW (neg:Bool) (ts:List (Nat×Nat)) (x y:Operand)
 |dX (tag:Nat) (x y:Operand)
 |field (off:Nat) (x:Operand)
 |index (sz:Nat) (x i:Operand)
 |len (x:Operand)
 |cap (x:Operand)
 |app (e sz by_:Nat) (s:Nat) (x:Operand)
 |clone (cm:Bool) (e sz by_:Nat) (s:Nat) (x:Operand)
 |call (f:Nat) (args:List Operand)
 |fT (f:Nat) (args:List Operand)
 |fV (x:Operand) (args:List Operand)
 |gP (f n:Nat) (caps:List Operand)
 |extract (x:Operand) (i:Nat)
 |nil (x:Operand)
 |gL (e sz by_:Nat) (z:List PV) (n:Operand)
 |gI (e sz by_:Nat) (n:Operand)
 |gY (sz:Nat) (x:Operand) (lo hi mx:Option Operand)
 |gM (x:Operand) (lo hi:Option Operand)
 |gB (gk gv:Bool) (ks vs:LX)
 |lookup (gq:Bool) (ts:List (Nat×Nat)) (ok g:Bool) (z:List PV) (m k:Operand)
 |fO (gq:Bool) (ts:List (Nat×Nat)) (m k v:Operand)
 |del (gq:Bool) (ts:List (Nat×Nat)) (m k:Operand)
 |gU (off sz:Nat) (g:Bool) (x:Operand)
 |ext (sub:Bool) (x y c:Operand)
 |gG (f:Nat) (args:List Operand)
 |stop
structure Hm where
 dst:Option Nat
 g:Option (Nat×Bool)
 k:K
inductive EC where
 |skip
 |region (ban:List Nat) (ap:List (Nat×Nat)) (ops:List Hm)
 |gT (ops:List Hm)
 |seq (a b:EC)
 |cond (c:Operand) (a b:EC)
 |block (id:Nat) (b:EC)
 |loop (keys:List Nat) (b:EC)
 |exit (id:Nat)
 |ret
 |kp (keys:List Nat)
 |iE (ts:List Nat)
 |gJ (keys:List Nat) (b:EC)
 |iC (ts:List Nat)
 |iB (pre:List Hm) (m:Operand) (it nx more pair:Nat) (keys:List Nat) (asg:List Hm) (b:EC) (n:Nat)
 |stop
inductive Ex where
 |normal|exit (id:Nat)|ret
def Awi{α :Type}(P:Program):Sem α->(α->Prop)->Prop
 | .pure a,k=>k a
 | .program f,k=>Awi P (f P) k
 |_,_=>False
abbrev Bc:=Nat->List PV->(PV->Prop)->Prop
abbrev Inl:=Nat->List PV->List (Nat×List PV)->(PV->List (Nat×List PV)->Prop)->Prop
def gd(p:Prop) [d:Decidable p](k:Prop):Prop:=match d with
 | .isTrue _=>k
 | .isFalse _=>False
theorem Ax(p:Prop) [d:Decidable p](k:Prop):gd p k=(p/\k):=by
 unfold gd;cases d with
 |isTrue h=>exact propext ⟨λhk=>⟨h,hk⟩,λhk=>hk.2⟩
 |isFalse h=>exact propext ⟨λhk=>hk.elim,λhk=>h hk.1⟩
def br(t:Bool)(A B:Prop):Prop:=match t with
 |true=>A
 |false=>B
def fk(r:Option Nat)(A:Nat->Prop)(B:Prop):Prop:=match r with
 |some i=>A i
 |none=>B
def T5(l:List PV)(off:Nat):PV:=match l,off with
 | [],_=>.any
 |p::_,0=>p
 |_::r,n+1=>T5 r n
def Abc(l:List PV)(n:Nat):Bool:=match l,n with
 | [],0=>true
 |_::r,n+1=>Abc r n
 |_,_=>false
def W7(l:List PV)(n:Nat):Bool:=match l,n with
 |_,0=>true
 |_::r,n+1=>W7 r n
 |_,_=>false
def mkP(agg:Bool)(l:List PV):PV:=match agg,l with
 |true,l=>.agg l
 |false,[p]=>p.view
 |false,_=>.any
def dput(d:Option Nat)(p:PV):Co:=match d with
 |some s=>⟨[(s,p)],[]⟩
 |none=>⟨[],[]⟩
def plain:List PV->Bool
 | []=>true
 | .aX _::_=>false
 | .aO _ _ _ _::_=>false
 | .dG _ _ _ _ _ _::_=>false
 |_::r=>plain r
def PV.pure0(p:PV):PV:=match p.flat with
 |true=>p.view
 |false=>.any
def Ask(O:Nat->List PV):PV->PV
 | .loc d off=>match plain ((O d).drop off) with
  |true=>.ref (((O d).drop off).map PV.pure0)
  |false=>.any
 | .agg l=>.agg (l.map PV.pure0)
 | .ref l=>.ref (l.map PV.pure0)
 |p=>p.pure0
def Afr(st:St)(ban:List Nat):List Operand->Bool
 | []=>true
 |x::r=>match ban,st.aT x with
  | [],_=>true
  |ban,.loc b _=>match Ay b ban with
   |true=>Afr st ban r
   |false=>false
  |ban,_=>Afr st ban r
def Asv(st:St)(cells:List PV):List (Nat×Nat×Operand)->(List PV->Prop)->Prop
 | [],k=>k cells
 |(off,sz,x)::r,k=>match Abc (st.aT x).cells sz,Aev (st.aT x).cells,W7 cells (off+sz) with
  |true,true,true=>Asv st (Li cells off ((st.aT x).cells.map PV.view)) r k
  |_,_,_=>False
def Ai8(st:St)(sz:Nat):List Operand->(List (List PV)->Prop)->Prop
 | [],k=>k []
 |x::r,k=>match Abc (st.aT x).cells sz,Aev (st.aT x).cells with
  |true,true=>Ai8 st sz r λl=>k ((st.aT x).cells.map PV.view::l)
  |_,_=>False
def Aki(st:St):List Operand->Bool
 | []=>true
 |x::r=>match st.aT x with
  | .val _=>Aki st r
  |_=>false
def St.valOf(st:St)(x:Operand):Value:=match st.aT x with
 | .val v=>v
 |_=>undef
def A8j(P:Program)(st:St)(o:Oper)(d:Option Nat)(k:Co->Prop):Prop:=
 match Aki st o.op.operands.toList with
 |true=>Awi P (execOp st.valOf o) λn=>match n with
  | .value v=>match Ayw v with
   |true=>k (dput d (.val v))
   |false=>False
  |_=>False
 |false=>False
def Atu:List (Nat×Nat)->List PV->List PV->Option Bool
 | [],_,_=>some true
 |(tag,o)::r,xs,ys=>match Atu r xs ys with
  |none=>none
  |some t=>match tag,T5 xs o,T5 ys o with
   |0,.val (.bool a),.val (.bool b)=>some ((a == b) && t)
   |1,.val (.int k a),.val (.int k' b)=>match decide (k=k') with
    |true=>some ((a == b) && t)
    |false=>none
   |2,.val (.string a),.val (.string b)=>some ((a == b) && t)
   |_,_,_=>none
def D1:Option UInt8->Int
 |some b=>(b.toNat:Int)
 |none=>0
def Can(a b c:Int):Int:=Int.ofNat ((a.toNat+b.toNat+c.toNat) % 18446744073709551616)
def Cam(a b c:Int):Int:=Int.ofNat ((a.toNat+b.toNat+c.toNat)/18446744073709551616)
def Ccq(a b c:Int):Int:=Int.ofNat ((a.toNat+18446744073709551616-b.toNat-c.toNat) % 18446744073709551616)
def B7x(a b c:Int):Int:=match Nat.blt a.toNat (b.toNat+c.toNat) with
 |true=>1
 |false=>0
def Bzv(sub:Bool)(a b c:Int):PV:=match sub with
 |false=>.bY [.val (.int .u64 (Can a b c)),.val (.int .u64 (Cam a b c))]
 |true=>.bY [.val (.int .u64 (Ccq a b c)),.val (.int .u64 (B7x a b c))]
def dX(tag:Nat)(x y:Value):Option (Bool×Value):=match tag,x,y with
 |0,.int k a,.int k' b=>match decide (k=k') with
  |true=>some (!decide (b=0),.int k (k.wrap (a.tdiv b)))
  |false=>none
 |1,.int k a,.int k' b=>match decide (k=k') with
  |true=>some (!decide (b=0),.int k (a.tmod b))
  |false=>none
 |2,.int k a,.int _ b=>some (!decide (b<0),.int k (k.wrap (a*2 ^ (min b.toNat k.bits))))
 |3,.int k a,.int _ b=>some (!decide (b<0),.int k (a.fdiv (2 ^ (min b.toNat k.bits))))
 |4,.string a,.string b=>some (!decide (((a.size+b.size:Nat):Int)>IntKind.i64.max),.string (a++b))
 |5,.string s,.int _ n=>some ((if 0<=n then s[n.toNat]? else none).isSome,.int .u8 (D1 (if 0<=n then s[n.toNat]? else none)))
 |_,_,_=>none
def Bbi:Nat->PV->Bool
 |0,.val (.bool _)=>true
 |1,.val (.int _ _)=>true
 |2,.val (.string _)=>true
 |_,_=>false
def Aah:List (Nat×Nat)->List PV->Bool
 | [],[]=>true
 |(tag,_)::r,p::l=>match Bbi tag p with
  |true=>Aah r l
  |false=>false
 |_,_=>false
def Aog(gq:Bool)(ts:List (Nat×Nat))(p:PV):Option (List PV):=match gq,p with
 |true,.agg l=>match Aah ts l with
  |true=>some l
  |false=>none
 |true,_=>none
 |false,p=>match Aah ts [p] with
  |true=>some [p]
  |false=>none
def A0m:Bool->Bool->Bool
 |true,true=>true
 |false,false=>true
 |_,_=>false
def Bbn(g:Bool)(p:PV):Option (List PV):=match g,p with
 |true,.agg l=>some (l.map PV.view)
 |true,_=>none
 |false,p=>match p.one with
  |true=>some [p.view]
  |false=>none
def B63:Operand->Bool
 | .const _=>true
 |_=>false
def St.bnd(st:St)(d:Int):Option Operand->Option Int
 |none=>some d
 |some x=>match st.aT x with
  | .val (.int _ n)=>some n
  |_=>none
def Aym(st:St)(x:Operand)(v:Value)(tag:Nat)(d:Option Nat)(k:Co->Prop):Prop:=match v,(st.aT x).sv with
 | .slice none 0 0,some s=>match tag with
  |6=>gd (0<s.n) (k (dput d (.val (.bool false))))
  |7=>gd (0<s.n) (k (dput d (.val (.bool true))))
  |_=>False
 |_,_=>False
def PV.bare(e sz:Nat):PV->Bool
 | .val (.slice none 0 0)=>true
 | .bA true y=>match Nat.beq y.len 0,Nat.beq e y.e,Nat.beq sz y.sz with
  |true,true,true=>true
  |_,_,_=>false
 |_=>false
def Bip:PV->PV->PV
 | .bA true y,.val (.slice none 0 0)=>match Nat.beq y.len 0 with
  |true=>.bA true y
  |false=>.val (.slice none 0 0)
 |_,p=>p
def Ajf:List PV->List PV->List PV
 |_,[]=> []
 | [],p::ps=>p::ps
 |o::os,p::ps=>Bip o p::Ajf os ps
def LX.flat(z:LX):List PV:=(((List.range z.len).map z.row).flatten).map PV.view
def LX.cut(x:LX)(i:Nat):Option LX:=LX.cat (x.sub 0 i) (x.sub (i+1) x.len)
def Zw(st:St):List Operand->Bool
 | []=>true
 |x::r=>match (st.aT x).view.flat with
  |true=>Zw st r
  |false=>false
def Bd1(r:PV)(o':List (Nat×List PV))(p:Prop):Prop:=match o',r.flat with
 | [],true=>p
 |_,_=>False
def Biy:List PV->Option (Bool×Bool×LX×LX)
 | [.aO gk gv ks vs]=>some (gk,gv,ks,vs)
 | [.dG _ _ gk gv ks vs]=>some (gk,gv,ks,vs)
 |_=>none
def Ba(P:Program)(C:Bc)(X:Inl)(ban:List Nat)(o:K)(d:Option Nat)(st:St)(k:Co->Prop):Prop:=
 match o with
 | .move x=>k (dput d (st.aT x).view)
 | .gF e=>match d,LX.nil e with
  |some d,some x=>k ⟨[(d,.bA true x)],[]⟩
  |_,_=>False
 | .take s=>match d with
  |some d=>k ⟨[(d,st.get s),(s,(st.get s).view)],[]⟩
  |none=>False
 | .pick c a b=>match st.aT c with
  | .val (.bool t)=>br t (k (dput d (st.aT a).view)) (k (dput d (st.aT b).view))
  |_=>False
 | .alloc z=>match d with
  |some s=>match Ay (st.base+s) (st.ob.map Prod.fst) with
   |true=>k ⟨[(s,.loc (st.base+s) 0)],[(st.base+s,z)]⟩
   |_=>False
  |none=>False
 | .box x=>match d with
  |some s=>match Ay (st.base+s) (st.ob.map Prod.fst),Aev (st.aT x).cells with
   |true,true=>k ⟨[(s,.loc (st.base+s) 0)],[(st.base+s,(st.aT x).cells.map PV.view)]⟩
   |_,_=>False
  |none=>False
 | .build z parts=>Asv st (z.map PV.view) parts λl=>k (dput d (.agg l))
 | .fP e sz parts=>Ai8 st sz parts λl=>match LX.lit e l with
  |some x=>match Nat.beq x.sz sz with
   |true=>k (dput d (.bA true x))
   |false=>False
  |none=>k (dput d (.sl true e sz l))
 | .load agg sz x=>match st.aT x with
  | .loc b off=>match Ay b ban,W7 ((st.vobj b).drop off) sz,plain (((st.vobj b).drop off).take sz) with
   |true,true,true=>k (dput d (mkP agg (((st.vobj b).drop off).take sz)))
   |_,_,_=>False
  | .ref l=>match W7 l sz with
   |true=>k (dput d (mkP agg (l.take sz)))
   |false=>False
  | .el b sz' i off=>match Ay b ban,st.vobj b with
   |true,[.aX x]=>match Nat.beq sz' x.sz,W7 ((x.row i).drop off) sz with
    |true,true=>k (dput d (mkP agg (((x.row i).drop off).take sz)))
    |_,_=>False
   |_,_=>False
  |_=>False
 | .loadT x=>match st.aT x,d with
  | .loc b off,some d=>match Ay b ban,(T5 (st.obj b) off).one && plain (st.obj b) with
   |true,true=>k ⟨[(d,T5 (st.obj b) off)],[(b,Li (st.obj b) off [(T5 (st.obj b) off).view])]⟩
   |_,_=>False
  |_,_=>False
 | .store sz a x=>match st.aT a with
  | .loc b off=>match Abc (st.aT x).cells sz,Aev (st.aT x).cells,W7 (st.obj b) (off+sz) && plain (st.obj b) with
   |true,true,true=>k ⟨[],[(b,Li (st.obj b) off (Ajf ((st.obj b).drop off) ((st.aT x).cells.map PV.view)))]⟩
   |_,_,_=>False
  | .el b sz' i off=>match Abc (st.aT x).cells sz,Aev (st.aT x).cells,st.obj b with
   |true,true,[.aX y]=>match Nat.beq sz' y.sz,LX.set y i off ((st.aT x).cells.map PV.view) with
    |true,some y'=>k ⟨[],[(b,[.aX y'])]⟩
    |_,_=>False
   |_,_,_=>False
  |_=>False
 | .storeT a s=>match st.aT a with
  | .loc b off=>match (st.get s).one,W7 (st.obj b) (off+1) && plain (st.obj b) with
   |true,true=>k ⟨[(s,(st.get s).view)],[(b,Li (st.obj b) off [st.get s])]⟩
   |_,_=>False
  | .el b sz' i off=>match (st.get s).one,st.obj b with
   |true,[.aX y]=>match Nat.beq sz' y.sz,LX.set y i off [(st.get s).view] with
    |true,some y'=>k ⟨[(s,(st.get s).view)],[(b,[.aX y'])]⟩
    |_,_=>False
   |_,_=>False
  |_=>False
 | .eY o=>A8j P st o d k
 | .dX tag x y=>match st.aT x,st.aT y with
  | .val u,.val v=>match dX tag u v with
   |some (c,r)=>br c (k (dput d (.val r))) False
   |none=>False
  |_,.val v=>Aym st x v tag d k
  |_,_=>False
 | .gW neg ts x y=>match st.aT x,st.aT y with
  | .agg xs,.agg ys=>match Atu ts xs ys with
   |some t=>match neg with
    |true=>k (dput d (.val (.bool (!t))))
    |false=>k (dput d (.val (.bool t)))
   |none=>False
  |_,_=>False
 | .field off x=>match st.aT x with
  | .loc b o=>k (dput d (.loc b (o+off)))
  | .ref l=>k (dput d (.ref (l.drop off)))
  | .el b sz i o=>k (dput d (.el b sz i (o+off)))
  |_=>False
 | .index sz x i=>match st.aT x,st.aT i with
  | .vw c b e sz' m,.val (.int _ n)=>match Nat.beq sz sz',c with
   |true,false=>gd (0<=n) (gd (n<(m:Int)) (k (dput d (.el b sz n.toNat 0))))
   |true,true=>gd (0<=n) (gd (n<(m:Int)) (k (dput d (.loc b (n.toNat*sz)))))
   |_,_=>False
  |p,.val (.int _ n)=>match p.sv with
   |some s=>match Nat.beq sz s.sz with
    |true=>gd (0<=n) (gd (n<(s.n:Int)) (k (dput d (.ref (s.f n.toNat)))))
    |false=>False
   |none=>False
  |_,_=>False
 | .len x=>match st.aT x with
  | .vw _ _ _ _ m=>k (dput d (.val (.int .i64 m)))
  | .val (.slice _ n _)=>k (dput d (.val (.int .i64 n)))
  |p=>match p.sv with
   |some s=>k (dput d (.val (.int .i64 s.n)))
   |none=>False
 | .cap x=>match st.aT x with
  | .val (.slice _ _ c)=>k (dput d (.val (.int .i64 c)))
  |_=>False
 | .app e sz by_ s x=>match d with
  |some d=>match st.get s,st.aT x with
   | .bA true y,.bA _ z=>match Nat.beq e y.e,Nat.beq sz y.sz,LX.cat y z with
    |true,true,some r=>gd ((y.len+z.len)*by_<=140737488355328) (gd (y.len+z.len<=maxLen) (k ⟨[(d,.bA true r),(s,.bA false y)],[]⟩))
    |_,_,_=>False
   | .bA true y,.val (.slice none 0 0)=>match Nat.beq e y.e with
    |true=>k ⟨[(d,.bA true y),(s,.bA false y)],[]⟩
    |false=>False
   | .val (.slice none 0 0),.bA _ z=>match Nat.beq e z.e,Nat.beq sz z.sz with
    |true,true=>gd ((0+z.len)*by_<=140737488355328) (gd (0+z.len<=maxLen) (k ⟨[(d,.bA true z)],[]⟩))
    |_,_=>False
   |_,_=>False
  |none=>False
 | .clone cm e sz by_ s x=>match d,LX.nil e with
  |some d,some n=>match Ay (st.base+d) (st.ob.map Prod.fst),(st.get s).bare e sz && Nat.beq e n.e && Nat.beq sz n.sz with
   |true,true=>match st.aT x with
    | .bA _ z=>match Nat.beq e z.e,Nat.beq sz z.sz with
     |true,true=>br (Nat.beq z.len 0) (k ⟨[(d,.bA true n),(s,(st.get s).view)],[]⟩)
      (gd (z.len*by_<=140737488355328) (gd (z.len<=maxLen) (k ⟨[(d,.vw cm (st.base+d) e sz z.len),(s,(st.get s).view)],[(st.base+d,match cm with|true=>z.flat|false=> [.aX z])]⟩)))
     |_,_=>False
    |_=>False
   |_,_=>False
  |_,_=>False
 | .call f args=>match Afr st ban args with
  |true=>C f (args.map λx=>Ask st.obj (st.aT x)) λr=>k (dput d r.view)
  |false=>False
 | .fT f args=>X f (args.map λx=>(st.aT x).view) st.ob λr o'=>k ⟨(dput d r).s,o'⟩
 | .fV x args=>match st.aT x with
  | .bI f n caps=>X f (caps.take n++((args.map λx=>(st.aT x).view)++caps.drop n)) st.ob λr o'=>k ⟨(dput d r).s,o'⟩
  |_=>False
 | .gP f n caps=>k (dput d (.bI f n (caps.map λx=>(st.aT x).view)))
 | .extract x i=>match st.aT x with
  | .bY l=>match W7 l (i+1) with
   |true=>k (dput d (T5 l i).view)
   |false=>False
  |_=>False
 | .nil x=>match st.aT x with
  | .loc b off=>k (dput d (.loc b off))
  | .ref l=>k (dput d (.ref l))
  | .el b sz i off=>k (dput d (.el b sz i off))
  |_=>False
 | .gL e sz by_ z n=>match d,st.aT n with
  |some s,.val (.int .i64 m)=>match B63 n with
   |true=>match decide (0<=m),Ay (st.base+s) (st.ob.map Prod.fst),Nat.ble (m.toNat*by_) 140737488355328 && Nat.ble m.toNat 16777216 with
    |true,true,true=>k ⟨[(s,.vw true (st.base+s) e sz m.toNat)],[(st.base+s,(List.replicate m.toNat z).flatten)]⟩
    |_,_,_=>False
   |false=>match Ay (st.base+s) (st.ob.map Prod.fst),LX.lit e [z.map PV.view] with
    |true,some y=>match Nat.beq y.sz sz with
     |true=>gd (0<=m) (gd (m*(by_:Int)<=140737488355328) (gd (m<=9223372036854775807) (k ⟨[(s,.vw false (st.base+s) e sz m.toNat)],[(st.base+s,[.aX (y.rep m.toNat)])]⟩)))
     |false=>False
    |_,_=>False
  |_,_=>False
 | .gI e sz by_ n=>match d,st.aT n,LX.nil e with
  |some s,.val (.int .i64 m),some x=>match Nat.beq x.sz sz with
   |true=>gd (0<=m) (gd (m*(by_:Int)<=140737488355328) (gd (m<=(maxLen:Int)) (k ⟨[(s,.bA true x)],[]⟩)))
   |false=>False
  |_,_,_=>False
 | .gY sz x lo hi mx=>match st.aT x with
  | .bA _ y=>match Nat.beq sz y.sz,st.bnd y.len mx with
   |true,some m=>match st.bnd y.len hi with
    |some h=>match st.bnd 0 lo with
     |some l=>gd (0<=l) (gd (l<=h) (gd (h<=m) (gd (m<=(y.len:Int)) (k (dput d (.bA (mx.isSome && decide (m=0)) (y.sub l.toNat h.toNat)))))))
     |none=>False
    |none=>False
   |_,_=>False
  |_=>False
 | .gM x lo hi=>match st.aT x with
  | .val (.string s)=>match st.bnd s.size hi with
   |some h=>match st.bnd 0 lo with
    |some l=>gd (0<=l) (gd (l<=h) (gd (h<=(s.size:Int)) (k (dput d (.val (.string (s.extract l.toNat h.toNat)))))))
    |none=>False
   |none=>False
  |_=>False
 | .gB gk gv ks vs=>match d with
  |some s=>match Ay (st.base+s) (st.ob.map Prod.fst) with
   |true=>k ⟨[(s,.mp (st.base+s))],[(st.base+s,[.aO gk gv ks vs])]⟩
   |false=>False
  |none=>False
 | .lookup gq ts ok g z m q=>match st.aT m with
  | .mp b=>match Ay b ban,Biy (st.obj b),Aog gq ts (st.aT q) with
   |true,some (gk,gv,ks,vs),some c=>match A0m gq gk,LX.find ks c,A0m g gv with
    |true,some r,true=>fk r (λi=>k (dput d (match ok with|true=>.bY [mkP gv (vs.row i),.val (.bool true)]|false=>mkP gv (vs.row i))))
      (k (dput d (match ok with|true=>.bY [mkP g (z.map PV.view),.val (.bool false)]|false=>mkP g (z.map PV.view))))
    |_,_,_=>False
   |_,_,_=>False
  |_=>False
 | .fO gq ts m q v=>match st.aT m with
  | .mp b=>match st.obj b,Aog gq ts (st.aT q) with
   | [.aO gk gv ks vs],some ck=>match A0m gq gk,LX.find ks ck,Bbn gv (st.aT v) with
    |true,some r,some c=>fk r (λi=>match Nat.beq c.length vs.sz,LX.set vs i 0 c with
      |true,some vs'=>k ⟨[],[(b,[.aO gk gv ks vs'])]⟩
      |_,_=>False)
     (match LX.push ks ck,LX.push vs c with
      |some ks',some vs'=>k ⟨[],[(b,[.aO gk gv ks' vs'])]⟩
      |_,_=>False)
    |_,_,_=>False
   |_,_=>False
  |_=>False
 | .del gq ts m q=>match st.aT m with
  | .mp b=>match st.obj b,Aog gq ts (st.aT q) with
   | [.aO gk gv ks vs],some ck=>match A0m gq gk,LX.find ks ck with
    |true,some r=>fk r (λi=>match LX.cut ks i,LX.cut vs i with
      |some ks',some vs'=>k ⟨[],[(b,[.aO gk gv ks' vs'])]⟩
      |_,_=>False)
     (k ⟨[],[]⟩)
    |_,_=>False
   |_,_=>False
  |_=>False
 | .gG f args=>match Zw st args with
  |true=>X f (args.map λx=>(st.aT x).view) [] λr o'=>Bd1 r o' (k (dput d r))
  |false=>False
 | .ext sub x y c=>match st.aT x,st.aT y,st.aT c with
  | .val (.int _ a),.val (.int _ b),.val (.int _ n)=>gd (n<=1) (k (dput d (Bzv sub a b n)))
  |_,_,_=>False
 | .gU off sz g x=>match st.aT x with
  | .agg l=>match W7 l (off+sz) with
   |true=>k (dput d (mkP g ((l.drop off).take sz)))
   |false=>False
  |_=>False
 | .stop=>False
def So(P:Program)(C:Bc)(X:Inl)(ban:List Nat):List Hm->St->(St->Prop)->Prop
 | [],st,k=>k st
 |o::r,st,k=>match o.g with
  |none=>Ba P C X ban o.k o.dst st λδ =>So P C X ban r (st.app δ) k
  |some (s,want)=>match st.get s with
   | .val (.bool t)=>
    br t
    (match want with
     |true=>Ba P C X ban o.k o.dst (st.put s (.val (.bool true))) λδ =>So P C X ban r ((st.put s (.val (.bool true))).app δ) k
     |false=>So P C X ban r ((st.put s (.val (.bool true))).app (dput o.dst (.bY []))) k)
    (match want with
     |false=>Ba P C X ban o.k o.dst (st.put s (.val (.bool false))) λδ =>So P C X ban r ((st.put s (.val (.bool false))).app δ) k
     |true=>So P C X ban r ((st.put s (.val (.bool false))).app (dput o.dst (.bY []))) k)
   | .bY []=>So P C X ban r (st.app (dput o.dst (.bY []))) k
   |_=>False
def K.quiet:K->Bool
 | .move _| .eY _| .field .. | .load .. | .len _| .cap _| .dX .. | .gW .. | .index .. | .extract .. | .nil _| .call .. | .pick .. | .gM .. | .lookup .. | .ext .. | .gG .. =>true
 |_=>false
def Auk(s:Nat):List Hm->Option (List Hm×Nat×List Hm)
 | []=>none
 |eo::r=>match eo.k.quiet,eo.g with
  |true,some _=>match Auk s r with
   |some (B,pd,r')=>some (eo::B,pd,r')
   |none=>none
  |true,none=>match eo.k,eo.dst with
   | .pick (.tmp c) _ _,some pd=>match Nat.beq c s with
    |true=>some ([eo],pd,r)
    |false=>none
   |_,_=>none
  |false,_=>none
def A55:List Hm->List (Nat×PV)
 | []=> []
 |eo::r=>match eo.dst with
  |some d=>(d,.any)::A55 r
  |none=>A55 r
def stJ(st:St)(B:List Hm)(pd:Nat)(b:Bool):St:=st.app ⟨(pd,.val (.bool b))::A55 B,[]⟩
def jn{σ :Type}(X:(σ->Prop)->Prop)(j: σ->Prop):Prop:=X j
def A0e(pd:Nat)(j:Bool->Prop)(st:St):Prop:=match st.get pd with
 | .val (.bool b)=>j b
 |_=>False
def J3(P:Program)(C:Bc)(X:Inl):Nat->List Hm->St->(St->Prop)->Prop
 |_,[],st,k=>k st
 |0,_::_,_,_=>False
 |n+1,o::r,st,k=>match o.g with
  |none=>Ba P C X [] o.k o.dst st λδ =>J3 P C X n r (st.app δ) k
  |some (s,want)=>match st.get s with
   | .val (.bool t)=>match Auk s (o::r) with
    |some (B,pd,r')=>jn (λj=>br t (So P C X [] B (st.put s (.val (.bool true))) (A0e pd j)) (So P C X [] B (st.put s (.val (.bool false))) (A0e pd j)))
      (λb=>J3 P C X n r' (stJ st B pd b) k)
    |none=>br t
     (match want with
      |true=>Ba P C X [] o.k o.dst (st.put s (.val (.bool true))) λδ =>J3 P C X n r ((st.put s (.val (.bool true))).app δ) k
      |false=>J3 P C X n r ((st.put s (.val (.bool true))).app (dput o.dst (.bY []))) k)
     (match want with
      |false=>Ba P C X [] o.k o.dst (st.put s (.val (.bool false))) λδ =>J3 P C X n r ((st.put s (.val (.bool false))).app δ) k
      |true=>J3 P C X n r ((st.put s (.val (.bool false))).app (dput o.dst (.bY []))) k)
   | .bY []=>J3 P C X n r (st.app (dput o.dst (.bY []))) k
   |_=>False
def PV.safe0(D:Nat->Bool):PV->Bool
 | .any=>true
 | .val _=>true
 | .bA _ _=>true
 | .loc d _=> !(D d)
 | .el d _ _ _=> !(D d)
 | .vw _ d _ _ _=> !(D d)
 | .mp d=> !(D d)
 | .aX _=>true
 | .aO _ _ _ _=>true
 | .dG _ _ _ _ _ _=>true
 |_=>false
def As4(s:PV->Bool):List PV->Bool
 | []=>true
 |p::r=>match s p with
  |true=>As4 s r
  |false=>false
def Ba9(s:PV->Bool):List (List PV)->Bool
 | []=>true
 |p::r=>match As4 s p with
  |true=>Ba9 s r
  |false=>false
def PV.safeUp(s:PV->Bool):PV->Bool
 | .agg l=>As4 s l
 | .bY l=>As4 s l
 | .ref l=>As4 s l
 | .bI _ _ l=>As4 s l
 | .sl _ _ _ es=>Ba9 s es
 |p=>s p
def PV.safe(D:Nat->Bool)(p:PV):Bool:=PV.safeUp (PV.safeUp (PV.safeUp (PV.safe0 D))) p
def PV.clean(D:Nat->Bool)(p:PV):PV:=match p.safe D with
 |true=>p
 |false=>.any
def Bna(d:Nat):List Nat->List Nat
 | []=> [d]
 |b::r=>match Nat.blt d b,Nat.beq d b with
  |true,_=>d::b::r
  |false,true=>b::r
  |false,false=>b::Bna d r
def A5p:List Nat->List Nat
 | []=> []
 |d::r=>Bna d (A5p r)
def Apd(l:List (Nat×List PV)):List (Nat×List PV):=(A5p (l.map Prod.fst)).map λd=>(d,Dn [] l d)
def Cs(st:St):List Nat:=A5p (st.ob.map Prod.fst)
def keep(keys live:List Nat)(st:St):St:=
 { fr:=keys.map λs=>(s,(st.get s).clean λd=>Ay d live),ob:=live.map λd=>(d,(st.obj d).map λp=>p.clean λd=>Ay d live),base:=st.base }
def frF(st:St)(live:List Nat):List Nat->List (Nat×PV)
 | []=> []
 |s::r=>match (st.get s).clean λd=>Ay d live with
  | .any=>frF st live r
  |p=>(s,p)::frF st live r
def A70(keys live:List Nat)(st:St):St:=
 { fr:=frF st live keys,ob:=live.map λd=>(d,(st.obj d).map λp=>p.clean λd=>Ay d live),base:=st.base }
def PV.id0:PV->List Nat
 | .loc d _=> [d]
 | .el d _ _ _=> [d]
 | .vw _ d _ _ _=> [d]
 | .mp d=> [d]
 |_=> []
def A9v(f:PV->List Nat):List PV->List Nat
 | []=> []
 |p::r=>f p++A9v f r
def PV.idUp(f:PV->List Nat):PV->List Nat
 | .agg l=>A9v f l
 | .bY l=>A9v f l
 | .ref l=>A9v f l
 | .bI _ _ l=>A9v f l
 | .sl _ _ _ es=>A9v f es.flatten
 |p=>f p
def PV.ids(p:PV):List Nat:=PV.idUp (PV.idUp (PV.idUp PV.id0)) p
def Bzy(st:St):Nat->List Nat->List Nat->List Nat
 |0,_,seen=>seen
 |_+1,[],seen=>seen
 |n+1,d::todo,seen=>match Ay d seen with
  |true=>Bzy st n (A9v PV.ids (st.obj d)++todo) (d::seen)
  |false=>Bzy st n todo seen
def A90:Nat->List Nat->Bool
 |_,[]=>false
 |0,_::_=>true
 |n+1,_::r=>A90 n r
def gcF(b:Nat)(seen:List Nat):List Nat->List Nat
 | []=> []
 |d::r=>match Nat.blt d b,Ay d seen with
  |false,true=>gcF b seen r
  |_,_=>d::gcF b seen r
def Bgh(st:St):List Nat->List Nat
 | []=> []
 |d::r=>match Nat.blt d st.base with
  |true=>A9v PV.ids (st.obj d)++Bgh st r
  |false=>Bgh st r
def gcK(keys:List Nat)(st:St):List Nat:=match A90 7 (Cs st) with
 |false=>Cs st
 |true=>gcF st.base (Bzy st 200 (A9v PV.ids (keys.map st.get)++Bgh st (Cs st)) []) (Cs st)
theorem Bij{b:Nat}{seen:List Nat} :∀ {l:List Nat} {d:Nat},d∈l->d<b->d∈gcF b seen l
 |x::l,d,h,hb=>by
  unfold gcF;rcases List.mem_cons.1 h with rfl|h
  ·have:Nat.blt d b=true:=Nat.ble_eq_true_of_le hb;rw[this];exact List.mem_cons_self
  ·have ih:=Bij (seen:=seen) h hb;split
   ·exact ih
   ·exact List.mem_cons_of_mem _ ih
theorem Br8{keys:List Nat}{st:St}{d:Nat}(h:d∈Cs st)(hb:d<st.base):d∈gcK keys st:=by
 unfold gcK;split
 ·exact h
 ·exact Bij h hb
def Aot(b:Nat):List Nat->List Nat
 | []=> []
 |a::r=>match Nat.beq a b with
  |true=>Aot b r
  |false=>a::Aot b r
def St.frz1(st:St)(t:Nat):St:=match st.get t with
 | .vw false b _ _ _=>match st.obj b,Nat.ble st.base b with
  | [.aX y],true=>(A70 (st.fr.map Prod.fst) (Aot b (Cs st)) st).app ⟨[(t,.bA false y)],[]⟩
  |_,_=>st
 |_=>st
def St.frzL(st:St):List Nat->St
 | []=>st
 |t::r=>St.frzL (st.frz1 t) r
def St.vwL(st:St):List Nat->St
 | []=>st
 |t::r=>St.vwL (st.app ⟨[(t,(st.get t).view)],[]⟩) r
def Hf(f:St->(Ex->St->Prop)->Prop)(keys live:List Nat)(k:Ex->St->Prop):Ex->St->Prop:=λe st'=>match e with
 | .normal=>f (keep keys live st') k
 | .exit i=>k (.exit i) (keep keys live st')
 | .ret=>k .ret (keep keys live st')
def Io(body:St->(Ex->St->Prop)->Prop)(keys live:List Nat):Nat->St->(Ex->St->Prop)->Prop
 |0,_,_=>False
 |n+1,st,k=>body st (Hf (Io body keys live n) keys live k)
def Bto(f:St->(Ex->St->Prop)->Prop)(keys:List Nat)(k:Ex->St->Prop):Ex->St->Prop:=λe st'=>match e with
 | .normal=>f (A70 keys (Cs st') st') k
 | .exit i=>k (.exit i) st'
 | .ret=>k .ret st'
def A38(body:St->(Ex->St->Prop)->Prop)(keys:List Nat):Nat->St->(Ex->St->Prop)->Prop
 |0,_,_=>False
 |n+1,st,k=>body st (Bto (A38 body keys n) keys k)
def An4(st:St):List (Nat×Nat)->Bool
 | []=>true
 |(a,b)::r=>match st.get a,st.get b with
  | .loc d _,.loc d' _=>match Nat.beq d d' with
   |true=>false
   |false=>An4 st r
  |_,_=>false
def Qr(f:St->(Ex->St->Prop)->Prop)(k:Ex->St->Prop):Ex->St->Prop:=λe st'=>match e with
 | .normal=>f st' k
 | .exit i=>k (.exit i) st'
 | .ret=>k .ret st'
def Gi(id:Nat)(k:Ex->St->Prop):Ex->St->Prop:=λe st'=>match e with
 | .exit i=>match Nat.beq i id with
  |true=>k .normal st'
  |false=>k (.exit i) st'
 | .normal=>k .normal st'
 | .ret=>k .ret st'
def A0h:List (Nat×List PV)->Nat
 | []=>0
 |(d,_)::r=>match Nat.ble (A0h r) d with
  |true=>d+1
  |false=>A0h r
def Arj(l:List (Nat×List PV)):Nat:=A0h l+1000
def Ba6(f:St->(Ex->St->Prop)->Prop)(n d:Nat)(O:List PV)(V:PV)(gk gv:Bool)(ks vs:LX)(it nx more pair:Nat)(keys live:List Nat):Nat->List Nat->St->(St->Prop)->Prop
 |0,_,_,_=>False
 |L+1,S,st,k=>((∀i,i<ks.len->i∈S)->k (st.app ⟨[(more,.val (.bool false)),(nx,.any)],[]⟩))/\
  ∀i,i<ks.len->i∉S->f (st.app ⟨[(pair,.bY [mkP gk (ks.row i),mkP gv (vs.row i)]),(more,.val (.bool true)),(nx,.any)],[]⟩)
   λe st'=>(e=.normal\/e=.exit n)/\st'.obj d=O/\st'.get it=V/\Ba6 f n d O V gk gv ks vs it nx more pair keys live L (i::S) (keep keys live st') k
def Bu9(st:St)(d it:Nat)(O:List PV)(V:PV)(keys:List Nat):St:= { keep keys (Cs st) (st.app ⟨[(it,V)],[(d,O)]⟩)with base:=Arj st.ob }
def Bgw(st:St)(d it base:Nat)(keys live:List Nat)(O:List PV):St:= { keep keys live (st.app ⟨[(it,.any)],[(d,O)]⟩)with base:=base }
def B2g(f:St->(Ex->St->Prop)->Prop)(n d:Nat)(gk gv:Bool)(ks vs:LX)(it nx more pair:Nat)(keys:List Nat)(L:Nat)(st:St)(k:St->Prop):Prop:=
 ∃stF,(∀es clock r,Ba6 f n d [.dG es clock gk gv ks vs] (.val (.pointer (some ⟨r,0,none⟩))) gk gv ks vs it nx more pair keys (Cs st) L []
  (Bu9 st d it [.dG es clock gk gv ks vs] (.val (.pointer (some ⟨r,0,none⟩))) keys) (λst'=>Bgw st' d it st.base keys (Cs st) [.aO gk gv ks vs]=stF))/\k stF
def Bgy(f:St->(Ex->St->Prop)->Prop)(n:Nat)(m:Operand)(it nx more pair:Nat)(keys:List Nat)(L:Nat)(st:St)(k:St->Prop):Prop:=match st.aT m with
 | .mp d=>match st.obj d with
  | [.aO gk gv ks vs]=>B2g f n d gk gv ks vs it nx more pair keys L st k
  |_=>False
 |_=>False
def evC(P:Program)(C:Bc)(X:Inl)(L:Nat):EC->St->(Ex->St->Prop)->Prop
 | .skip,st,k=>k .normal st
 | .region ban ap l,st,k=>match An4 st ap with
  |true=>So P C X (ban.map (st.base+ ·)) l st λst'=>k .normal st'
  |false=>False
 | .gT l,st,k=>J3 P C X l.length l st λst'=>k .normal st'
 | .seq a b,st,k=>evC P C X L a st (Qr (evC P C X L b) k)
 | .cond c a b,st,k=>match st.aT c with
  | .val (.bool t)=>br t (evC P C X L a st k) (evC P C X L b st k)
  |_=>False
 | .block id b,st,k=>evC P C X L b st (Gi id k)
 | .loop keys b,st,k=>Io (evC P C X L b) keys (gcK keys st) L (keep keys (gcK keys st) st) k
 | .gJ keys b,st,k=>A38 (evC P C X L b) keys L st k
 | .exit id,st,k=>k (.exit id) st
 | .ret,st,k=>k .ret st
 | .kp keys,st,k=>k .normal (A70 keys (Cs st) st)
 | .iE ts,st,k=>k .normal (st.frzL ts)
 | .iC ts,st,k=>k .normal (st.vwL ts)
 | .iB pre m it nx more pair keys asg b n,st,k=>J3 P C X pre.length pre st λst1=>Bgy (λst k=>J3 P C X asg.length asg st λst'=>evC P C X L b st' k) n m it nx more pair keys L st1 λst'=>k .normal st'
 | .stop,_,_=>False
def H4(P:Program)(t:Nat):Bool:=match P.underlying t with
 |some (.struct _)|some (.array _ _)=>true
 |_=>false
def Aje(P:Program)(t:Nat):Bool:=match P.underlying t with
 |some (.slice _)=>true
 |_=>false
def szT(P:Program)(t:Nat):Option Nat:=(P.info? t).map (·.size)
def Awz(P:Program)(t:Nat):Option (List Value):=((P.info? t).bind (·.zero)).map λv=>v.cells.toList
def Bif(P:Program)(t:Nat):Option (List (Nat×Nat)):=match P.underlying t with
 |some (.struct fs)=>fs.toList.mapM λf=>(P.info? f.type).map λi=>(f.offset,i.size)
 |some (.array n e)=>(P.info? e).map λi=>(List.range n).map λk=>(k*i.size,i.size)
 |_=>none
def Bwk(P:Program):Nat->Nat->List (Option Nat)
 |0,_=> [none]
 |n+1,t=>match P.underlying t with
  |some (.slice e)=> [some e]
  |some (.struct fs)=>fs.toList.flatMap λf=>Bwk P n f.type
  |some (.array k e)=>(List.replicate k (Bwk P n e)).flatten
  |_=> [none]
def Bjh:Option Nat->Value->PV
 |some e,.slice none 0 0=>match LX.nil e with
  |some x=>.bA true x
  |none=>.val (.slice none 0 0)
 |_,v=>.val v
def Azh:List (Option Nat)->List Value->List PV
 |_,[]=> []
 | [],v::vs=>.val v::Azh [] vs
 |o::os,v::vs=>Bjh o v::Azh os vs
def Aqx:List Value->Bool
 | []=>true
 |v::r=>match Ayw v with
  |true=>Aqx r
  |false=>false
def Awy(P:Program)(t:Nat):Option (List PV):=match Awz P t with
 |some z=>match Aqx z with
  |true=>some (Azh (Bwk P 8 t) z)
  |false=>none
 |none=>none
def Bo5(b:Bool)(P:Program)(t:Nat):Option (List PV):=match b with
 |false=>Awy P t
 |true=>match Awz P t with
  |some z=>match Aqx z with
   |true=>some (Azh [] z)
   |false=>none
  |none=>none
def Bo4(P:Program)(t:Nat)(g:Bool):Bool:=match (P.info? t).bind (·.zero) with
 |some (.agg _)=>g
 |some (.tuple _)=>false
 |some _=> !g
 |none=>false
def Ayz(fs:List (Nat×Nat)):List (Nat×Operand)->Option (List (Nat×Nat×Operand))
 | []=>some []
 |(i,x)::r=>match fs[i]?,Ayz fs r with
  |some (off,sz),some l=>some ((off,sz,x)::l)
  |_,_=>none
def Aq7(i:Nat):List (Nat×Operand)->Option (List Operand)
 | []=>some []
 |(j,x)::r=>match Nat.beq i j,Aq7 (i+1) r with
  |true,some l=>some (x::l)
  |_,_=>none
def Asl(P:Program)(t:Nat):Option Nat:=match P.underlying t with
 |some .bool=>some 0
 |some (.int _)=>some 1
 |some .string=>some 2
 |_=>none
def Atv(P:Program):List Field->Option (List (Nat×Nat))
 | []=>some []
 |f::r=>match f.name == "_",Asl P f.type,Atv P r with
  |false,some tag,some l=>some ((tag,f.offset)::l)
  |_,_,_=>none
def A5o:Nat->List (Nat×Nat)->Bool
 |_,[]=>true
 |k,(_,o)::r=>match Nat.beq o k with
  |true=>A5o (k+1) r
  |false=>false
def Az2(tag:Nat):List Nat->List (Nat×Nat)
 | []=> []
 |k::r=>(tag,k)::Az2 tag r
def Aod(P:Program)(t:Nat):Option (List (Nat×Nat)):=match P.underlying t with
 |some (.struct fs)=>match P.stoodInHeld t,P.eqGuardType P.depth t with
  |false,false=>Atv P fs.toList
  |_,_=>none
 |some (.array n e)=>match Asl P e,Nat.beq (P.cellsOf e) 1 && (P.info? e).isSome,P.eqGuardType P.depth t with
  |some tag,true,false=>some (Az2 tag (List.range n))
  |_,_,_=>none
 |_=>none
def Agp(P:Program)(t:Nat):Option (Bool×List (Nat×Nat)):=match Asl P t with
 |some tag=>some (false,[(tag,0)])
 |none=>match Aod P t with
  |some (x::r)=>match A5o 0 (x::r) with
   |true=>some (true,x::r)
   |false=>none
  |_=>none
def K6(P:Program)(f:Nat):Bool:=match P.funcs[f]? with
 |some fn=> !(fn.name == "runtime.NumGoroutine") && fn.body.isSome
 |none=>false
def Bmh(P:Program)(f:Nat):Option Bool:=match P.funcs[f]? with
 |some fn=>match fn.body.isNone && decide (fn.origin= ""),decide (fn.name= "math/bits.Add64"),decide (fn.name= "math/bits.Sub64") with
  |true,true,_=>some false
  |true,false,true=>some true
  |_,_,_=>none
 |none=>none
def Bga:Operand->Bool
 | .const (.slice none 0 0)=>true
 |_=>false
def B7a(P:Program)(t:Nat):Option Nat:=match P.underlying t with
 |some (.slice e)=>match LX.nil e with
  |some _=>some e
  |none=>none
 |_=>none
def Bl7(s:Nat):List Operand->Nat
 | []=>0
 | .tmp t::r=>match Nat.beq s t with
  |true=>1+Bl7 s r
  |false=>Bl7 s r
 |_::r=>Bl7 s r
def Bl8(s:Nat):List Oper->Nat
 | []=>0
 |o::r=>Bl7 s o.op.operands.toList+Bl8 s r
def Bfp(s:Nat):Code->Nat
 | .region _ os _=>Bl8 s os.toList
 | .seq a b=>Bfp s a+Bfp s b
 | .cond c a b=>Bl7 s [c]+Bfp s a+Bfp s b
 | .block _ b=>Bfp s b
 | .loop b=>Bfp s b
 | .skip=>0
 | .exit _=>0
 | .ret=>0
 |_=>2
def A88(s:Nat):List Oper->Bool
 | []=>false
 |o::r=>match o.op with
  | .call { callee:=.builtin .append,args,argTypes:=_ } =>match args.toList with
   | .tmp t::_=>match Nat.beq s t with
    |true=>true
    |false=>A88 s r
   |_=>A88 s r
  |_=>A88 s r
def Bfj(s:Nat):Code->Bool
 | .region _ os _=>A88 s os.toList
 | .seq a b=>match Bfj s a with
  |true=>true
  |false=>Bfj s b
 | .cond _ a b=>match Bfj s a with
  |true=>true
  |false=>Bfj s b
 | .block _ b=>Bfj s b
 | .loop b=>Bfj s b
 |_=>false
def Bxf(c:Code):Nat->Nat
 |0=>0
 |n+1=>(match Nat.beq (Bfp n c) 1,Bfj n c with
  |true,true=>(1 <<< (2*n)) ||| (1 <<< (2*n+1))
  |true,false=>1 <<< (2*n)
  |_,_=>0) ||| Bxf c n
def Bba:Operand->Operand->Bool
 | .tmp a,.tmp b=>Nat.beq a b
 | .const (.int .i64 a),.const (.int .i64 b)=>decide (a=b)
 |_,_=>false
def Bbp:Operand->Bool
 | .const (.int .i64 a)=>decide (a=0)
 |_=>false
def Bkf(P:Program)(x:Operand)(ty:Nat)(k:K):K:=match Bga x,B7a P ty with
 |true,some e=>.gF e
 |_,_=>k
def A8v(P:Program)(ty:Nat)(x:Operand):K:=match Aje P ty,x with
 |true,.tmp s=>.take s
 |_,x=>.move x
def mvB(once d:Nat):Bool:=match Nat.testBit once (2*d+1) with
 |true=>true
 |false=>Nat.testBit once 40006 && Nat.testBit once (2*d)
def A76(P:Program)(once ty:Nat)(dst:Option Nat)(x:Operand):K:=match Aje P ty,x,dst with
 |true,.tmp s,some d=>match mvB once d with
  |true=>.take s
  |false=>.move (.tmp s)
 |_,x,_=>.move x
def Bdg(P:Program)(once t:Nat)(dst:Option Nat)(g:Bool)(sz:Nat)(x:Operand):K:=match Aje P t,dst with
 |true,some s=>match Nat.testBit once (2*s+1) with
  |true=>.loadT x
  |false=>.load g sz x
 |_,_=>.load g sz x
def Bhc(P:Program)(once t sz:Nat)(a x:Operand):K:=match Aje P t,x with
 |true,.tmp s=>match Nat.testBit once (2*s),Nat.beq sz 1 with
  |true,true=>.storeT a s
  |_,_=>.store sz a x
 |_,_=>.store sz a x
def Bl5(once:Nat)(d:Option Nat):Bool:=Nat.testBit once 40001 && !(match d with|some d=>Nat.testBit once (2*d+1)|none=>false)
def cOp(P:Program)(inl:Nat->Bool)(once:Nat)(o:Oper):K:=
 match o.op with
 | .move x=>Bkf P x o.type (A76 P once o.type o.dst x)
 | .assign x=>Bkf P x o.type (A8v P o.type x)
 | .pick c a b=>.pick c a b
 | .alloc t=>match Awy P t with
  |some z=>.alloc z
  |none=>.stop
 | .box _ x=>.box x
 | .build t parts=>match Bo5 (Nat.testBit once 40005) P t,Bif P t with
  |some z,some fs=>match Ayz fs parts.toList with
   |some l=>.build z l
   |none=>.stop
  |_,_=>.stop
 | .buildSlice t n parts=>match P.underlying t with
  |some (.slice e)=>match szT P e,Awz P e,Aq7 0 parts.toList with
   |some sz,some z,some l=>match Nat.beq l.length n,Nat.ble (n*sz) 16777216,Nat.beq z.length sz,Nat.ble 1 sz with
    |true,true,true,true=>.fP e sz l
    |_,_,_,_=>.stop
   |_,_,_=>.stop
  |_=>.stop
 | .load t x=>match P.underlying t,szT P t with
  |some _,some sz=>match H4 P t,Nat.beq sz 1 with
   |false,false=>.stop
   |false,true=>Bdg P once t o.dst false sz x
   |true,_=>Bdg P once t o.dst true sz x
  |_,_=>.stop
 | .store t a x=>match o.dst,szT P t with
  |none,some sz=>Bhc P once t sz a x
  |_,_=>.stop
 | .fieldAddr t x f=>match P.underlying t with
  |some (.struct fs)=>match fs[f]? with
   |some fd=>match szT P fd.type with
    |some (_+1)=>.field fd.offset x
    |_=>.stop
   |none=>.stop
  |_=>.stop
 | .indexAddr t x i=>match P.underlying t with
  |some (.slice e)=>match szT P e with
   |some sz=>.index sz x i
   |none=>.stop
  |_=>.stop
 | .extract x i=>.extract x i
 | .nilCheck x=>.nil x
 | .makeFunc (.func f) first caps=>match K6 P f with
  |true=>.gP f first.size (first.toList++caps.toList)
  |false=>.stop
 | .makeSlice t l c=>match P.underlying t with
  |some (.slice e)=>match P.info? e,szT P e,Awy P e with
   |some i,some sz,some z=>match Nat.beq z.length sz,Nat.ble 1 sz,Bba l c,Bbp l with
    |true,true,true,_=>.gL e sz i.bytes z l
    |true,true,false,true=>.gI e sz i.bytes c
    |_,_,_,_=>.stop
   |_,_,_=>.stop
  |_=>.stop
 | .slice t x lo hi mx=>match P.underlying t with
  |some .string=>match mx with
   |none=>.gM x lo hi
   |some _=>.stop
  |some (.slice e)=>match szT P e,(match mx,hi with|some _,none=>false|_,_=>true) with
   |some sz,true=>.gY sz x lo hi mx
   |_,_=>.stop
  |_=>.stop
 | .makeMap t none=>match P.underlying t with
  |some (.map ek ev)=>match LX.nil ek,LX.nil ev with
   |some x,some y=>.gB (H4 P ek) (H4 P ev) x y
   |_,_=>.stop
  |_=>.stop
 | .lookup t m q ok=>match P.underlying t with
  |some (.map ek ev)=>match Agp P ek,Awy P ev with
   |some (gq,ts),some z=>match Bo4 P ev (H4 P ev) with
    |true=>.lookup gq ts ok (H4 P ev) z m q
    |false=>.stop
   |_,_=>.stop
  |_=>.stop
 | .mapUpdate t m q v=>match P.underlying t,o.dst with
  |some (.map ek ev),none=>match Agp P ek with
   |some (gq,ts)=>.fO gq ts m q v
   |none=>.stop
  |_,_=>.stop
 | .call { callee:=.value (.func f),args,argTypes:=_ } =>match K6 P f with
  |true=>match inl f with
   |true=>match inl (4398046511104+f) with
    |true=>.gG f args.toList
    |false=>.fT f args.toList
   |false=>.call f args.toList
  |false=>match Bmh P f,args.toList with
   |some b,[x,y,c]=>.ext b x y c
   |_,_=>.stop
 | .call { callee:=.builtin .delete,args,argTypes } =>match o.dst,args.toList,argTypes.toList with
  |none,[m,q],t::_=>match P.underlying t with
   |some (.map ek _)=>match Agp P ek with
    |some (gq,ts)=>.del gq ts m q
    |none=>.stop
   |_=>.stop
  |_,_,_=>.stop
 | .call { callee:=.value (.tmp x),args,argTypes:=_ } =>.fV (.tmp x) args.toList
 | .call { callee:=.builtin .len,args,argTypes } =>match args.toList,argTypes.toList with
  | [x],[t]=>match Aje P t with
   |true=>.len x
   |false=>.eY o
  |_,_=>.stop
 | .call { callee:=.builtin .cap,args,argTypes } =>match args.toList,argTypes.toList with
  | [x],[t]=>match Aje P t with
   |true=>.cap x
   |false=>.stop
  |_,_=>.stop
 | .call { callee:=.builtin .append,args,argTypes } =>match args.toList,argTypes.toList with
  | [.tmp s,x],[t,t']=>match Nat.beq t t',P.underlying t with
   |true,some (.slice e)=>match P.info? e with
    |some i=>match i.zero with
     |some z=>match Nat.beq z.cells.size i.size,Nat.ble 1 i.size with
      |true,true=>match Bl5 once o.dst && !(inl (2199023255552+e)) with
       |true=>.clone (Nat.testBit once 40002) e i.size i.bytes s x
       |false=>.app e i.size i.bytes s x
      |_,_=>.stop
     |none=>.stop
    |none=>.stop
   |_,_=>.stop
  |_,_=>.stop
 | .call { callee:=.builtin .min,args:=_,argTypes:=_ } | .call { callee:=.builtin .max,args:=_,argTypes:=_ } =>.eY o
 | .binOp b t x y _=>match H4 P t with
  |false=>match b,P.underlying t with
   | .quo,some (.int _)=>.dX 0 x y
   | .rem,some (.int _)=>.dX 1 x y
   | .shl,some (.int _)=>.dX 2 x y
   | .shr,some (.int _)=>.dX 3 x y
   | .add,some .string=>.dX 4 x y
   | .eql,some (.slice _)=>.dX 6 x y
   | .neq,some (.slice _)=>.dX 7 x y
   |_,_=>.eY o
  |true=>match b,Aod P t with
   | .eql,some ts=>.gW false ts x y
   | .neq,some ts=>.gW true ts x y
   |_,_=>.stop
 | .unOp .. | .convert .. =>.eY o
 | .index t x i=>match P.underlying t with
  |some .string=>.dX 5 x i
  |_=>.stop
 |_=>.stop
def Atp(os:Array Oper):Option (Nat×Bool)->Option (Option (Nat×Bool))
 |none=>some none
 |some (j,w)=>match (os[j]?).bind (·.dst) with
  |some s=>some (some (s,w))
  |none=>none
def Avh(P:Program)(inl:Nat->Bool)(once:Nat)(os:Array Oper):List Oper->Option (List Hm)
 | []=>some []
 |o::r=>match Atp os o.guard,Avh P inl once os r with
  |some g,some l=>some (⟨o.dst,g,cOp P inl once o⟩::l)
  |_,_=>none
def K.fG:K->Bool
 | .alloc _| .box _| .load .. | .loadT .. | .store .. | .storeT .. | .call .. | .fT .. | .fV .. | .gL .. | .clone .. | .gB .. | .lookup .. | .fO .. | .del .. =>true
 |_=>false
def K.dJ:K->Bool
 | .store .. | .storeT .. | .loadT .. | .fT .. | .fV .. | .fO .. | .del .. =>true
 |_=>false
def K.gQ:K->Bool
 | .fT .. | .fV .. =>true
 |_=>false
def K.makes:K->Bool
 | .alloc _| .box _| .gL .. | .clone .. | .gB .. =>true
 |_=>false
def Af3:List Operand->List Nat
 | []=> []
 | .tmp t::r=>t::Af3 r
 |_::r=>Af3 r
def Bgm:Option Operand->List Operand
 |some x=> [x]
 |none=> []
def K.cK:K->List Operand
 | .move x| .box x| .load _ _ x| .loadT x| .field _ x| .len x| .cap x| .extract x _| .nil x| .gU _ _ _ x=> [x]
 | .take s=> [.tmp s]
 | .pick c a b=> [c,a,b]
 | .alloc _| .gF _| .gB .. | .stop=> []
 | .build _ ps=>ps.map λp=>p.2.2
 | .fP _ _ ps=>ps
 | .store _ a x| .index _ a x| .gW _ _ a x| .dX _ a x| .del _ _ a x| .lookup _ _ _ _ _ a x=> [a,x]
 | .storeT a s=> [a,.tmp s]
 | .fO _ _ m q v=> [m,q,v]
 | .ext _ x y c=> [x,y,c]
 | .eY o=>o.op.operands.toList
 | .app _ _ _ s x| .clone _ _ _ _ s x=> [.tmp s,x]
 | .call _ args| .fT _ args| .gG _ args| .gP _ _ args=>args
 | .fV x args=>x::args
 | .gL _ _ _ _ n| .gI _ _ _ n=> [n]
 | .gY _ x lo hi mx=>x::(Bgm lo++Bgm hi++Bgm mx)
 | .gM x lo hi=>x::(Bgm lo++Bgm hi)
def Hm.reads(o:Hm):List Nat:=Af3 o.k.cK++(match o.g with|some (s,_)=> [s]|none=> [])
def Hm.writes(o:Hm):List Nat:=(match o.dst with|some d=> [d]|none=> [])++(match o.k with| .take s=> [s]| .app _ _ _ s _=> [s]| .clone _ _ _ _ s _=> [s]| .storeT _ s=> [s]|_=> [])
def Arh(a b:List Nat):Bool:=a.any λx=>b.any λy=>Nat.beq x y
def K.addr:K->Option Nat
 | .load _ _ (.tmp a)=>some a
 | .loadT (.tmp a)=>some a
 | .store _ (.tmp a) _=>some a
 | .storeT (.tmp a) _=>some a
 |_=>none
def Ajd(a b:Nat):List (Nat×Nat)->Bool
 | []=>false
 |(c,d)::r=>(Nat.beq a c && Nat.beq b d) || (Nat.beq a d && Nat.beq b c) || Ajd a b r
def Zx(ap:List (Nat×Nat))(x y:Hm):Bool:=match x.k.addr,y.k.addr with
 |some a,some b=>Ajd a b ap
 |_,_=>false
def K.isLoad:K->Bool
 | .load .. =>true
 | .call .. =>true
 |_=>false
def K.fD:K->Bool
 | .loadT _=>true
 |_=>false
def A3j(fx:Bool)(x:K)(fy:Bool)(y:K):Bool:=((x.fD || fx) && y.isLoad) || (x.isLoad && (y.fD || fy))
def Y8(ap:List (Nat×Nat))(fx:Bool)(x:Hm)(fy:Bool)(y:Hm):Bool:=
 Arh x.writes y.reads || Arh x.writes y.writes || Arh x.reads y.writes || (((x.k.dJ && y.k.fG) || (x.k.fG && y.k.dJ)) && !Zx ap x y && !A3j fx x.k fy y.k)
def S7(a:Nat):List Hm->Bool
 | []=>true
 |e::r=>match Ay a e.writes with
  |true=>S7 a r
  |false=>false
def A86:List Hm->List Nat
 | []=> []
 |e::r=>match e.k.addr with
  |some a=>a::A86 r
  |none=>A86 r
def Ayx(l:List Hm)(a:Nat):List Nat->List (Nat×Nat)
 | []=> []
 |b::r=>match Nat.beq a b,S7 b l with
  |false,true=>(a,b)::Ayx l a r
  |_,_=>Ayx l a r
def Azg(l:List Hm):List Hm->List (Nat×Nat)
 | []=> []
 |e::r=>match e.k.dJ,e.k.addr with
  |true,some a=>match S7 a l with
   |true=>Ayx l a (A86 l)++Azg l r
   |false=>Azg l r
  |_,_=>Azg l r
def Ai4(l:List Hm):List (Nat×Nat)->Bool
 | []=>true
 |(a,b)::r=>S7 a l && S7 b l && Ai4 l r
def Agn(o:Oper):List Nat:=(o.after.toList.filter λe=>Region.binds .any e).map (·.on)
def A4l(acc:List Nat):List Nat->Nat
 | []=>0
 |e::r=>(1 <<< e) ||| (acc.getD e 0) ||| A4l acc r
def Bqy:List Oper->List Nat->List Nat
 | [],acc=>acc
 |o::r,acc=>Bqy r (acc++ [A4l acc (Agn o)])
def below(n:Nat)(p:Nat->Bool):Bool:=match n with
 |0=>true
 |n+1=>match p n with
  |true=>below n p
  |false=>false
def Hm.mkAt(a:Nat)(e:Hm):Bool:=match e.k,e.g,e.dst with
 | .alloc _,none,some d=>Nat.beq d a
 | .box _,none,some d=>Nat.beq d a
 |_,_,_=>false
def B7v(l:List Hm)(a k:Nat):Bool:=below l.length λj=>Nat.beq j k || (match l[j]? with|some e=>Ay a e.writes|none=>true)
def C6(l:List Hm)(j:Nat):Bool:=match l[j]? with
 |some e=>e.k.dJ && !e.k.fD && (match e.k.addr with
  |some a=> !(below j λk=> !(match l[k]? with|some e'=>e'.mkAt a && B7v l a k|none=>false))
  |none=>false)
 |none=>false
def Bnu(ap:List (Nat×Nat))(l:List Hm)(A:List Nat)(i j:Nat):Bool:=match l[i]?,l[j]? with
 |some x,some y=>match Y8 ap (C6 l i) x (C6 l j) y with
  |true=>Nat.testBit (A.getD j 0) i
  |false=>true
 |_,_=>true
def Aob(j:Nat):List Nat->Bool
 | []=>true
 |e::r=>match Nat.blt e j with
  |true=>Aob j r
  |false=>false
def Atr(ap:List (Nat×Nat))(os:List Oper)(l:List Hm):Bool:=
 Ai4 l ap && below os.length λj=>below j (λi=>Bnu ap l (Bqy os []) i j) && (match os[j]? with|some o=>Aob j (Agn o)|none=>true)
def Abp(nt:Nat):List Hm->Bool
 | []=>true
 |o::r=>match o.dst with
  |some d=>match Nat.blt d nt with
   |true=>Abp nt r
   |false=>false
  |none=>Abp nt r
def B0d(d:Nat)(l:List Nat):List Nat:=match Ay d l with
 |true=>l++ [d]
 |false=>l
def Bje:List Oper->List Nat->List Nat
 | [],l=>l
 |o::r,l=>Bje r (match o.op,o.dst with
  | .assign _,some d=>B0d d l
  | .alloc _,some d=>B0d d l
  | .box _ _,some d=>B0d d l
  |_,_=>l)
def Aij:Code->List Nat->List Nat
 | .region _ os _,l=>Bje os.toList l
 | .seq a b,l=>Aij b (Aij a l)
 | .cond _ a b,l=>Aij b (Aij a l)
 | .block _ b,l=>Aij b l
 | .loop b,l=>Aij b l
 |_,l=>l
def A4m:List Oper->List Nat
 | []=> []
 |o::r=>match o.op,o.dst with
  | .move _,some d=>d::A4m r
  |_,_=>A4m r
def Ach:Code->List Nat
 | .region _ os _=>A4m os.toList
 | .seq a b=>Ach a++Ach b
 | .cond _ a b=>Ach a++Ach b
 | .block _ b=>Ach b
 | .loop b=>Ach b
 |_=> []
def Bfr:List Nat->List Nat
 | []=> []
 |d::r=>match Ay d r with
  |true=>Bfr r
  |false=>d::Bfr r
def Aft:List Hm->List Nat
 | []=> []
 |o::r=>match o.k.makes,o.dst with
  |true,some d=>d::Aft r
  |_,_=>Aft r
def A75:List Nat->Nat
 | []=>0
 |s::r=>(1 <<< s) ||| A75 r
def Bxd:List Oper->Nat
 | []=>0
 |o::r=>A75 (Af3 o.op.operands.toList) ||| (match o.dst with|some d=>1 <<< d|none=>0) ||| Bxd r
def Ge:Code->Nat
 | .region _ os _=>Bxd os.toList
 | .seq a b=>Ge a ||| Ge b
 | .cond c a b=>A75 (Af3 [c]) ||| Ge a ||| Ge b
 | .block _ b=>Ge b
 | .loop b=>Ge b
 |_=>0
def Biz:List ResultVar->Nat
 | []=>0
 | .tmp t::r=>(1 <<< t) ||| Biz r
 | .cell t _::r=>(1 <<< t) ||| Biz r
def Aif:List ResultVar->List Nat
 | []=> []
 | .tmp t::r=>t::Aif r
 | .cell t _::r=>t::Aif r
def Im(nt:Nat)(V:List Nat)(out body:Nat):List Nat:=
 (List.range nt).filter λs=>Nat.testBit out s && (Nat.testBit body s || !(Ay s V))
def Aox:Code->Bool
 | .exit _=>true
 | .ret=>true
 | .skip=>true
 |_=>false
def Bxc(nt m:Nat):List Nat:=(List.range nt).filter λs=>Nat.testBit m s
def Bmn:List Hm->List Nat->List Nat
 | [],acc=>acc
 |o::r,acc=>Bmn r (match o.k,o.dst with
  | .fP _ _ ps,_=>Af3 ps++acc
  | .call _ args,_=>Af3 args++acc
  | .move (.tmp s),some d=>match Ay d acc with
   |true=>acc
   |false=>s::Aot d acc
  | .take s,some d=>match Ay d acc with
   |true=>acc
   |false=>s::Aot d acc
  |_,_=>acc)
structure Bfg where
 t:Nat
 os1:Array Oper
 pre:List Oper
 m:Operand
 it:Nat
 nx:Nat
 more:Nat
 pair:Nat
 n:Nat
 os3:Array Oper
 rest:List Oper
def Bi5(os1 os2 os3:Array Oper)(mo n:Nat):Option Bfg:=match os1.toList.reverse,os2.toList,os3.toList with
 |⟨some it,.range t m,_,_,_,none⟩::pre,[⟨some nx,.next (.tmp it') false,_,_,_,none⟩,⟨some mo',.extract (.tmp nx') 0,_,_,_,none⟩],⟨some pair,.entry (.tmp it''),_,_,_,none⟩::rest=>
  match Nat.beq it it' && Nat.beq it it'' && Nat.beq nx nx' && Nat.beq mo mo' && !Nat.beq it nx && !Nat.beq it mo with
  |true=>some ⟨t,os1,pre.reverse,m,it,nx,mo,pair,n,os3,rest⟩
  |false=>none
 |_,_,_=>none
def Bek:Code->Code->Option Bfg
 | .region _ os1 false,.block o (.loop (.seq (.region _ os2 false) (.seq (.cond (.tmp mo) .skip (.exit o')) (.block n (.seq (.region _ os3 false) _)))))=>match Nat.beq o o' with
  |true=>Bi5 os1 os2 os3 mo n
  |false=>none
 |_,_=>none
def A8d:EC->Option (List Nat×EC)
 | .block _ (.loop keys (.seq _ (.seq (.kp _) (.seq _ (.seq (.kp _) (.block _ (.seq _ v)))))))=>some (keys,v)
 |_=>none
def Bf9(P:Program)(t:Nat):Bool:=match P.underlying t with
 |some (.map _ _)=>true
 |_=>false
def Bgx(P:Program)(inl:Nat->Bool)(once nt:Nat)(p:Bfg):Option (List Nat×EC)->EC
 |some (keys,v)=>match Avh P inl once p.os1 p.pre,Avh P inl once p.os3 p.rest with
  |some l1,some l3=>match Abp nt l1 && Abp nt l3 && Nat.blt p.it nt && Nat.blt p.nx nt && Nat.blt p.more nt && Nat.blt p.pair nt && Bf9 P p.t && !Ay p.it keys with
   |true=>.iB l1 p.m p.it p.nx p.more p.pair keys l3 v p.n
   |false=>.stop
  |_,_=>.stop
 |none=>.stop
def B6z(once:Nat)(V:List Nat):List Nat:=match Nat.testBit once 40007 with
 |true=>V
 |false=> []
def Avv(once:Nat)(V:List Nat)(e:EC):EC:=match Nat.testBit once 40007 with
 |true=>.seq (.iC V) e
 |false=>e
def Bu7(once:Nat)(V:List Nat)(l:List Hm):EC:=match Nat.testBit once 40007 with
 |true=>.seq (.gT l) (.iC V)
 |false=>.gT l
def vwR(once:Nat)(V:List Nat)(st:St):St:=match Nat.testBit once 40007 with
 |true=>st.vwL V
 |false=>st
def Jm(P:Program)(inl:Nat->Bool)(once nt:Nat)(V:List Nat)(out lt:Nat):Code->EC
 | .skip=>.skip
 | .region _ os d=>match Avh P inl once os os.toList with
  |some l=>match Abp nt l with
   |true=>match d with
    |true=>match Atr [] os.toList l with
     |true=>.region (Aft l) [] l
     |false=>match Atr (Azg l l) os.toList l with
      |true=>.region (Aft l) (Azg l l) l
      |false=>.stop
    |false=>match Nat.testBit once 40003 with
     |true=>.seq (.iE (Bmn l.reverse (B6z once V))) (Bu7 once V l)
     |false=>Bu7 once V l
   |false=>.stop
  |none=>.stop
 | .seq a b=>match Bek a b with
  |some p=>Bgx P inl once nt p (A8d (Jm P inl once nt V (out ||| Ge a) lt b))
  |none=>.seq (Jm P inl once nt V (out ||| Ge b) (lt ||| Ge b) a) (match Aox b with
  |true=>Jm P inl once nt V (out ||| Ge a) lt b
  |false=>.seq (.kp (Bxc nt (lt ||| Ge b))) (Jm P inl once nt V (out ||| Ge a) lt b))
 | .cond c a b=>.cond c (Jm P inl once nt V (out ||| Ge b ||| A75 (Af3 [c])) lt a) (Jm P inl once nt V (out ||| Ge a ||| A75 (Af3 [c])) lt b)
 | .block id b=>.block id (Jm P inl once nt V out lt b)
 | .loop b=>Avv once V (match Nat.testBit once 40004 with
  |true=>.gJ (Im nt V out (Ge b)) (Jm P inl once nt (V++Im nt V out (Ge b)) out (lt ||| Ge b) b)
  |false=>.loop (Im nt V out (Ge b)) (Jm P inl once nt (V++Im nt V out (Ge b)) out (lt ||| Ge b) b))
 | .exit id=>.exit id
 | .ret=>.ret
 |_=>.stop
def A3w(inl:Nat->Bool)(fn:Func)(j b:Nat):Nat:=match inl (1099511627776+((match fn.params.toList with|t::_=>t| []=>0)*16777216+fn.endLine*4096+fn.ntmps)*8+j) with
 |true=>1 <<< b
 |false=>0
def cFn(P:Program)(inl:Nat->Bool)(fn:Func):Option EC:=match fn.body with
 |some c=>some (Jm P inl (Bxf c fn.ntmps ||| A3w inl fn 0 40001 ||| A3w inl fn 1 40003 ||| A3w inl fn 2 40002 ||| A3w inl fn 3 40004 ||| A3w inl fn 4 40005 ||| A3w inl fn 5 40006 ||| A3w inl fn 6 40007) fn.ntmps (Aij c (List.range fn.params.size++Aif fn.results.toList++Bfr (Ach c))) (A75 (List.range fn.params.size) ||| Biz fn.results.toList) (Biz fn.results.toList) c)
 |none=>none
def Ay4(sz:Nat):Nat->List PV->List (List PV)
 |0,_=> []
 |n+1,l=>l.take sz::Ay4 sz n (l.drop sz)
def PV.finN(O:Nat->List PV):Nat->PV->PV
 |0,p=>p.pure0
 |m+1,p=>match p with
 | .vw c d e sz n=>match c,O d with
  |false,[.aX x]=>match Nat.beq sz x.sz with
   |true=>.bA false x
   |false=>.any
  |true,cs=>match LX.lit e (Ay4 sz n (cs.map (PV.finN O m))),Abc cs (n*sz) && plain cs with
   |some x,true=>match Nat.beq sz x.sz with
    |true=>.bA false x
    |false=>.any
   |_,_=>.any
  |_,_=>.any
 |p=>p.pure0
def PV.fin1(O:Nat->List PV)(p:PV):PV:=PV.finN O 3 p
def PV.fin(O:Nat->List PV):PV->PV
 | .agg l=>.agg (l.map (PV.fin1 O))
 | .bY l=>.bY (l.map (PV.fin1 O))
 | .sl _ e sz es=>.sl false e sz (es.map λr=>r.map PV.pure0)
 |p=>p.fin1 O
def W5(P:Program)(st:St):List ResultVar->(List PV->Prop)->Prop
 | [],k=>k []
 | .tmp t::r,k=>W5 P st r λl=>k (st.get t::l)
 | .cell a t::r,k=>match st.get a,szT P t,P.underlying t with
  | .loc b off,some sz,some _=>match H4 P t,Nat.beq sz 1,W7 ((st.obj b).drop off) sz && plain (((st.obj b).drop off).take sz) with
   |true,_,true=>W5 P st r λl=>k (.agg (((st.obj b).drop off).take sz)::l)
   |false,true,true=>W5 P st r λl=>k (mkP false (((st.obj b).drop off).take sz)::l)
   |_,_,_=>False
  |_,_,_=>False
def Afe(i:Nat):List PV->List (Nat×PV)
 | []=> []
 |p::r=>(i,p.view)::Afe (i+1) r
def Ara(O:Nat->List PV)(k:PV->Prop):List PV->Prop
 | [r]=>k (r.fin O)
 |l=>k (.bY (l.map (PV.fin O)))
def Bnc(P:Program)(rs:List ResultVar)(k:PV->Prop):Ex->St->Prop:=λe st=>match e with
 | .exit _=>False
 | .normal=>W5 P st rs (Ara st.obj k)
 | .ret=>W5 P st rs (Ara st.obj k)
def A9r(ob:List (Nat×List PV))(k:PV->List (Nat×List PV)->Prop):List PV->Prop
 | [r]=>k r ob
 |l=>k (.bY (l.map PV.view)) ob
def St.endI(st:St)(rs:List ResultVar):St:=match rs with
 | []=>match A90 7 (Cs st) with
  |false=>st
  |true=>A70 (Aif rs) (gcK (Aif rs) st) st
 |_::_=>st
def Bnd(P:Program)(rs:List ResultVar)(k:PV->List (Nat×List PV)->Prop):Ex->St->Prop:=λe st=>match e with
 | .exit _=>False
 | .normal=>W5 P (st.endI rs) rs (A9r (Apd (st.endI rs).ob) k)
 | .ret=>W5 P (st.endI rs) rs (A9r (Apd (st.endI rs).ob) k)
def Bb5(f:PV->Bool):List PV->Bool
 | []=>true
 |p::r=>match f p with
  |true=>Bb5 f r
  |false=>false
def PV.iA:PV->Bool
 | .agg l=>Bb5 PV.flat l
 |p=>p.flat
def PV.fx:PV->Bool
 | .bY l=>Bb5 PV.iA l
 |p=>p.iA
def PV.cross:PV->PV
 | .agg l=>.agg (l.map PV.pure0)
 |p=>p.pure0
def PV.gK:PV->Bool
 | .any=>true
 | .val _=>true
 | .bA false _=>true
 |_=>false
def okC(l:List PV):Bool:=Bb5 PV.gK l
def stK(P:Program)(C:Bc)(f:Nat)(args:List PV)(ob:List (Nat×List PV))(k:PV->List (Nat×List PV)->Prop):Prop:=match args with
 | .loc d 0::ps=>match Ay d (ob.map Prod.fst),okC (Dn [] ob d),K6 P f with
  |false,true,true=>C f (.bY (Dn [] ob d)::ps.map PV.cross) λr=>match r with
   | .bY [r0,.agg l]=>k r0 [(d,l)]
   |_=>False
  |_,_,_=>False
 |_=>False
def Bw7(e b:Nat)(args:List PV)(k:PV->List (Nat×List PV)->Prop):Prop:=match args,LX.nil e with
 | [.val (.slice none 0 0),.val (.int .i64 m)],some x=>gd (0<=m) (gd (m*(b:Int)<=140737488355328) (gd (m<=(4611686018427387904:Int)) (k (.bA true x) [])))
 |_,_=>False
def evJ(P:Program)(inl:Nat->Bool)(C:Bc)(L:Nat)(X:Inl):Inl:=λf args ob k=>match inl f with
  |true=>match P.funcs[f]? with
   |some fn=>match cFn P inl fn,Nat.ble args.length fn.ntmps,K6 P f with
    |some ec,true,true=>evC P C X L ec { fr:=Afe 0 args,ob:=ob,base:=Arj ob } (Bnd P fn.results.toList k)
    |_,_,_=>False
   |none=>False
  |false=>match K6 P f with
   |true=>C f (args.map (Ask (Dn [] ob))) λr=>k r.view []
   |false=>False
def Bl6(e:Nat)(args:List PV)(k:PV->List (Nat×List PV)->Prop)(E:Prop):Prop:=match args,LX.nil e with
 | [.bA _ z],some n=>br (Nat.beq z.len 0) (k (.bA true n) []) E
 |_,_=>E
def evB(P:Program)(inl:Nat->Bool)(G:Nat->Option (Nat×Nat))(C:Bc)(L:Nat)(X:Inl):Inl:=λf args ob k=>match G f with
  |some (e,b)=>match Nat.beq b 0 with
   |true=>Bl6 e args k (evJ P inl C L X f args ob k)
   |false=>match Nat.beq b 2000000 with
    |true=>stK P C f args ob k
    |false=>Bw7 e b args k
  |none=>evJ P inl C L X f args ob k
def Bcs(P:Program)(inl:Nat->Bool)(G:Nat->Option (Nat×Nat))(C:Bc)(L:Nat):Nat->Inl
 |0,_,_,_,_=>False
 |n+1,f,args,ob,k=>evB P inl G C L (Bcs P inl G C L n) f args ob k
noncomputable def YoS(P:Program)(inl:Nat->Bool)(G:Nat->Option (Nat×Nat))(C:Bc)(L:Nat): { Y:Nat->Inl // Y=Bcs P inl G C L } :=Classical.choice ⟨⟨Bcs P inl G C L,rfl⟩⟩
noncomputable def Yo(P:Program)(inl:Nat->Bool)(G:Nat->Option (Nat×Nat))(C:Bc)(L:Nat):Nat->Inl:=(YoS P inl G C L).1
noncomputable def evI(P:Program)(inl:Nat->Bool)(G:Nat->Option (Nat×Nat))(J:Nat->Bool)(C:Bc)(L:Nat):Nat->Inl
 |0,_,_,_,_=>False
 |n+1,f,args,ob,k=>match J f with
  |true=>Yo P inl G C L (n+1) f args ob k
  |false=>evB P inl G C L (evI P inl G J C L n) f args ob k
theorem Bww(P:Program)(inl:Nat->Bool)(G:Nat->Option (Nat×Nat))(C:Bc)(L:Nat):Yo P inl G C L=Bcs P inl G C L:=(YoS P inl G C L).2
theorem Bfx(P:Program)(inl:Nat->Bool)(G:Nat->Option (Nat×Nat))(J:Nat->Bool)(C:Bc)(L:Nat):∀n,evI P inl G J C L n=Bcs P inl G C L n
 |0=>rfl
 |n+1=>by
  funext f args ob k
  simp only[evI,Bcs,Bww,Bfx P inl G J C L n];cases J f<;>rfl
theorem C4(P:Program)(inl:Nat->Bool)(G:Nat->Option (Nat×Nat))(J:Nat->Bool)(C:Bc)(L n f:Nat)(args:List PV)(ob:List (Nat×List PV))(k:PV->List (Nat×List PV)->Prop):
  Yo P inl G C L (n+1) f args ob k=evB P inl G C L (evI P inl G J C L n) f args ob k:=by
 rw[Bww,Bfx];rfl
def Asx:List PV->Bool
 | .bY _::_=>true
 |_=>false
def Bcr(P:Program)(C:Bc)(X:Inl)(L:Nat)(rs:List ResultVar)(ec:EC)(args:List PV)(k:PV->Prop):Prop:=match Asx args with
 |true=>False
 |false=>evC P C X L ec { fr:=Afe 0 args,ob:= [],base:=0 } (Bnc P rs k)
theorem Axh{P:Program}{C:Bc}{X:Inl}{L:Nat}{rs:List ResultVar}{ec:EC}{args:List PV}{k:PV->Prop}(h:Bcr P C X L rs ec args k):Asx args=false/\evC P C X L ec { fr:=Afe 0 args,ob:= [],base:=0 } (Bnc P rs k):=by
 unfold Bcr at h;cases hh:Asx args with
 |true=>rw[hh]at h;exact h.elim
 |false=>rw[hh]at h;exact⟨rfl,h⟩
end Go.Proofs.YthjhkpgonleelaaGreatDoor.Ev
namespace Go.Proofs.YthjhkpgonleelaaGreatDoor.Ev
open Go Go.RowKit
abbrev T7:=Nat->Option Nat
abbrev Sk:=Nat->Option (Nat×Nat)
def imm(M:T7)(a:Addr):Prop:=∀n,M a.block=some n->a.off<n
structure Gs where
 w:World
 old:Nat->Prop
 lt:∀b,old b->b<w.heap.size
structure Bel (B:Gs) (w:World):Prop where
 os:w.os=B.w.os
 tape:w.tape=B.w.tape
 output:w.output=B.w.output
 size:B.w.heap.size<=w.heap.size
 block:∀k,B.old k->w.heap[k]? =B.w.heap[k]?
inductive B2 (w:World) (M:T7) (β :Sk) (B:Nat->Prop):PV->Value->Prop
 |any (v:Value):B2 w M β B .any v
 |val (v:Value) (h:v.oneCell'=true):B2 w M β B (.val v) v
 |agg (l:List PV) (cs:List Value) (hl:l.length=cs.length) (h1:∀v∈cs,v.oneCell'=true)
   (hr:∀(i:Nat) (p:PV) (v:Value),l[i]? =some p->cs[i]? =some v->B2 w M β B p v):B2 w M β B (.agg l) (.agg cs.toArray)
 |bY (l:List PV) (cs:List Value) (hl:l.length=cs.length)
   (hr:∀(i:Nat) (p:PV) (v:Value),l[i]? =some p->cs[i]? =some v->B2 w M β B p v):B2 w M β B (.bY l) (.tuple cs.toArray)
 |row (p:PV) (s:SV) (hs:p.sv=some s) (a:Option Addr) (c:Nat) (vs:Nat->Nat->Value)
   (hc:s.n<=c)(hsz:∀(i:Nat),i<s.n->(s.f i).length=s.sz)(ha:∀(i:Nat),i<s.n->∃ad,a=some ad)
   (hm:∀(ad:Addr) (i:Nat) (j:Nat) (p:PV),a=some ad->i<s.n->(s.f i)[j]? =some p->imm M (ad.add (i*s.sz+j))/\w.cell? (ad.add (i*s.sz+j))=some (vs i j)/\(vs i j).oneCell'=true)
   (hr:∀(i:Nat) (j:Nat) (p:PV),i<s.n->(s.f i)[j]? =some p->B2 w M β B p (vs i j)):B2 w M β B p (.slice a s.n c)
 |loc (d off b n:Nat) (h: β d=some (b,n)):B2 w M β B (.loc d off) (.pointer (some ⟨b,off,none⟩))
 |el (d sz i off b n:Nat) (h: β d=some (b,n)) (hi:i<n):B2 w M β B (.el d sz i off) (.pointer (some ⟨b,i*sz+off,none⟩))
 |vw (cf:Bool) (d e sz n b c:Nat) (h: β d=some (b,n)) (hc:n<=c):B2 w M β B (.vw cf d e sz n) (.slice (some ⟨b,0,none⟩) n c)
 |mp (d b n:Nat) (h: β d=some (b,n)):B2 w M β B (.mp d) (.map (some b))
 |bI (f n:Nat) (l:List PV) (cs:List Value) (hl:l.length=cs.length)
   (hr:∀(i:Nat) (p:PV) (v:Value),l[i]? =some p->cs[i]? =some v->B2 w M β B p v):B2 w M β B (.bI f n l) (.func (.func f) (cs.take n).toArray (cs.drop n).toArray)
 |ref (l:List PV) (ad:Addr) (vs:Nat->Value) (hm:∀(i:Nat) (p:PV),l[i]? =some p->(B ad.block\/Ev.imm M (ad.add i))/\w.cell? (ad.add i)=some (vs i)/\(vs i).oneCell'=true)
   (hr:∀(i:Nat) (p:PV),l[i]? =some p->B2 w M β B p (vs i)):B2 w M β B (.ref l) (.pointer (some ad))
def Ext(w:World)(M:T7)(w':World)(M':T7):Prop:=∀a v,imm M a->w.cell? a=some v->imm M' a/\w'.cell? a=some v
theorem Ext.refl(w:World)(M:T7):Ext w M w M:=λ_ _ h h'=>⟨h,h'⟩
theorem Ext.trans{w w' w'':World}{M M' M'':T7}(h:Ext w M w' M')(h':Ext w' M' w'' M''):Ext w M w'' M'':=
 λa v hi hc=>let ⟨h1,h2⟩:=h a v hi hc;h' a v h1 h2
theorem Ar3(a:Addr)(n:Nat):(a.add n).block=a.block:=by unfold Addr.add;split<;>rfl
theorem Au9(a:Addr)(i j:Nat):(a.add i).add j=a.add (i+j):=by
 unfold Addr.add;by_cases hi:i=0<;>by_cases hj:j=0<;>simp[hi,hj,Nat.add_assoc]
theorem Ar2(g k:Nat):(⟨g,0,none⟩:Addr).add k=⟨g,k,none⟩:=by unfold Addr.add;split<;>simp_all
theorem Ava(g o k:Nat):(⟨g,o,none⟩:Addr).add k=⟨g,o+k,none⟩:=by unfold Addr.add;split<;>simp_all
section
variable {w w':World} {M M':T7} {β β':Sk} {B:Nat->Prop}
theorem B2.ext(h:Ext w M w' M')(hB:∀a:Addr,B a.block->w'.cell? a=w.cell? a)(hβ :∀d x,β d=some x->β' d=some x){p:PV}{v:Value}(hr:B2 w M β B p v):B2 w' M' β' B p v:=by
 induction hr with
 |any v=>exact .any v
 |val v h=>exact .val v h
 |agg l cs hl h1 _ ih=>exact .agg l cs hl h1 ih
 |bY l cs hl _ ih=>exact .bY l cs hl ih
 |row p s hs a c vs hc hsz ha hm _ ih=>
  exact .row p s hs a c vs hc hsz ha (λad i j p h1 h2 h3=>let ⟨g1,g2,g3⟩:=hm ad i j p h1 h2 h3;let ⟨k1,k2⟩:=h _ _ g1 g2;⟨k1,k2,g3⟩) ih
 |loc d off b n h=>exact .loc d off b n (hβ _ _ h)
 |el d sz i off b n h hi=>exact .el d sz i off b n (hβ _ _ h) hi
 |vw cf d e sz n b c h hc=>exact .vw cf d e sz n b c (hβ _ _ h) hc
 |mp d b n h=>exact .mp d b n (hβ _ _ h)
 |bI f n l cs hl _ ih=>exact .bI f n l cs hl ih
 |ref l ad vs hm _ ih=>
  refine .ref l ad vs (λi p hp=>?_) ih;obtain⟨g1,g2,g3⟩:=hm i p hp;rcases g1 with g1|g1
  ·exact⟨.inl g1,by rw[hB _ (by rw[Ar3];exact g1)];exact g2,g3⟩
  ·obtain⟨k1,k2⟩:=h _ _ g1 g2;exact⟨.inr k1,k2,g3⟩
theorem Bwr{p:PV}{s:SV}(h:p.sv=some s):p.view.sv=some { s with own:=false } :=by
 cases p<;>simp only[PV.sv]at h<;>first|(injection h with h;subst h;rfl)|cases h
theorem Su{p:PV}{s:SV}(h:p.view.sv=some s):s.own=false:=by
 cases p<;>simp only[PV.view,PV.sv]at h<;>first|(injection h with h;subst h;rfl)|cases h
theorem Bbo{p:PV}(h:p.sv=none):p.view=p:=by
 cases p<;>first|rfl|(simp only[PV.sv]at h;cases h)
theorem B2.view{p:PV}{v:Value}(h:B2 w M β B p v):B2 w M β B p.view v:=by
 cases hq:p.sv with
 |none=>rw[Bbo hq];exact h
 |some s=>
  have key:∀(p q:PV) (s:SV),p.sv=some s->q.sv=some { s with own:=false } ->B2 w M β B p v->B2 w M β B q v:=by
   intro p q s hp hq hr;cases hr with
   |row p s' hs a c vs hc hsz ha hm hr=>
    rw[hp]at hs;injection hs with hs;subst hs
    exact .row q { s with own:=false } hq a c vs hc hsz ha hm hr
   |_=>simp only[PV.sv]at hp;cases hp
  exact key p p.view s hq (Bwr hq) h
theorem Bar(v:Value):Ayw v=v.oneCell':=by cases v<;>rfl
theorem B2.one{p:PV}{v:Value}(h:B2 w M β B p v)(h1:p.one=true):v.oneCell'=true:=by
 cases h with
 |any=>simp[PV.one]at h1
 |val v h=>exact h
 |agg=>simp[PV.one]at h1
 |bY=>simp[PV.one]at h1
 |_=>rfl
theorem Bml{p:PV}{s:SV}(hf:p.flat=true)(hs:p.sv=some s):∀(i j:Nat) (q:PV),(s.f i)[j]? =some q->q.flat=true:=by
 intro i j q hq;cases p with
 |bA own x=>injection hs with hs;subst hs;exact LX.row_flat _ _ _ (List.mem_of_getElem? hq)
 |sl=>cases hf
 |_=>cases hs
theorem B2.flat{B':Nat->Prop}{p:PV}{v:Value}(h:B2 w M β B p v)(hf:p.flat=true):B2 w M β' B' p v:=by
 induction h with
 |any v=>exact .any v
 |val v h=>exact .val v h
 |row p s hs a c vs hc hsz ha hm hr ih=>
  exact .row p s hs a c vs hc hsz ha hm (λi j q hi hq=>ih i j q hi hq (Bml hf hs i j q hq))
 |_=>simp[PV.flat]at hf
theorem B2.pure0{B':Nat->Prop}{p:PV}{v:Value}(h:B2 w M β B p v):B2 w M β' B' p.pure0 v:=by
 unfold PV.pure0;cases hf:p.flat with
 |true=>exact(h.flat hf).view
 |false=>exact .any v
theorem B2.val_eq{v u:Value}(h:B2 w M β B (.val v) u):u=v:=by
 cases h with
 |val v h=>rfl
 |row p s hs=>cases hs
theorem B2.le{p q:PV}{v:Value}(hl:PV.Le p q)(h:B2 w M β B p v):B2 w M β B q v:=by
 cases hl with
 |view=>exact h.view
 |nil own y hy=>
  have:=h.val_eq;subst this;have:B2 w M β B (.bA own y) (.slice none (SV.mk own y.e y.sz y.len y.row).n 0):=
   .row _ ⟨own,y.e,y.sz,y.len,y.row⟩ rfl none 0 (λ_ _=>undef) (by simp[hy]) (λi hi=>by simp[hy]at hi) (λi hi=>by simp[hy]at hi) (λad i j p ha=>by cases ha) (λi j p hi=>by simp[hy]at hi)
  simpa[hy]using this
theorem Ag5{s:PV->Bool} :∀ {l:List PV},As4 s l=true->∀(i:Nat) (p:PV),l[i]? =some p->s p=true
 | [],_,i,p,h=>by simp at h
 |q::r,h,i,p,hp=>by
  simp only[As4]at h;cases hq:s q with
  |false=>rw[hq]at h;cases h
  |true=>
   rw[hq]at h;cases i with
   |zero=>simp at hp;subst hp;exact hq
   |succ i=>exact Ag5 h i p (by simpa using hp)
theorem A5j{s:PV->Bool} :∀ {l:List (List PV)},Ba9 s l=true->∀(i:Nat),As4 s (l.getD i [])=true
 | [],_,i=>rfl
 |q::r,h,i=>by
  simp only[Ba9]at h;cases hq:As4 s q with
  |false=>rw[hq]at h;cases h
  |true=>
   rw[hq]at h;cases i with
   |zero=>exact hq
   |succ i=>exact A5j h i
def Sk.cut(β :Sk)(D:Nat->Bool):Sk:=λd=>if D d then none else β d
theorem Sk.cut_some{β :Sk}{D:Nat->Bool}{d:Nat}{x:Nat×Nat}(h: β.cut D d=some x): β d=some x/\D d=false:=by
 unfold Sk.cut at h;cases hd:D d with
 |true=>rw[hd]at h;simp at h
 |false=>rw[hd]at h;exact⟨by simpa using h,rfl⟩
theorem Sk.cut_eq{β :Sk}{D:Nat->Bool}{d:Nat}(h:D d=false): β.cut D d= β d:=by unfold Sk.cut;rw[h];rfl
theorem B2.safe0{D:Nat->Bool}{p:PV}{v:Value}(hs:p.safe0 D=true)(h:B2 w M β B p v):B2 w M (β.cut D) B p v:=by
 cases h with
 |any v=>exact .any v
 |val v h=>exact .val v h
 |row p s hsv a c vs hc hsz ha hm hr=>
  cases p with
  |sl=>simp[PV.safe0]at hs
  |bA own x=>exact(B2.row (β := β) (B:=B) _ s hsv a c vs hc hsz ha hm hr).flat rfl
  |_=>cases hsv
 |loc d off b n h=>exact .loc d off b n (by rw[Sk.cut_eq (by simpa[PV.safe0]using hs)];exact h)
 |el d sz i off b n h hi=>exact .el d sz i off b n (by rw[Sk.cut_eq (by simpa[PV.safe0]using hs)];exact h) hi
 |vw cf d e sz n b c h hc=>exact .vw cf d e sz n b c (by rw[Sk.cut_eq (by simpa[PV.safe0]using hs)];exact h) hc
 |mp d b n h=>exact .mp d b n (by rw[Sk.cut_eq (by simpa[PV.safe0]using hs)];exact h)
 |_=>simp[PV.safe0]at hs
theorem B2.safeUp{s:PV->Bool}(hs:∀p v,s p=true->B2 w M β B p v->B2 w M β' B p v){p:PV}{v:Value}(h1:p.safeUp s=true)(h:B2 w M β B p v):B2 w M β' B p v:=by
 cases h with
 |agg l cs hl h1' hr=>exact .agg l cs hl h1' (λi p v hp hv=>hs _ _ (Ag5 h1 i p hp) (hr i p v hp hv))
 |bY l cs hl hr=>exact .bY l cs hl (λi p v hp hv=>hs _ _ (Ag5 h1 i p hp) (hr i p v hp hv))
 |bI f n l cs hl hr=>exact .bI f n l cs hl (λi p v hp hv=>hs _ _ (Ag5 h1 i p hp) (hr i p v hp hv))
 |ref l ad vs hm hr=>exact .ref l ad vs hm (λi p hp=>hs _ _ (Ag5 h1 i p hp) (hr i p hp))
 |row p sv hsv a c vs hc hsz ha hm hr=>
  cases p with
  |sl own e sz es=>
   injection hsv with hsv;subst hsv
   exact .row _ _ rfl a c vs hc hsz ha hm (λi j q hi hq=>hs _ _ (Ag5 (A5j h1 i) j q hq) (hr i j q hi hq))
  |bA own x=>exact(B2.row (β := β) (B:=B) _ sv hsv a c vs hc hsz ha hm hr).flat rfl
  |_=>cases hsv
 |any v=>exact .any v
 |val v h=>exact .val v h
 |loc d off b n h=>exact hs _ _ h1 (.loc d off b n h)
 |el d sz i off b n h hi=>exact hs _ _ h1 (.el d sz i off b n h hi)
 |vw cf d e sz n b c h hc=>exact hs _ _ h1 (.vw cf d e sz n b c h hc)
 |mp d b n h=>exact hs _ _ h1 (.mp d b n h)
theorem B2.clean{D:Nat->Bool}{p:PV}{v:Value}(h:B2 w M β B p v):B2 w M (β.cut D) B (p.clean D) v:=by
 unfold PV.clean;cases hs:p.safe D with
 |false=>exact .any v
 |true=>
  refine B2.safeUp (s:=PV.safeUp (PV.safeUp (PV.safe0 D))) (λp v h1 h=>?_) hs h;refine B2.safeUp (s:=PV.safeUp (PV.safe0 D)) (λp v h1 h=>?_) h1 h;exact B2.safeUp (s:=PV.safe0 D) (λp v h1 h=>h.safe0 h1) h1 h
theorem Bce{D:Nat->Bool}{p:PV}{s:SV}(h:(p.clean D).sv=some s):p.sv=some s:=by
 unfold PV.clean at h;split at h
 ·exact h
 ·cases h
end
def tb:Value->Option Nat
 | .slice (some a) _ c=>match c with
  |0=>none
  |_+1=>some a.block
 |_=>none
def Aqw(w:World)(M:T7)(B:Nat->Prop)(s:SV)(v:Value):Prop:=
 (∃a,v=.slice a 0 0/\s.n=0)\/
 ∃g c cur,v=.slice (some ⟨g,0,none⟩) s.n (c+1)/\¬B g/\M g=some (s.n*s.sz)/\w.heap[g]? =some (.cells cur s.e (0,0))/\s.n<=c+1/\c+1<=maxLen/\cur.size=(c+1)*s.sz
def Rr(es:Array MapEntry)(clock:Nat):Prop:=(∀(i j:Nat) (ei ej:MapEntry),es[i]? =some ei->es[j]? =some ej->ei.born=ej.born->i=j)/\∀(i:Nat) (e:MapEntry),es[i]? =some e->e.born<clock
theorem Rr.nil(clock:Nat):Rr #[] clock:=⟨λi j ei ej h=>by simp at h,λi e h=>by simp at h⟩
theorem Rr.push{es:Array MapEntry}{clock:Nat}(h:Rr es clock)(k v:Value):Rr (es.push { key:=k,val:=v,born:=clock }) (clock+1):=by
 have old:∀(i:Nat) (e:MapEntry),(es.push { key:=k,val:=v,born:=clock })[i]? =some e->(i=es.size/\e.born=clock)\/(es[i]? =some e/\e.born<clock):=λi e he=>by
  rw[Array.getElem?_push]at he;by_cases hi:i=es.size
  ·rw[if_pos hi]at he;injection he with he;subst he;exact .inl ⟨hi,rfl⟩
  ·rw[if_neg hi]at he;exact .inr ⟨he,h.2 i e he⟩
 refine⟨λi j ei ej hi hj hb=>?_,λi e he=>?_⟩
 ·rcases old i ei hi with⟨a1,a2⟩|⟨a1,a2⟩<;>rcases old j ej hj with⟨b1,b2⟩|⟨b1,b2⟩
  ·omega
  ·omega
  ·omega
  ·exact h.1 i j ei ej a1 b1 hb
 ·rcases old i e he with⟨_,a2⟩|⟨_,a2⟩<;>omega
theorem Rr.modify{es:Array MapEntry}{clock:Nat}(h:Rr es clock)(n:Nat)(k v:Value):Rr (es.modify n λe=> { e with key:=k,val:=v }) clock:=by
 have old:∀(i:Nat) (e:MapEntry),(es.modify n λe=> { e with key:=k,val:=v })[i]? =some e->∃e0,es[i]? =some e0/\e0.born=e.born:=λi e he=>by
  rw[Array.getElem?_modify]at he;split at he
  ·cases h0:es[i]? with
   |none=>rw[h0]at he;cases he
   |some e0=>rw[h0]at he;injection he with he;subst he;exact⟨e0,rfl,rfl⟩
  ·exact⟨e,he,rfl⟩
 refine⟨λi j ei ej hi hj hb=>?_,λi e he=>?_⟩
 ·obtain⟨e1,a1,a2⟩:=old i ei hi;obtain⟨e2,b1,b2⟩:=old j ej hj;exact h.1 i j e1 e2 a1 b1 (by omega)
 ·obtain⟨e1,a1,a2⟩:=old i e he;have:=h.2 i e1 a1;omega
theorem Axg(es:Array MapEntry)(n:Nat)(hn:n<es.size)(i:Nat):(es.eraseIdxIfInBounds n)[i]? =es[if i<n then i else i+1]? :=by
 unfold Array.eraseIdxIfInBounds;rw[dif_pos hn,Array.getElem?_eraseIdx];split<;>rfl
theorem Rr.erase{es:Array MapEntry}{clock:Nat}(h:Rr es clock)(n:Nat)(hn:n<es.size):Rr (es.eraseIdxIfInBounds n) clock:=by
 refine⟨λi j ei ej hi hj hb=>?_,λi e he=>?_⟩
 ·rw[Axg es n hn]at hi hj;have:=h.1 _ _ ei ej hi hj hb;split at this<;>split at this<;>omega
 ·rw[Axg es n hn]at he;exact h.2 _ e he
inductive Nm (w:World) (M:T7) (β :Sk) (B:Nat->Prop) (b n:Nat):List PV->Prop
 |cells (l:List PV) (cs:Array Value) (t:Nat) (hh:w.heap[b]? =some (.cells cs t (0,0))) (hs:l.length<=cs.size)
   (hr:∀(i:Nat) (p:PV) (v:Value),l[i]? =some p->cs[i]? =some v->B2 w M β B p v/\v.oneCell'=true):Nm w M β B b n l
 |arr (x:LX) (cs:Array Value) (t:Nat) (hh:w.heap[b]? =some (.cells cs t (0,0))) (hn:x.len=n) (hs:n*x.sz<=cs.size)
   (hr:∀(i j:Nat) (p:PV) (v:Value),i<n->(x.row i)[j]? =some p->cs[i*x.sz+j]? =some v->B2 w M β B p v/\v.oneCell'=true):Nm w M β B b n [.aX x]
 |map (gk gv:Bool) (ks vs:LX) (es:Array MapEntry) (clock:Nat) (hh:w.heap[b]? =some (.map es clock)) (hk:es.size=ks.len) (hv:vs.len=ks.len)
   (hr:∀(i:Nat) (e:MapEntry),es[i]? =some e->B2 w M β B (mkP gk (ks.row i)) e.key/\B2 w M β B (mkP gv (vs.row i)) e.val)(hbn:Rr es clock):Nm w M β B b n [.aO gk gv ks vs]
 |dG (gk gv:Bool) (ks vs:LX) (es:Array MapEntry) (clock:Nat) (hh:w.heap[b]? =some (.map es clock)) (hk:es.size=ks.len) (hv:vs.len=ks.len)
   (hr:∀(i:Nat) (e:MapEntry),es[i]? =some e->B2 w M β B (mkP gk (ks.row i)) e.key/\B2 w M β B (mkP gv (vs.row i)) e.val)(hbn:Rr es clock):Nm w M β B b n [.dG es clock gk gv ks vs]
inductive W2 (κ :Type) where
 |slot (k: κ)
 |cell (d i:Nat)
def Own{κ :Type}(H: κ->PV×Value)(O:Nat->List PV)(w:World)(β :Sk):W2 κ->SV->Value->Prop
 | .slot k,s,v=>(H k).1.sv=some s/\s.own=true/\(H k).2=v
 | .cell d i,s,v=>∃b n p,β d=some (b,n)/\(O d)[i]? =some p/\p.sv=some s/\s.own=true/\w.cell? ⟨b,i,none⟩=some v
theorem Bel.lt{B:Gs}{w:World}(h:Bel B w){b:Nat}(hb:B.old b):b<w.heap.size:=Nat.lt_of_lt_of_le (B.lt b hb) h.size
theorem Bel.new{B:Gs}{w:World}(h:Bel B w):¬B.old w.heap.size:=λhb=>Nat.lt_irrefl _ (h.lt hb)
structure Kp (B:Gs) (w w':World):Prop where
 os:w'.os=w.os
 tape:w'.tape=w.tape
 output:w'.output=w.output
 size:w.heap.size<=w'.heap.size
 block:∀k,B.old k->w'.heap[k]? =w.heap[k]?
theorem Bel.trans{B:Gs}{w w':World}(h:Bel B w)(k:Kp B w w'):Bel B w':=
 ⟨k.os.trans h.os,k.tape.trans h.tape,k.output.trans h.output,Nat.le_trans h.size k.size,λi hi=>(k.block i hi).trans (h.block i hi)⟩
theorem Kp.of{B:Gs}{w w':World}(h:Bel B w)(hb:Below w.heap.size w w'):Kp B w w':=⟨hb.os,hb.tape,hb.output,hb.size,λk hk=>hb.block k (h.lt hk)⟩
def Gs.all(w:World):Gs:=⟨w,λb=>b<w.heap.size,λ_ h=>h⟩
theorem Bel.below{w w':World}(h:Bel (Gs.all w) w'):Below w.heap.size w w':=⟨h.os,h.tape,h.output,h.size,h.block⟩
theorem Bel.of(w:World)(B:Gs)(hB:B.w=w):Bel B w:=by subst hB;exact⟨rfl,rfl,rfl,Nat.le_refl _,λ_ _=>rfl⟩
theorem Bel.later{B:Gs}{w w':World}(h:Bel B w)(hb:Below w.heap.size w w'):Bel B w':=
 ⟨hb.os.trans h.os,hb.tape.trans h.tape,hb.output.trans h.output,Nat.le_trans h.size hb.size,λk hk=>(hb.block k (Nat.lt_of_lt_of_le (B.lt k hk) h.size)).trans (h.block k hk)⟩
theorem Bel.alloc{B:Gs}{w:World}(h:Bel B w)(o:Obj):Bel B (w.alloc o):=h.later ((Below.refl _ w).alloc (Nat.le_refl _) o)
def Atd(N:T7)(B:Gs):Prop:=∃M0:T7,(∀a:Addr,imm M0 a->B.old a.block/\imm N a)/\
 (∀g x,A37 GL g=some x->B.old g/\∃v,B.w.cell? ⟨g,0,none⟩=some v/\B2 B.w M0 (λ_=>none) (λ_=>False) (.bA false x) v)/\
 ∀g vs,(g,vs)∈GA->B.old g/\∃t f,B.w.heap[g]? =some (.cells vs.toArray t f)
structure MN (B:Gs) (N M:T7):Prop where
 eq:∀b,B.old b->M b=N b
 gl:Atd N B
instance {B:Gs} {N M:T7} :CoeFun (MN B N M) (λ_=>∀b,B.old b->M b=N b):=⟨λh=>h.eq⟩
theorem Bel.cell{B:Gs}{w:World}(h:Bel B w){a:Addr}(ha:B.old a.block):w.cell? a=B.w.cell? a:=by
 unfold World.cell?;rw[h.block _ ha]
theorem Atd.here{B:Gs}{N M:T7}{w:World}(h:Atd N B)(hb:Bel B w)(hM:∀b,B.old b->M b=N b)(β :Sk)(old:Nat->Prop){g:Nat}{x:LX}(hg:A37 GL g=some x):
  B.old g/\∃v,w.cell? ⟨g,0,none⟩=some v/\B2 w M β old (.bA false x) v:=by
 obtain⟨M0,h1,h2,_⟩:=h;obtain⟨q1,v,q2,q3⟩:=h2 g x hg;refine⟨q1,v,by rw[hb.cell q1];exact q2,?_⟩;exact B2.flat (B2.ext (β':=λ_=>none) (λa u hi hc=>⟨λn hn=>(h1 a hi).2 n (by rw[<-hM _ (h1 a hi).1];exact hn),by rw[hb.cell (h1 a hi).1];exact hc⟩) (λa ha=>ha.elim) (λ_ _ e=>e) q3) rfl
theorem Atd.to{B:Gs}{N M:T7}{w:World}(h:Atd N B)(hb:Bel B w)(hM:∀b,B.old b->M b=N b)(B':Gs)(hw:B'.w=w)(ho:∀b,B.old b->B'.old b):Atd M B':=by
 subst hw;obtain⟨M0,h1,h2,h3⟩:=h;refine⟨M0,λa hi=>⟨ho _ (h1 a hi).1,λn hn=>(h1 a hi).2 n (by rw[<-hM _ (h1 a hi).1];exact hn)⟩,λg x hg=>?_,λg vs hg=>⟨ho _ (h3 g vs hg).1,let ⟨t,f,hv⟩:=(h3 g vs hg).2;⟨t,f,(hb.block _ (h3 g vs hg).1).trans hv⟩⟩⟩;obtain⟨q1,v,q2,q3⟩:=h2 g x hg;exact⟨ho _ q1,v,(hb.cell q1).trans q2,B2.ext (λa u hi hc=>⟨hi,by rw[<-hc];exact hb.cell (h1 a hi).1⟩) (λa ha=>ha.elim) (λ_ _ e=>e) q3⟩
theorem Atd.arr{B:Gs}{N M:T7}{w:World}(h:Atd N B)(hb:Bel B w){g:Nat}{vs:List Value}(hg:(g,vs)∈GA):B.old g/\∃t f,w.heap[g]? =some (.cells vs.toArray t f):=by
 obtain⟨M0,h1,h2,h3⟩:=h;exact⟨(h3 g vs hg).1,let ⟨t,f,hv⟩:=(h3 g vs hg).2;⟨t,f,(hb.block _ (h3 g vs hg).1).trans hv⟩⟩
theorem Atd.all{B:Gs}{N M:T7}{w:World}(h:Atd N B)(hb:Bel B w)(hM:∀b,B.old b->M b=N b):Atd M (Gs.all w):=h.to hb hM _ rfl λ_ ho=>hb.lt ho
structure SH {κ :Type} (H: κ->PV×Value) (w0:Gs) (N:T7) (O:Nat->List PV) (D:Nat->Bool) (w:World) (M:T7) (β :Sk):Prop where
 dR:Bel w0 w
 mN:MN w0 N M
 mlt:∀b n,M b=some n->b<w.heap.size
 box:∀d b n,β d=some (b,n)->¬w0.old b/\M b=some 0/\Nm w M β w0.old b n (O d)
 inj:∀d d' b n n',β d=some (b,n)->β d'=some (b,n')->d=d'
 dom:∀d,D d=true->β d=none
 reg:∀k,B2 w M β w0.old (H k).1 (H k).2
 tok:∀key s v,Own H O w β key s v->Aqw w M w0.old s v
 eT:∀key key' s s' v v' g,Own H O w β key s v->Own H O w β key' s' v'->key≠key'->tb v=some g->tb v'≠some g
 dK:∀key s v g d n,Own H O w β key s v->tb v=some g->β d≠some (g,n)
section
variable {κ κ':Type} {H: κ->PV×Value} {H': κ'->PV×Value} {w0:Gs} {w w':World} {N M M':T7} {O O':Nat->List PV} {D D':Nat->Bool} {β β':Sk}
theorem SH.perm(h:SH H w0 N O D w M β)(hr:∀k,B2 w M β w0.old (H' k).1 (H' k).2)(hbox:∀d b n,β d=some (b,n)->Nm w M β w0.old b n (O' d))(hD:∀d,D' d=true->β d=none)
  (φ :W2 κ'->Option (W2 κ))(hφ :∀key s v,Own H' O' w β key s v->∃key',φ key=some key'/\Own H O w β key' s v)
  (hinj:∀k k' j,φ k=some j->φ k'=some j->k=k'):SH H' w0 N O' D' w M β :=by
 refine⟨h.dR,h.mN,h.mlt,λd b n hd=>⟨(h.box d b n hd).1,(h.box d b n hd).2.1,hbox d b n hd⟩,h.inj,hD,hr,?_,?_,?_⟩
 ·intro key s v ho;obtain⟨k',_,h2⟩:=hφ key s v ho;exact h.tok k' s v h2
 ·intro key key' s s' v v' g ho ho' hne hg;obtain⟨j,h1,h2⟩:=hφ key s v ho;obtain⟨j',h1',h2'⟩:=hφ key' s' v' ho';refine h.eT j j' s s' v v' g h2 h2' (λe=>hne (hinj _ _ j h1 (by rw[e];exact h1'))) hg
 ·intro key s v g d n ho hg;obtain⟨j,h1,h2⟩:=hφ key s v ho;exact h.dK j s v g d n h2 hg
theorem SH.hold(h:SH H w0 N O D w M β)(hr:∀k,B2 w M β w0.old (H' k).1 (H' k).2)(g: κ'->Option κ)
  (hg:∀k s,(H' k).1.sv=some s->s.own=true->∃j,g k=some j/\(H j).1.sv=some s/\(H j).2=(H' k).2)(hinj:∀k k' j,g k=some j->g k'=some j->k=k'):SH H' w0 N O D w M β :=by
 refine h.perm hr (λd b n hd=>(h.box d b n hd).2.2) h.dom (λkey=>match key with| .slot k=>(g k).map .slot| .cell d i=>some (.cell d i)) ?_ ?_
 ·intro key s v ho;cases key with
  |slot k=>
   obtain⟨h1,h2,h3⟩:=ho;obtain⟨j,q1,q2,q3⟩:=hg k s h1 h2;exact⟨.slot j,by simp[q1],q2,h2,by rw[q3];exact h3⟩
  |cell d i=>exact⟨.cell d i,rfl,ho⟩
 ·intro k k' j hk hk';cases k with
  |slot k=>
   cases k' with
   |slot k'=>
    simp only[Option.map_eq_some_iff]at hk hk';obtain⟨a,ha,rfl⟩:=hk;obtain⟨a',ha',e⟩:=hk';injection e with e;subst e
    rw[hinj k k' _ ha ha']
   |cell d i=>
    simp only[Option.map_eq_some_iff]at hk hk';obtain⟨a,ha,rfl⟩:=hk;cases hk'
  |cell d i=>
   cases k' with
   |slot k'=>
    simp only[Option.map_eq_some_iff]at hk hk';obtain⟨a,ha,rfl⟩:=hk';cases hk
   |cell d' i'=>injection hk with hk;injection hk' with hk';have e:=hk.trans hk'.symm;injection e with e1 e2;rw[e1,e2]
def Qw(x:PV×Value)(H: κ->PV×Value):Option κ->PV×Value
 |none=>x
 |some k=>H k
theorem SH.cons(h:SH H w0 N O D w M β)(p:PV)(v:Value)(hr:B2 w M β w0.old p v)
  (ht:∀s,p.sv=some s->s.own=true->Aqw w M w0.old s v/\(∀key s' v' g,Own H O w β key s' v'->tb v=some g->tb v'≠some g)/\(∀g d n,tb v=some g->β d≠some (g,n))):
  SH (Qw (p,v) H) w0 N O D w M β :=by
 have old:∀(key:W2 (Option κ)) s u,Own (Qw (p,v) H) O w β key s u->(key=.slot none/\p.sv=some s/\s.own=true/\v=u)\/∃key':W2 κ,Own H O w β key' s u/\(∀key2:W2 (Option κ),Own (Qw (p,v) H) O w β key2 s u->True)/\
   (match key' with| .slot k=>key=.slot (some k)| .cell d i=>key=.cell d i):=by
  intro key s u ho;cases key with
  |slot k=>
   cases k with
   |none=>exact .inl ⟨rfl,ho.1,ho.2.1,ho.2.2⟩
   |some k=>exact .inr ⟨.slot k,ho,λ_ _=>trivial,rfl⟩
  |cell d i=>exact .inr ⟨.cell d i,ho,λ_ _=>trivial,rfl⟩
 refine⟨h.dR,h.mN,h.mlt,h.box,h.inj,h.dom,?_,?_,?_,?_⟩
 ·intro k;cases k with
  |none=>exact hr
  |some k=>exact h.reg k
 ·intro key s u ho;rcases old key s u ho with⟨_,h1,h2,rfl⟩|⟨k',h1,_⟩
  ·exact(ht s h1 h2).1
  ·exact h.tok k' s u h1
 ·intro key key' s s' u u' g ho ho' hne hg;rcases old key s u ho with⟨e1,h1,h2,rfl⟩|⟨k1,h1,_,e1⟩
  ·rcases old key' s' u' ho' with⟨e2,_⟩|⟨k2,h2',_,e2⟩
   ·exact absurd (e1.trans e2.symm) hne
   ·exact(ht s h1 h2).2.1 k2 s' u' g h2' hg
  ·rcases old key' s' u' ho' with⟨e2,h3,h4,rfl⟩|⟨k2,h2',_,e2⟩
   ·exact λhv=>(ht s' h3 h4).2.1 k1 s u g h1 hv hg
   ·refine h.eT k1 k2 s s' u u' g h1 h2' (λe=>hne ?_) hg;subst e;cases k1<;>exact e1.trans e2.symm
 ·intro key s u g d n ho hg;rcases old key s u ho with⟨_,h1,h2,rfl⟩|⟨k',h1,_⟩
  ·exact(ht s h1 h2).2.2 g d n hg
  ·exact h.dK k' s u g d n h1 hg
theorem Ai6{w:World}{x:Addr}{v:Value}(hx:w.cell? x=some v):x.block<w.heap.size:=by
 unfold World.cell? at hx;rcases Nat.lt_or_ge x.block w.heap.size with h1|h1
 ·exact h1
 ·rw[Array.getElem?_eq_none h1]at hx;simp at hx
theorem Nm.ext{B B':Nat->Prop}{b n:Nat}{l:List PV}(h:Nm w M β B b n l)(hh:w'.heap[b]? =w.heap[b]?)(hR:∀p v,B2 w M β B p v->B2 w' M' β' B' p v):Nm w' M' β' B' b n l:=by
 cases h with
 |cells l cs t q1 q2 q3=>exact .cells l cs t (by rw[hh];exact q1) q2 (λi p v hp hv=>⟨hR _ _ (q3 i p v hp hv).1,(q3 i p v hp hv).2⟩)
 |arr x cs t q1 q2 q3 q4=>exact .arr x cs t (by rw[hh];exact q1) q2 q3 (λi j p v hi hp hv=>⟨hR _ _ (q4 i j p v hi hp hv).1,(q4 i j p v hi hp hv).2⟩)
 |map gk gv ks vs es clock q1 q2 q3 q4 q5=>exact .map gk gv ks vs es clock (by rw[hh];exact q1) q2 q3 (λi e he=>⟨hR _ _ (q4 i e he).1,hR _ _ (q4 i e he).2⟩) q5
 |dG gk gv ks vs es clock q1 q2 q3 q4 q5=>exact .dG gk gv ks vs es clock (by rw[hh];exact q1) q2 q3 (λi e he=>⟨hR _ _ (q4 i e he).1,hR _ _ (q4 i e he).2⟩) q5
theorem Aqw.ext{B:Nat->Prop}{s:SV}{v:Value}(h:Aqw w M B s v)(hh:∀g,tb v=some g->w'.heap[g]? =w.heap[g]? /\M' g=M g):Aqw w' M' B s v:=by
 rcases h with h|⟨g,c,cur,h1,h2,h3,h4,h5⟩
 ·exact .inl h
 ·have:=hh g (by rw[h1];rfl);exact .inr ⟨g,c,cur,h1,h2,by rw[this.2];exact h3,by rw[this.1];exact h4,h5⟩
theorem Aqw.lt{B:Nat->Prop}{s:SV}{v:Value}(h:Aqw w M B s v){g:Nat}(hg:tb v=some g):¬B g/\∃k,M g=some k:=by
 rcases h with⟨a,h,_⟩|⟨g',c,cur,h1,h2,h3,_⟩
 ·rw[h]at hg;cases a<;>cases hg
 ·rw[h1]at hg;have:g'=g:=by simpa[tb]using hg
  subst this;exact⟨h2,_,h3⟩
theorem SH.world(h:SH H w0 N O D w M β)(hb:Below w.heap.size w w'):SH H w0 N O D w' M β :=by
 have hc:∀(x:Addr) v,w.cell? x=some v->w'.cell? x=some v:=λx v hv=>by rw[hb.cell (Ai6 hv)];exact hv
 have hE:Ext w M w' M:=λx v hi hv=>⟨hi,hc x v hv⟩;have hle:w0.w.heap.size<=w.heap.size:=h.dR.size;have hR:∀p v,B2 w M β w0.old p v->B2 w' M β w0.old p v:=λp v hr=>hr.ext hE (λx hx=>hb.cell (Nat.lt_of_lt_of_le (w0.lt _ hx) hle)) (λ_ _ h=>h);have hO:∀key s v,Own H O w' β key s v->Own H O w β key s v:=by
  intro key s v ho;cases key with
  |slot k=>exact ho
  |cell d i=>
   obtain⟨b,n,p,h1,h2,h3,h4,h5⟩:=ho;have hbl:=h.mlt b 0 (h.box d b n h1).2.1;exact⟨b,n,p,h1,h2,h3,h4,by rw[<-hb.cell (p:=⟨b,i,none⟩) hbl];exact h5⟩
 refine⟨h.dR.later hb,h.mN,λb n hn=>Nat.lt_of_lt_of_le (h.mlt b n hn) hb.size,?_,h.inj,h.dom,λk=>hR _ _ (h.reg k),?_,?_,?_⟩
 ·intro d b n hd;obtain⟨h1,h2,h3⟩:=h.box d b n hd;exact⟨h1,h2,h3.ext (hb.block b (h.mlt b 0 h2)) hR⟩
 ·intro key s v ho;have ht:=h.tok key s v (hO _ _ _ ho);exact ht.ext (λg hg=>⟨hb.block g (let ⟨_,k,hk⟩:=ht.lt hg;h.mlt g k hk),rfl⟩)
 ·intro key key' s s' v v' g ho ho';exact h.eT key key' s s' v v' g (hO _ _ _ ho) (hO _ _ _ ho')
 ·intro key s v g d n ho;exact h.dK key s v g d n (hO _ _ _ ho)
theorem SH.drawn(h:SH H w0 N O D w M β):SH H w0 N O D { w with drawn:=w.drawn+1 } M β :=
 h.world ⟨rfl,rfl,rfl,Nat.le_refl _,λ_ _=>rfl⟩
end
end Go.Proofs.YthjhkpgonleelaaGreatDoor.Ev
namespace Go.Proofs.YthjhkpgonleelaaGreatDoor.Ev
open Go Go.RowKit
section
variable {κ κ':Type} {H: κ->PV×Value} {H': κ'->PV×Value} {w0:Gs} {w w':World} {N M M':T7} {O O':Nat->List PV} {D D':Nat->Bool} {β β':Sk}
theorem Aq2(w:World)(o:Obj){x:Addr}{v:Value}(h:w.cell? x=some v):(w.alloc o).cell? x=some v:=by
 rw[World.cell?_of_block (w:=w) (Below.heap_alloc w o x.block (Ai6 h))];exact h
theorem SH.alloc(h:SH H w0 N O D w M β)(d n:Nat)(l:List PV)(o:Obj)(hnew:D d=true)
  (hO1:O' d=l)(hO2:∀x,x≠d->O' x=O x)(hD:∀x,D' x=true->D x=true/\x≠d)
  (hown:∀(i:Nat) (p:PV) (s:SV),l[i]? =some p->p.sv=some s->s.own=true->∀v,(w.alloc o).cell? ⟨w.heap.size,i,none⟩=some v->s.n=0/\∃a,v=.slice a 0 0)
  (hobj:∀(M':T7) (β':Sk),(∀p v,B2 w M β w0.old p v->B2 (w.alloc o) M' β' w0.old p v)->β' d=some (w.heap.size,n)->Nm (w.alloc o) M' β' w0.old w.heap.size n l):
  ∃M' β',SH H w0 N O' D' (w.alloc o) M' β'/\β' d=some (w.heap.size,n)/\(∀p v,B2 w M β w0.old p v->B2 (w.alloc o) M' β' w0.old p v):=by
 have hβ : β d=none:=h.dom d hnew
 let M':T7:=λb=>if b=w.heap.size then some 0 else M b
 let β':Sk:=λx=>if x=d then some (w.heap.size,n)else β x
 have hMw:M w.heap.size=none:=by
  cases hm:M w.heap.size with
  |none=>rfl
  |some n=>exact absurd (h.mlt _ _ hm) (by omega)
 have hE:Ext w M (w.alloc o) M':=λx v hi hc=>by
  have hx:=Ai6 hc;refine⟨λn hn=>hi n ?_,Aq2 w _ hc⟩;simp only[M']at hn;rw[if_neg (by omega)]at hn;exact hn
 have hle:w0.w.heap.size<=w.heap.size:=h.dR.size;have hβb:∀x b n,β x=some (b,n)->b<w.heap.size:=λx b n hb=>h.mlt b 0 (h.box x b n hb).2.1;have hmono:∀x y,β x=some y->β' x=some y:=λx y hb=>by
  simp only[β'];by_cases e:x=d
  ·subst e;rw[hβ]at hb;cases hb
  ·rw[if_neg e];exact hb
 have hB:∀x:Addr,w0.old x.block->(w.alloc o).cell? x=w.cell? x:=λx hx=>
  World.cell?_of_block (w:=w) (Below.heap_alloc w _ x.block (h.dR.lt hx))
 have hR:∀p v,B2 w M β w0.old p v->B2 (w.alloc o) M' β' w0.old p v:=λp v hr=>hr.ext hE hB hmono;have hd: β' d=some (w.heap.size,n):=by simp[β']
 have hOwn:∀key s v,Own H O' (w.alloc o) β' key s v->Own H O w β key s v\/((∃a,v=.slice a 0 0)/\s.n=0):=by
  intro key s v ho;cases key with
  |slot k=>exact .inl ho
  |cell x i=>
   obtain⟨b,m,p,h1,h2,h3,h4,h5⟩:=ho;simp only[β']at h1;by_cases e:x=d
   ·subst e;rw[if_pos rfl]at h1;injection h1 with h1
    injection h1 with h1 _
    subst h1;rw[hO1]at h2;have:=hown i p s h2 h3 h4 v h5;exact .inr ⟨this.2,this.1⟩
   ·rw[if_neg e]at h1;have hbl:=hβb x b m h1;refine .inl ⟨b,m,p,h1,by rw[<-hO2 x e];exact h2,h3,h4,?_⟩;rw[<-World.cell?_of_block (w:=w) (a:=⟨b,i,none⟩) (Below.heap_alloc w o b hbl)];exact h5
 have tb0:∀v g,(∃a,v=.slice a 0 0)->tb v=some g->False:=by
  rintro v g ⟨a,rfl⟩ hg
  cases a<;>cases hg
 refine⟨M',β',⟨h.dR.alloc _,?_,?_,?_,?_,?_,λk=>hR _ _ (h.reg k),?_,?_,?_⟩,hd,hR⟩
 ·refine⟨λb hb=>?_,h.mN.gl⟩;simp only[M'];rw[if_neg (by have:=h.dR.lt hb;omega)];exact h.mN b hb
 ·intro b n hn;simp only[M']at hn;by_cases e:b=w.heap.size
  ·subst e;simp
  ·rw[if_neg e]at hn;have:=h.mlt b n hn;simp;omega
 ·intro x b m hb;by_cases e:x=d
  ·subst e;rw[hd]at hb;injection hb with hb
   injection hb with hb hb2
   subst hb;subst hb2
   exact⟨h.dR.new,by simp[M'],by rw[hO1];exact hobj M' β' hR hd⟩
  ·simp only[β']at hb;rw[if_neg e]at hb;obtain⟨h1,h2,h3⟩:=h.box x b m hb;have hbl:=h.mlt b 0 h2;exact⟨h1,by simp only[M'];rw[if_neg (by omega)];exact h2,by rw[hO2 x e];exact h3.ext (Below.heap_alloc w _ b hbl) hR⟩
 ·intro x y b m m' hx hy;simp only[β']at hx hy;by_cases e1:x=d<;>by_cases e2:y=d
  ·rw[e1,e2]
  ·rw[if_pos e1]at hx;rw[if_neg e2]at hy
   injection hx with hx;injection hx with hx _
   have:=hβb y b m' hy;omega
  ·rw[if_neg e1]at hx;rw[if_pos e2]at hy
   injection hy with hy;injection hy with hy _
   have:=hβb x b m hx;omega
  ·rw[if_neg e1]at hx;rw[if_neg e2]at hy
   exact h.inj x y b m m' hx hy
 ·intro x hx;obtain⟨h1,h2⟩:=hD x hx;simp only[β'];rw[if_neg h2];exact h.dom x h1
 ·intro key s v ho;rcases hOwn key s v ho with ho|⟨⟨a,ha⟩,hn⟩
  ·have ht:=h.tok key s v ho;refine ht.ext (λg hg=>?_);obtain⟨_,k,hk⟩:=ht.lt hg;have hgl:=h.mlt g k hk;exact⟨Below.heap_alloc w _ g hgl,by simp only[M'];rw[if_neg (by omega)]⟩
  ·exact .inl ⟨a,ha,hn⟩
 ·intro key key' s s' v v' g ho ho' hne hg;rcases hOwn key s v ho with ho|⟨ha,_⟩
  ·rcases hOwn key' s' v' ho' with ho'|⟨ha,_⟩
   ·exact h.eT key key' s s' v v' g ho ho' hne hg
   ·exact λhg'=>tb0 _ _ ha hg'
  ·exact(tb0 _ _ ha hg).elim
 ·intro key s v g x m ho hg;rcases hOwn key s v ho with ho|⟨ha,_⟩
  ·simp only[β'];by_cases e:x=d
   ·rw[if_pos e];intro e3;injection e3 with e3
    injection e3 with e3 _
    obtain⟨_,k,hk⟩:=(h.tok key s v ho).lt hg;have:=h.mlt g k hk;omega
   ·rw[if_neg e];exact h.dK key s v g x m ho hg
  ·exact(tb0 _ _ ha hg).elim
theorem SH.adopt(h:SH H w0 N O D w M β)(d g n:Nat)(l:List PV)(hnew:D d=true)(hgB:¬w0.old g)(hM:M g=some 0)(hbx:∀x n,β x≠some (g,n))
  (hno:∀key s v,Own H O w β key s v->tb v≠some g)(hO1:O' d=l)(hO2:∀x,x≠d->O' x=O x)(hD:∀x,D' x=true->D x=true/\x≠d)
  (hown:∀(i:Nat) (p:PV) (s:SV),l[i]? =some p->p.sv=some s->s.own=true->False)
  (hobj:∀(β':Sk),(∀p v,B2 w M β w0.old p v->B2 w M β' w0.old p v)->β' d=some (g,n)->Nm w M β' w0.old g n l):
  ∃β',SH H w0 N O' D' w M β'/\β' d=some (g,n):=by
 have hβ : β d=none:=h.dom d hnew
 let β':Sk:=λx=>if x=d then some (g,n)else β x
 have hmono:∀x y,β x=some y->β' x=some y:=λx y hb=>by
  simp only[β'];by_cases e:x=d
  ·subst e;rw[hβ]at hb;cases hb
  ·rw[if_neg e];exact hb
 have hR:∀p v,B2 w M β w0.old p v->B2 w M β' w0.old p v:=λp v hr=>hr.ext (Ext.refl w M) (λ_ _=>rfl) hmono;have hd: β' d=some (g,n):=by simp[β']
 have hOwn:∀key s v,Own H O' w β' key s v->Own H O w β key s v:=by
  intro key s v ho;cases key with
  |slot k=>exact ho
  |cell x i=>
   obtain⟨b,m,p,h1,h2,h3,h4,h5⟩:=ho;simp only[β']at h1;by_cases e:x=d
   ·subst e;rw[hO1]at h2;exact(hown i p s h2 h3 h4).elim
   ·rw[if_neg e]at h1;exact⟨b,m,p,h1,by rw[<-hO2 x e];exact h2,h3,h4,h5⟩
 refine⟨β',⟨h.dR,h.mN,h.mlt,?_,?_,?_,λk=>hR _ _ (h.reg k),λkey s v ho=>h.tok key s v (hOwn _ _ _ ho),λkey key' s s' v v' g ho ho'=>h.eT key key' s s' v v' g (hOwn _ _ _ ho) (hOwn _ _ _ ho'),?_⟩,hd⟩
 ·intro x b m hb;by_cases e:x=d
  ·subst e;rw[hd]at hb;injection hb with hb
   injection hb with hb hb2
   subst hb;subst hb2
   exact⟨hgB,hM,by rw[hO1];exact hobj β' hR hd⟩
  ·simp only[β']at hb;rw[if_neg e]at hb;obtain⟨h1,h2,h3⟩:=h.box x b m hb;exact⟨h1,h2,by rw[hO2 x e];exact h3.ext rfl hR⟩
 ·intro x y b m m' hx hy;simp only[β']at hx hy;by_cases e1:x=d<;>by_cases e2:y=d
  ·rw[e1,e2]
  ·rw[if_pos e1]at hx;rw[if_neg e2]at hy
   injection hx with hx;injection hx with hx _
   subst hx;exact absurd hy (hbx y m')
  ·rw[if_neg e1]at hx;rw[if_pos e2]at hy
   injection hy with hy;injection hy with hy _
   subst hy;exact absurd hx (hbx x m)
  ·rw[if_neg e1]at hx;rw[if_neg e2]at hy
   exact h.inj x y b m m' hx hy
 ·intro x hx;obtain⟨h1,h2⟩:=hD x hx;simp only[β'];rw[if_neg h2];exact h.dom x h1
 ·intro key s v b x m ho hg;have ho':=hOwn key s v ho;simp only[β'];by_cases e:x=d
  ·rw[if_pos e];intro e3;injection e3 with e3
   injection e3 with e3 _
   subst e3;exact hno key s v ho' hg
  ·rw[if_neg e];exact h.dK key s v b x m ho' hg
theorem SH.setObj(h:SH H w0 N O D w M β)(d b n:Nat)(hβ : β d=some (b,n))(l:List PV)(hO1:O' d=l)(hO2:∀x,x≠d->O' x=O x)
  (hoth:∀k,k≠b->w'.heap[k]? =w.heap[k]?)(hsz:w'.heap.size=w.heap.size)(hdl:Kp w0 w w')
  (hobj:(∀p v,B2 w M β w0.old p v->B2 w' M β w0.old p v)->Nm w' M β w0.old b n l)
  (hown:∀(i:Nat) (p:PV) (s:SV) (v:Value),l[i]? =some p->p.sv=some s->s.own=true->w'.cell? ⟨b,i,none⟩=some v->((∃q,(O d)[i]? =some q/\q.sv=some s)/\w.cell? ⟨b,i,none⟩=some v)\/(s.n=0/\∃a,v=.slice a 0 0)):
  SH H w0 N O' D w' M β/\(∀p v,B2 w M β w0.old p v->B2 w' M β w0.old p v):=by
 obtain⟨hb1,hb2,hb3⟩:=h.box d b n hβ;have hbw:b<w.heap.size:=h.mlt b 0 hb2;have hE:Ext w M w' M:=λx v hi hc=>by
  have hx:x.block≠b:=λe=>by have:=hi 0 (by rw[e];exact hb2);omega
  exact⟨hi,by rw[World.cell?_of_block (w:=w) (hoth _ hx)];exact hc⟩
 have hR:∀p v,B2 w M β w0.old p v->B2 w' M β w0.old p v:=λp v hr=>hr.ext hE (λx hx=>World.cell?_of_block (w:=w) (hoth _ (λe=>hb1 (by rw[<-e];exact hx)))) (λ_ _ h=>h);have tb0:∀v g,(∃a,v=.slice a 0 0)->tb v=some g->False:=by
  rintro v g ⟨a,rfl⟩ hg
  cases a<;>cases hg
 have hOwn:∀key s v,Own H O' w' β key s v->Own H O w β key s v\/(s.n=0/\∃a,v=.slice a 0 0):=by
  intro key s v ho;cases key with
  |slot k=>exact .inl ho
  |cell x i=>
   obtain⟨b',m,p,h1,h2,h3,h4,h5⟩:=ho;by_cases e:x=d
   ·subst e;rw[hβ]at h1;injection h1 with h1
    injection h1 with h1 h1'
    subst h1;subst h1'
    rw[hO1]at h2;rcases hown i p s v h2 h3 h4 h5 with⟨⟨q,q1,q2⟩,q3⟩|hz
    ·exact .inl ⟨b,n,q,hβ,q1,q2,h4,q3⟩
    ·exact .inr hz
   ·have hne:b'≠b:=λe'=>e (h.inj x d b' m n h1 (by rw[e'];exact hβ));exact .inl ⟨b',m,p,h1,by rw[<-hO2 x e];exact h2,h3,h4,by rw[<-World.cell?_of_block (w:=w) (a:=⟨b',i,none⟩) (hoth b' hne)];exact h5⟩
 refine⟨⟨h.dR.trans hdl,h.mN,λx n hn=>by rw[hsz];exact h.mlt x n hn,?_,h.inj,h.dom,λk=>hR _ _ (h.reg k),?_,?_,?_⟩,hR⟩
 ·intro x b' m hx;by_cases e:x=d
  ·subst e;rw[hβ]at hx;injection hx with hx
   injection hx with hx hx'
   subst hx;subst hx'
   exact⟨hb1,hb2,by rw[hO1];exact hobj hR⟩
  ·obtain⟨h1,h2,h3⟩:=h.box x b' m hx;have hne:b'≠b:=λe'=>e (h.inj x d b' m n hx (by rw[e'];exact hβ));exact⟨h1,h2,by rw[hO2 x e];exact h3.ext (hoth b' hne) hR⟩
 ·intro key s v ho;rcases hOwn key s v ho with ho'|⟨hn,a,ha⟩
  ·refine(h.tok key s v ho').ext (λg hg=>⟨hoth g (λe=>?_),rfl⟩);exact h.dK key s v g d n ho' hg (by rw[e];exact hβ)
  ·exact .inl ⟨a,ha,hn⟩
 ·intro key key' s s' v v' g ho ho' hne hg;rcases hOwn _ _ _ ho with q|⟨_,q⟩
  ·rcases hOwn _ _ _ ho' with q'|⟨_,q'⟩
   ·exact h.eT key key' s s' v v' g q q' hne hg
   ·exact λhg'=>tb0 _ _ q' hg'
  ·exact(tb0 _ _ q hg).elim
 ·intro key s v g x m ho hg;rcases hOwn _ _ _ ho with q|⟨_,q⟩
  ·exact h.dK key s v g x m q hg
  ·exact(tb0 _ _ q hg).elim
theorem SH.rowWrite(h:SH H w0 N O D w M β)(g k k':Nat)(cur cs:Array Value)(t:Nat)(hgB:¬w0.old g)(hM:M g=some k)(hk:k<=k')
  (hh:w.heap[g]? =some (.cells cur t (0,0)))(hsame:∀i,i<k->cs[i]? =cur[i]?)
  (hbox:∀x n,β x≠some (g,n))(hno:∀key s v,Own H O w β key s v->tb v≠some g):
  Ext w M (w.setRow g cs) (λb=>if b=g then some k' else M b)/\SH H w0 N O D (w.setRow g cs) (λb=>if b=g then some k' else M b) β/\
  (∀p v,B2 w M β w0.old p v->B2 (w.setRow g cs) (λb=>if b=g then some k' else M b) β w0.old p v)/\
  (∀key s v,Own H O (w.setRow g cs) β key s v->Own H O w β key s v):=by
 have hw1:(w.setRow g cs).heap[g]? =some (.cells cs t (0,0)):=setRow_heap w g cur _ t (0,0) hh;have hoth:∀x,x≠g->(w.setRow g cs).heap[x]? =w.heap[x]? :=λx hx=>setRow_other w g x _ hx;have hsz:(w.setRow g cs).heap.size=w.heap.size:=by simp[World.setRow]
 have hgw:g<w.heap.size:=h.mlt g k hM;have hE:Ext w M (w.setRow g cs) (λb=>if b=g then some k' else M b):=by
  intro x v hi hc;by_cases e:x.block=g
  ·have hlt:=hi k (by rw[e];exact hM);refine⟨λn hn=>?_,?_⟩
   ·rw[e]at hn;simp only[if_true]at hn;injection hn with hn;omega
   ·unfold World.cell? at hc ⊢;rw[e,hh]at hc;rw[e,hw1];simp only at hc ⊢;rw[hsame _ hlt];exact hc
  ·refine⟨λn hn=>?_,by rw[World.cell?_of_block (w:=w) (hoth _ e)];exact hc⟩;simp only[e,if_false]at hn;exact hi n hn
 have hR:∀p v,B2 w M β w0.old p v->B2 (w.setRow g cs) (λb=>if b=g then some k' else M b) β w0.old p v:=λp v hr=>hr.ext hE (λx hx=>World.cell?_of_block (w:=w) (hoth _ (λe=>hgB (by rw[<-e];exact hx)))) (λ_ _ h=>h);have hOwn:∀key s v,Own H O (w.setRow g cs) β key s v->Own H O w β key s v:=by
  intro key s v ho;cases key with
  |slot k=>exact ho
  |cell x i=>
   obtain⟨b',m,p,h1,h2,h3,h4,h5⟩:=ho;have hne:b'≠g:=λe=>hbox x m (by rw[h1,e]);exact⟨b',m,p,h1,h2,h3,h4,by rw[<-World.cell?_of_block (w:=w) (a:=⟨b',i,none⟩) (hoth b' hne)];exact h5⟩
 refine⟨hE,⟨h.dR.trans ⟨rfl,rfl,rfl,by omega,λx hx=>hoth x (λe=>hgB (by rw[<-e];exact hx))⟩,?_,?_,?_,h.inj,h.dom,λk=>hR _ _ (h.reg k),?_,?_,?_⟩,hR,hOwn⟩
 ·refine⟨λb hb=>?_,h.mN.gl⟩;simp only[show b≠g from λe=>hgB (by rw[<-e];exact hb),if_false];exact h.mN b hb
 ·intro b n hn;by_cases e:b=g
  ·rw[e,hsz];exact hgw
  ·simp only[e,if_false]at hn;rw[hsz];exact h.mlt b n hn
 ·intro d b m hd;have hne:b≠g:=λe=>hbox d m (by rw[hd,e]);obtain⟨h1,h2,h3⟩:=h.box d b m hd;exact⟨h1,by simp only[hne,if_false];exact h2,h3.ext (hoth b hne) hR⟩
 ·intro key s v ho;have ho':=hOwn key s v ho;refine(h.tok key s v ho').ext (λg' hg=>?_);have hne:g'≠g:=λe=>hno key s v ho' (by rw[hg,e]);exact⟨hoth g' hne,by simp only[hne,if_false]⟩
 ·intro key key' s s' v v' g ho ho';exact h.eT key key' s s' v v' g (hOwn _ _ _ ho) (hOwn _ _ _ ho')
 ·intro key s v g x m ho;exact h.dK key s v g x m (hOwn _ _ _ ho)
theorem SH.fixed(h:SH H w0 N O D w M β)(g k:Nat)(hM:M g=some 0)(hbox:∀x n,β x≠some (g,n))(hno:∀key s v,Own H O w β key s v->tb v≠some g)(hgB:¬w0.old g):
  SH H w0 N O D w (λb=>if b=g then some k else M b) β/\(∀p v,B2 w M β w0.old p v->B2 w (λb=>if b=g then some k else M b) β w0.old p v):=by
 have hE:Ext w M w (λb=>if b=g then some k else M b):=by
  intro x v hi hc;refine⟨λn hn=>?_,hc⟩;by_cases e:x.block=g
  ·have:=hi 0 (by rw[e];exact hM);omega
  ·simp only[e,if_false]at hn;exact hi n hn
 have hR:∀p v,B2 w M β w0.old p v->B2 w (λb=>if b=g then some k else M b) β w0.old p v:=λp v hr=>hr.ext hE (λ_ _=>rfl) (λ_ _ h=>h);refine⟨⟨h.dR,?_,?_,?_,h.inj,h.dom,λk=>hR _ _ (h.reg k),?_,h.eT,h.dK⟩,hR⟩
 ·refine⟨λb hb=>?_,h.mN.gl⟩;simp only[show b≠g from λe=>hgB (by rw[<-e];exact hb),if_false];exact h.mN b hb
 ·intro b n hn;by_cases e:b=g
  ·rw[e];exact h.mlt g 0 hM
  ·simp only[e,if_false]at hn;exact h.mlt b n hn
 ·intro d b m hd;have hne:b≠g:=λe=>hbox d m (by rw[hd,e]);obtain⟨h1,h2,h3⟩:=h.box d b m hd;exact⟨h1,by simp only[hne,if_false];exact h2,h3.ext rfl hR⟩
 ·intro key s v ho;refine(h.tok key s v ho).ext (λg' hg=>⟨rfl,?_⟩);have hne:g'≠g:=λe=>hno key s v ho (by rw[hg,e]);simp only[hne,if_false]
theorem SH.rowNew(h:SH H w0 N O D w M β)(cs:Array Value)(t k:Nat):
  Ext w M (w.alloc (.cells cs t)) (λb=>if b=w.heap.size then some k else M b)/\SH H w0 N O D (w.alloc (.cells cs t)) (λb=>if b=w.heap.size then some k else M b) β/\
  (∀p v,B2 w M β w0.old p v->B2 (w.alloc (.cells cs t)) (λb=>if b=w.heap.size then some k else M b) β w0.old p v)/\
  (∀x n,β x≠some (w.heap.size,n))/\(∀key s v,Own H O (w.alloc (.cells cs t)) β key s v->Own H O w β key s v/\tb v≠some w.heap.size):=by
 have hoth:∀x,x<w.heap.size->(w.alloc (.cells cs t)).heap[x]? =w.heap[x]? :=λx hx=>Below.heap_alloc w _ x hx;have hle:w0.w.heap.size<=w.heap.size:=h.dR.size;have hE:Ext w M (w.alloc (.cells cs t)) (λb=>if b=w.heap.size then some k else M b):=λx v hi hc=>by
  have hx:=Ai6 hc;refine⟨λn hn=>hi n ?_,Aq2 w _ hc⟩;simp only[show x.block≠w.heap.size by omega,if_false]at hn;exact hn
 have hβb:∀x b n,β x=some (b,n)->b<w.heap.size:=λx b n hb=>h.mlt b 0 (h.box x b n hb).2.1;have hR:∀p v,B2 w M β w0.old p v->B2 (w.alloc (.cells cs t)) (λb=>if b=w.heap.size then some k else M b) β w0.old p v:=λp v hr=>
  hr.ext hE (λx hx=>World.cell?_of_block (w:=w) (hoth _ (h.dR.lt hx))) (λ_ _ h=>h)
 have hOwn:∀key s v,Own H O (w.alloc (.cells cs t)) β key s v->Own H O w β key s v:=by
  intro key s v ho;cases key with
  |slot k=>exact ho
  |cell x i=>
   obtain⟨b',m,p,h1,h2,h3,h4,h5⟩:=ho;exact⟨b',m,p,h1,h2,h3,h4,by rw[<-World.cell?_of_block (w:=w) (a:=⟨b',i,none⟩) (hoth b' (hβb x b' m h1))];exact h5⟩
 have hlt:∀key s v,Own H O w β key s v->∀g,tb v=some g->g<w.heap.size:=λkey s v ho g hg=>by
  obtain⟨_,k,hk⟩:=(h.tok key s v ho).lt hg;exact h.mlt g k hk
 refine⟨hE,⟨h.dR.alloc _,?_,?_,?_,h.inj,h.dom,λk=>hR _ _ (h.reg k),?_,?_,?_⟩,hR,?_,?_⟩
 ·refine⟨λb hb=>?_,h.mN.gl⟩;simp only[show b≠w.heap.size by have:=h.dR.lt hb;omega,if_false];exact h.mN b hb
 ·intro b n hn;by_cases e:b=w.heap.size
  ·subst e;simp
  ·simp only[e,if_false]at hn;have:=h.mlt b n hn;simp;omega
 ·intro d b m hd;obtain⟨h1,h2,h3⟩:=h.box d b m hd;have hbl:=hβb d b m hd;exact⟨h1,by simp only[show b≠w.heap.size by omega,if_false];exact h2,h3.ext (hoth b hbl) hR⟩
 ·intro key s v ho;have ho':=hOwn key s v ho;refine(h.tok key s v ho').ext (λg hg=>?_);have:=hlt key s v ho' g hg;exact⟨hoth g this,by simp only[show g≠w.heap.size by omega,if_false]⟩
 ·intro key key' s s' v v' g ho ho';exact h.eT key key' s s' v v' g (hOwn _ _ _ ho) (hOwn _ _ _ ho')
 ·intro key s v g x m ho;exact h.dK key s v g x m (hOwn _ _ _ ho)
 ·intro x n hx;have:=hβb x _ n hx;omega
 ·intro key s v ho;have ho':=hOwn key s v ho;refine⟨ho',λhg=>?_⟩;have:=hlt key s v ho' _ hg;omega
end
end Go.Proofs.YthjhkpgonleelaaGreatDoor.Ev
namespace Go.Proofs.YthjhkpgonleelaaGreatDoor.Ev
open Go Go.RowKit
def hold{ι :Type}(cx: ι->PV×Value)(st:St)(a:Act):Nat ⊕ ι->PV×Value
 | .inl s=>(st.get s,a.tmps.getD s undef)
 | .inr i=>cx i
structure SR {ι :Type} (cx: ι->PV×Value) (w0:Gs) (N:T7) (nt:Nat) (st:St) (a:Act) (w:World) (M:T7) (β :Sk):Prop where
 defs:a.defers= []
 nt:a.tmps.size=nt
 sh:SH (hold cx st a) w0 N st.obj (λd=>Ay d (st.ob.map Prod.fst)) w M β
theorem Dc{α :Type}(d x: α)(r:List (Nat×α))(a s:Nat):Dn d ((a,x)::r) s=if a=s then x else Dn d r s:=by
 by_cases h:a=s
 ·subst h;simp[Dn]
 ·have:Nat.beq a s=false:=by
   cases hb:Nat.beq a s
   ·rfl
   ·exact absurd (Nat.eq_of_beq_eq_true hb) h
  simp[Dn,this,h]
theorem Bw(d:Nat)(l:List Nat):Ay d l=true↔d∉l:=by
 induction l with
 |nil=>simp[Ay]
 |cons a l ih=>
  by_cases h:a=d
  ·subst h;simp[Ay]
  ·have:Nat.beq a d=false:=by
    cases hb:Nat.beq a d
    ·rfl
    ·exact absurd (Nat.eq_of_beq_eq_true hb) h
   have h':d≠a:=λe=>h e.symm;simp[Ay,this,ih,h']
theorem U1{α :Type}(d: α)(l r:List (Nat×α))(s:Nat):Dn d (l++r) s=if s∈l.map Prod.fst then Dn d l s else Dn d r s:=by
 induction l with
 |nil=>simp
 |cons x l ih=>
  obtain⟨a,y⟩:=x;rw[List.cons_append,Dc,Dc,ih];by_cases h:a=s
  ·subst h;simp
  ·have:¬s=a:=λe=>h e.symm;simp only[h,if_false,List.map_cons,List.mem_cons,this,false_or]
theorem Y9(l r:List Nat)(d:Nat):Ay d (l++r)=(Ay d l && Ay d r):=by
 rw[Bool.eq_iff_iff];simp[Bw]
theorem A5i(K:List Nat):∀(l:List (Nat×List PV)) (d:Nat),Dn [] (rem K l) d=if d∈K then[]else Dn [] l d
 | [],d=>by simp[rem,Dn]
 |(a,x)::r,d=>by
  simp only[rem];cases h:Ay a K with
  |true=>
   have ha:=(Bw _ _).1 h;simp only;rw[Dc,Dc,A5i K r d];by_cases e:a=d
   ·subst e;simp[ha]
   ·simp[e]
  |false=>
   have ha:a∈K:=by
    have:¬Ay a K=true:=by rw[h];simp
    rw[Bw]at this;exact Classical.not_not.1 this
   simp only;rw[Dc,A5i K r d];by_cases e:a=d
   ·subst e;simp[ha]
   ·simp[e]
theorem Ba5(K:List Nat):∀(l:List (Nat×List PV)) (d:Nat),d∈(rem K l).map Prod.fst↔d∈l.map Prod.fst/\d∉K
 | [],d=>by simp[rem]
 |(a,x)::r,d=>by
  simp only[rem];cases h:Ay a K with
  |true=>
   have ha:=(Bw _ _).1 h;simp only[List.map_cons,List.mem_cons,Ba5 K r d];constructor
   ·rintro (rfl|⟨h1,h2⟩)
    ·exact⟨.inl rfl,ha⟩
    ·exact⟨.inr h1,h2⟩
   ·rintro ⟨h1|h1,h2⟩
    ·exact .inl h1
    ·exact .inr ⟨h1,h2⟩
  |false=>
   have ha:a∈K:=by
    have:¬Ay a K=true:=by rw[h];simp
    rw[Bw]at this;exact Classical.not_not.1 this
   simp only[List.map_cons,List.mem_cons,Ba5 K r d];constructor
   ·rintro ⟨h1,h2⟩;exact⟨.inr h1,h2⟩
   ·rintro ⟨h1|h1,h2⟩
    ·subst h1;exact absurd ha h2
    ·exact⟨h1,h2⟩
theorem Av6{a b:List Nat}{d:Nat}(h:d∈a↔d∈b):Ay d a=Ay d b:=by
 rw[Bool.eq_iff_iff,Bw,Bw,h]
theorem S3{α :Type}{d: α}(f:Nat->α):∀(keys:List Nat) (s:Nat),Dn d (keys.map λx=>(x,f x)) s=if s∈keys then f s else d:=by
 intro keys
 induction keys with
 |nil=>intro s;simp[Dn]
 |cons x keys ih=>
  intro s;rw[List.map_cons,Dc,ih];by_cases e:x=s
  ·subst e;simp
  ·have:¬s=x:=λe'=>e e'.symm;simp only[e,if_false,List.mem_cons,this,false_or]
theorem Bc6(d:Nat):∀(l:List Nat) (x:Nat),x∈Bna d l↔x=d\/x∈l
 | [],x=>by simp[Bna]
 |b::r,x=>by
  simp only[Bna];cases h1:Nat.blt d b with
  |true=>simp
  |false=>
   cases h2:Nat.beq d b with
   |true=>
    have:=Nat.eq_of_beq_eq_true h2;subst this;simp
   |false=>
    simp only[List.mem_cons,Bc6 d r x];constructor
    ·rintro (h|h|h)
     ·exact .inr (.inl h)
     ·exact .inl h
     ·exact .inr (.inr h)
    ·rintro (h|h|h)
     ·exact .inr (.inl h)
     ·exact .inl h
     ·exact .inr (.inr h)
theorem Zb:∀(l:List Nat) (x:Nat),x∈A5p l↔x∈l
 | [],x=>Iff.rfl
 |d::r,x=>by simp only[A5p,Bc6,Zb r x,List.mem_cons]
theorem A74{α :Type}(d: α):∀(l:List (Nat×α)) (s:Nat),s∉l.map Prod.fst->Dn d l s=d
 | [],s,_=>rfl
 |(a,x)::r,s,h=>by
  rw[Dc,if_neg (λe=>h (by simp[e]))];exact A74 d r s (λhs=>h (by simp at hs ⊢;exact .inr hs))
theorem A78(l:List (Nat×List PV))(d:Nat):(d∈(Apd l).map Prod.fst)=(d∈l.map Prod.fst):=by
 have e:(Apd l).map Prod.fst=A5p (l.map Prod.fst):=by
  unfold Apd;rw[List.map_map];exact List.map_id' _
 rw[e];exact propext (Zb _ _)
theorem Bgi(l:List (Nat×List PV))(d:Nat):Dn [] (Apd l) d=Dn [] l d:=by
 unfold Apd;rw[S3];by_cases h:d∈A5p (l.map Prod.fst)
 ·rw[if_pos h]
 ·rw[if_neg h,A74 [] l d (λhm=>h ((Zb _ _).2 hm))]
theorem Bkh(l:List (Nat×List PV))(d:Nat):Ay d ((Apd l).map Prod.fst)=Ay d (l.map Prod.fst):=Av6 (by rw[A78])
theorem A4n(o l:List (Nat×List PV))(d:Nat):Dn [] (Buy o l) d=Dn [] (o++l) d:=by
 match o with
 | []=>rfl
 | [x]=>rfl
 |x::y::r=>
  show Dn [] ((x::y::r)++rem ((x::y::r).map Prod.fst) l) d=_
  rw[U1,U1,A5i];by_cases h:d∈(x::y::r).map Prod.fst
  ·rw[if_pos h,if_pos h]
  ·rw[if_neg h,if_neg h,if_neg h]
theorem A93(o l:List (Nat×List PV))(d:Nat):Ay d ((Buy o l).map Prod.fst)=Ay d ((o++l).map Prod.fst):=by
 match o with
 | []=>rfl
 | [x]=>rfl
 |x::y::r=>
  refine Av6 ?_;show d∈((x::y::r)++rem ((x::y::r).map Prod.fst) l).map Prod.fst↔_
  rw[List.map_append,List.map_append,List.mem_append,List.mem_append,Ba5];constructor
  ·rintro (h|⟨h,_⟩)
   ·exact .inl h
   ·exact .inr h
  ·rintro (h|h)
   ·exact .inl h
   ·by_cases e:d∈(x::y::r).map Prod.fst
    ·exact .inl e
    ·exact .inr ⟨h,e⟩
theorem Ahu(a:Act)(d s:Nat)(v:Value)(hd:d<a.tmps.size):(a.put (some d) v).tmps.getD s undef=if d=s then v else a.tmps.getD s undef:=by
 simp only[Act.put,Array.getD_eq_getD_getElem?,Array.getElem?_setIfInBounds];by_cases h:d=s
 ·subst h;simp[hd]
 ·simp[h]
theorem Lp(st:St)(d s:Nat)(p:PV):(st.app ⟨[(d,p)],[]⟩).get s=if d=s then p else st.get s:=Dc _ _ _ _ _
section
variable {ι :Type} {cx: ι->PV×Value} {w0:Gs} {w w':World} {N M M':T7} {β β':Sk} {nt:Nat} {st st':St} {a:Act}
theorem SR.reg(h:SR cx w0 N nt st a w M β)(s:Nat):B2 w M β w0.old (st.get s) (a.tmps.getD s undef):=h.sh.reg (.inl s)
def Awp(d:Nat):W2 (Nat ⊕ ι)->Option (W2 (Option (Nat ⊕ ι)))
 | .slot (.inl s)=>if d=s then some (.slot none)else some (.slot (some (.inl s)))
 | .slot (.inr i)=>some (.slot (some (.inr i)))
 | .cell x i=>some (.cell x i)
def Bwl(d:Nat):W2 (Option (Nat ⊕ ι))->W2 (Nat ⊕ ι)
 | .slot none=>.slot (.inl d)
 | .slot (some k)=>.slot k
 | .cell x i=>.cell x i
theorem A0n{d:Nat}{k:W2 (Nat ⊕ ι)}{j:W2 (Option (Nat ⊕ ι))}(h:Awp d k=some j):k=Bwl d j:=by
 cases k with
 |slot k=>
  cases k with
  |inl s=>
   simp only[Awp]at h;by_cases e:d=s
   ·rw[if_pos e]at h;injection h with h;subst h;rw[<-e];rfl
   ·rw[if_neg e]at h;injection h with h;subst h;rfl
  |inr i=>injection h with h;subst h;rfl
 |cell x i=>injection h with h;subst h;rfl
theorem SR.of_cons{O:Nat->List PV}{D:Nat->Bool}(hdef:a.defers= [])(hnt:a.tmps.size=nt){d:Nat}(hd:d<nt){p:PV}{v:Value}{st0:St}
  (h:SH (Qw (p,v) (hold cx st0 a)) w0 N O D w M β)(hg:∀s,st'.get s=if d=s then p else st0.get s)(hO:∀x,st'.obj x=O x)
  (hD:∀x,Ay x (st'.ob.map Prod.fst)=true->D x=true):SR cx w0 N nt st' (a.put (some d) v) w M β :=by
 have hds:d<a.tmps.size:=by rw[hnt];exact hd
 have e:st'.obj=O:=funext hO;refine⟨hdef,by simp[Act.put,hnt],?_⟩;rw[e];have hH:∀s,hold cx st' (a.put (some d) v) (.inl s)=(if d=s then p else st0.get s,if d=s then v else a.tmps.getD s undef):=λs=>by
  simp only[hold];rw[hg,Ahu a d s v hds]
 refine h.perm (λk=>?_) (λd b n hb=>(h.box d b n hb).2.2) (λx hx=>h.dom x (hD x hx)) (Awp d) ?_ (λk k' j h1 h2=>(A0n h1).trans (A0n h2).symm)
 ·cases k with
  |inl s=>
   rw[hH];by_cases e:d=s
   ·simp only[e,if_true];exact h.reg none
   ·simp only[e,if_false];exact h.reg (some (.inl s))
  |inr i=>exact h.reg (some (.inr i))
 ·intro key s u ho;cases key with
  |slot k=>
   cases k with
   |inl t=>
    have ho':(hold cx st' (a.put (some d) v) (.inl t)).1.sv=some s/\s.own=true/\(hold cx st' (a.put (some d) v) (.inl t)).2=u:=ho;rw[hH]at ho';by_cases e:d=t
    ·refine⟨.slot none,by simp only[Awp];rw[if_pos e],?_⟩;rw[if_pos e,if_pos e]at ho';exact ho'
    ·refine⟨.slot (some (.inl t)),by simp only[Awp];rw[if_neg e],?_⟩;rw[if_neg e,if_neg e]at ho';exact ho'
   |inr i=>exact⟨_,rfl,ho⟩
  |cell x i=>exact⟨_,rfl,ho⟩
theorem SR.put(h:SR cx w0 N nt st a w M β)(d:Nat)(p:PV)(v:Value)(hd:d<nt)(hr:B2 w M β w0.old p v)(hn:∀s,p.sv=some s->s.own=false):
  SR cx w0 N nt (st.app ⟨[(d,p)],[]⟩) (a.put (some d) v) w M β :=
 SR.of_cons h.defs h.nt hd (h.sh.cons p v hr (λs h1 h2=>by rw[hn s h1]at h2;cases h2)) (λs=>Lp st d s p) (λ_=>rfl) (λ_ h=>h)
theorem SR.dput(h:SR cx w0 N nt st a w M β)(d:Option Nat)(p:PV)(v:Value)(hd:∀x,d=some x->x<nt)(hr:B2 w M β w0.old p v)(hn:∀s,p.sv=some s->s.own=false):
  SR cx w0 N nt (st.app (dput d p)) (a.put d v) w M β :=by
 cases d with
 |none=>exact h
 |some x=>exact h.put x p v (hd x rfl) hr hn
theorem SR.world(h:SR cx w0 N nt st a w M β)(hb:Below w.heap.size w w'):SR cx w0 N nt st a w' M β :=⟨h.defs,h.nt,h.sh.world hb⟩
theorem SR.drawn(h:SR cx w0 N nt st a w M β):SR cx w0 N nt st a { w with drawn:=w.drawn+1 } M β :=⟨h.defs,h.nt,h.sh.drawn⟩
theorem SR.drop(h:SR cx w0 N nt st a w M β)(s:Nat):SR cx w0 N nt (st.app ⟨[(s,(st.get s).view)],[]⟩) a w M β :=by
 refine⟨h.defs,h.nt,h.sh.hold (λk=>?_) some (λk sv h1 h2=>?_) (λk k' j h1 h2=>by injection h1 with h1;injection h2 with h2;rw[h1,h2])⟩
 ·cases k with
  |inl t=>
   simp only[hold];rw[Lp];by_cases e:s=t
   ·subst e;rw[if_pos rfl];exact(h.reg s).view
   ·rw[if_neg e];exact h.reg t
  |inr i=>exact h.sh.reg (.inr i)
 ·cases k with
  |inl t=>
   simp only[hold]at h1;rw[Lp]at h1;by_cases e:s=t
   ·rw[if_pos e]at h1;rw[Su h1]at h2;cases h2
   ·rw[if_neg e]at h1;exact⟨_,rfl,h1,rfl⟩
  |inr i=>exact⟨_,rfl,h1,rfl⟩
theorem Awh{O:Nat->List PV}{s:Nat}{sv:SV}(h1:(st.get s).sv=some sv)(h2:sv.own=true):Own (hold cx st a) O w β (.slot (.inl s)) sv (a.tmps.getD s undef):=⟨h1,h2,rfl⟩
theorem Aro{O:Nat->List PV}{s:Nat}{key:W2 (Nat ⊕ ι)}{sv:SV}{v:Value}(h:Own (hold cx (st.app ⟨[(s,(st.get s).view)],[]⟩) a) O w β key sv v):
  Own (hold cx st a) O w β key sv v/\key≠ .slot (.inl s):=by
 cases key with
 |slot k=>
  cases k with
  |inl t=>
   obtain⟨h1,h2,h3⟩:=h;simp only[hold]at h1;rw[Lp]at h1;by_cases e:s=t
   ·rw[if_pos e]at h1;rw[Su h1]at h2;cases h2
   ·rw[if_neg e]at h1;exact⟨⟨h1,h2,h3⟩,λe'=>by injection e' with e';injection e' with e';exact e e'.symm⟩
  |inr i=>exact⟨h,λe=>by injection e with e;cases e⟩
 |cell d i=>exact⟨h,λe=>by cases e⟩
theorem Za(l:List PV):∀(off:Nat) (new:List PV),(Li l off new).length=l.length:=by
 induction l with
 |nil=>intro off new;simp[Li]
 |cons p r ih=>
  intro off new;cases new with
  |nil=>cases off<;>simp[Li]
  |cons q new=>
   cases off with
   |zero=>simp[Li,ih]
   |succ n=>simp[Li,ih]
theorem Ae2(l:List PV):∀(off:Nat) (new:List PV) (i:Nat),off+new.length<=l.length->
  (Li l off new)[i]? =if off<=i/\i<off+new.length then new[i-off]? else l[i]? :=by
 induction l with
 |nil=>
  intro off new i h;have h1:off=0:=by simp at h;omega
  have h2:new= []:=List.eq_nil_of_length_eq_zero (by simp only[List.length_nil]at h;omega);subst h1;subst h2;simp[Li]
 |cons p r ih=>
  intro off new i h;cases new with
  |nil=>
   have:Li (p::r) off []=p::r:=by cases off<;>rfl
   rw[this,if_neg (λhh=>absurd hh.2 (by simp only[List.length_nil];omega))]
  |cons q new=>
   cases off with
   |zero=>
    have e:Li (p::r) 0 (q::new)=q::Li r 0 new:=rfl;rw[e];cases i with
    |zero=>simp
    |succ i=>
     rw[List.getElem?_cons_succ,ih 0 new i (by simp at h ⊢;omega)];by_cases hi:i<new.length
     ·rw[if_pos ⟨by omega,by omega⟩,if_pos ⟨by omega,by simp;omega⟩];simp
     ·rw[if_neg (by omega),if_neg (by simp;omega)];simp
   |succ n=>
    have e:Li (p::r) (n+1) (q::new)=p::Li r n (q::new):=rfl;rw[e];cases i with
    |zero=>rw[if_neg (by omega)];simp
    |succ i=>
     rw[List.getElem?_cons_succ,ih n (q::new) i (by simp at h ⊢;omega)];by_cases hi:n<=i/\i<n+(q::new).length
     ·rw[if_pos hi,if_pos ⟨by omega,by omega⟩]
      congr 1;omega
     ·rw[if_neg hi,if_neg (by omega)];simp
theorem Ag4(l:List PV):∀n,Abc l n=true↔l.length=n:=by
 induction l with
 |nil=>intro n;cases n<;>simp[Abc]
 |cons p r ih=>intro n;cases n<;>simp[Abc,ih]
theorem Vn(l:List PV):∀n,W7 l n=true↔n<=l.length:=by
 induction l with
 |nil=>intro n;cases n<;>simp[W7]
 |cons p r ih=>intro n;cases n<;>simp[W7,ih]
theorem A92(cs:List Value)(off:Nat)(vs:List Value)(h:off+vs.length<=cs.length)(i:Nat):
  (cs.take off++vs++cs.drop (off+vs.length))[i]? =if off<=i/\i<off+vs.length then vs[i-off]? else cs[i]? :=by
 rw[List.append_assoc];by_cases h1:i<off
 ·rw[if_neg (by omega),List.getElem?_append_left (by simp;omega),List.getElem?_take,if_pos h1]
 ·rw[List.getElem?_append_right (by simp;omega)];have hl:(cs.take off).length=off:=by simp;omega
  rw[hl];by_cases h2:i<off+vs.length
  ·rw[if_pos ⟨by omega,h2⟩,List.getElem?_append_left (by omega)]
  ·rw[if_neg (by omega),List.getElem?_append_right (by omega),List.getElem?_drop]
   congr 1;omega
def RC(w:World)(M:T7)(β :Sk)(B:Nat->Prop)(l:List PV)(cs:Array Value):Prop:=l.length=cs.size/\∀(i:Nat) (p:PV) (v:Value),l[i]? =some p->cs[i]? =some v->B2 w M β B p v/\v.oneCell'=true
theorem Bl3{B:Nat->Prop}{p:PV}{v:Value}(h:B2 w M β B p v)(h1:Aev p.cells=true):
  v.cells.toList.length=p.cells.length/\(∀(i:Nat) (q:PV) (u:Value),p.cells[i]? =some q->v.cells.toList[i]? =some u->B2 w M β B q u/\u.oneCell'=true):=by
 have single:∀p v,B2 w M β B p v->p.one=true->p.cells= [p]->v.cells.toList.length=p.cells.length/\(∀(i:Nat) (q:PV) (u:Value),p.cells[i]? =some q->v.cells.toList[i]? =some u->B2 w M β B q u/\u.oneCell'=true):=by
  intro p v h h1 h2;have ho:=h.one h1;have hv:v.cells= #[v]:=by cases v<;>first|rfl|(simp[Value.oneCell']at ho)
  rw[h2,hv];refine⟨rfl,λi q u hq hu=>?_⟩;cases i with
  |zero=>simp at hq hu;subst hq;subst hu;exact⟨h,ho⟩
  |succ i=>simp at hq
 cases p with
 |agg l=>
  cases h with
  |agg l cs hl ho hr=>
   refine⟨hl.symm,λi q u hq hu=>⟨hr i q u hq hu,ho u ?_⟩⟩;exact List.mem_of_getElem? hu
  |row p s hs=>cases hs
 |any=>simp[PV.cells,Aev,PV.one]at h1
 |bY l=>simp[PV.cells,Aev,PV.one]at h1
 |ref l=>simp[PV.cells,Aev,PV.one]at h1
 |aX x=>simp[PV.cells,Aev,PV.one]at h1
 |aO _ _ _ _=>simp[PV.cells,Aev,PV.one]at h1
 |dG _ _ _ _ _ _=>simp[PV.cells,Aev,PV.one]at h1
 |val v=>exact single _ _ h (by simp only[PV.cells,Aev]at h1;split at h1;assumption;cases h1) rfl
 |_=>exact single _ _ h rfl rfl
theorem Ic{l:List PV}{i:Nat}{q:PV}(h:(l.map PV.view)[i]? =some q):∃p,l[i]? =some p/\q=p.view:=by
 rw[List.getElem?_map]at h;cases hp:l[i]? with
 |none=>rw[hp]at h;cases h
 |some p=>rw[hp]at h;injection h with h;exact⟨p,rfl,h.symm⟩
theorem Abo{B:Nat->Prop}{p:PV}{v:Value}(h:B2 w M β B p v)(h1:Aev p.cells=true):
  v.cells.toList.length=(p.cells.map PV.view).length/\(∀(i:Nat) (q:PV) (u:Value),(p.cells.map PV.view)[i]? =some q->v.cells.toList[i]? =some u->B2 w M β B q u/\u.oneCell'=true):=by
 obtain⟨c1,c2⟩:=Bl3 h h1;refine⟨by rw[c1];simp,λi q u hq hu=>?_⟩;obtain⟨p',hp',rfl⟩:=Ic hq;obtain⟨r1,r2⟩:=c2 i p' u hp' hu;exact⟨r1.view,r2⟩
theorem SR.aT(h:SR cx w0 N nt st a w M β)(x:Operand):B2 w M β w0.old (st.aT x) (a.eval x):=by
 cases x with
 |tmp t=>exact h.reg t
 |const v=>
  show B2 w M β w0.old (match Ayw v with|true=>.val v|false=>.any) v
  cases hv:Ayw v with
  |true=>exact .val v (by rw[<-Bar];exact hv)
  |false=>exact .any v
 |global g=>
  show B2 w M β w0.old (match A37 GL g with|some x=>.ref [.bA false x]|none=>.any) (.pointer (some ⟨g,0,none⟩))
  cases hg:A37 GL g with
  |none=>exact .any _
  |some x=>
   obtain⟨q1,v,q2,q3⟩:=h.sh.mN.gl.here h.sh.dR h.sh.mN.eq β w0.old hg;refine .ref [.bA false x] ⟨g,0,none⟩ (λ_=>v) (λi p hp=>?_) (λi p hp=>?_)
   ·cases i with
    |zero=>rw[Ar2];exact⟨.inl q1,q2,q3.one rfl⟩
    |succ i=>simp at hp
   ·cases i with
    |zero=>injection hp with hp;subst hp;exact q3
    |succ i=>simp at hp
 |func f=>exact .bI f 0 [] [] rfl (λi p v hp=>by simp at hp)
theorem SR.valOf(h:SR cx w0 N nt st a w M β):∀(l:List Operand),Aki st l=true->∀x∈l,a.eval x=st.valOf x:=by
 intro l
 induction l with
 |nil=>intro _ x hx;cases hx
 |cons y l ih=>
  intro hl x hx;simp only[Aki]at hl;split at hl
  ·rename_i v hy;rcases List.mem_cons.1 hx with e|e
   ·subst e;have:=h.aT x;rw[hy]at this;simp only[St.valOf,hy];exact this.val_eq
   ·exact ih hl x e
  ·cases hl
theorem Bde{l:List PV}{Q:Nat->PV->Value->Prop}(h:∀(i:Nat) (p:PV),l[i]? =some p->∃v,Q i p v):
  ∃vs:List Value,vs.length=l.length/\∀(i:Nat) (p:PV) (v:Value),l[i]? =some p->vs[i]? =some v->Q i p v:=by
 induction l generalizing Q with
 |nil=>exact⟨[],rfl,λi p v hp=>by simp at hp⟩
 |cons p r ih=>
  obtain⟨v,hv⟩:=h 0 p rfl;obtain⟨vs,h1,h2⟩:=ih (Q:=λi=>Q (i+1)) (λi q hq=>h (i+1) q (by simpa using hq));refine⟨v::vs,by simp[h1],λi q u hq hu=>?_⟩;cases i with
  |zero=>simp at hq hu;subst hq;subst hu;exact hv
  |succ i=>exact h2 i q u (by simpa using hq) (by simpa using hu)
def Zf(w:World)(M:T7)(β :Sk)(B:Nat->Prop)(ad:Addr)(l:List PV):Prop:=∀(i:Nat) (p:PV),l[i]? =some p->∃v,w.cell? (ad.add i)=some v/\B2 w M β B p v/\v.oneCell'=true
theorem Zf.views{B:Nat->Prop}{ad:Addr}{l:List PV}(h:Zf w M β B ad l):Zf w M β B ad (l.map PV.view):=λi p hp=>by
 obtain⟨q,h1,rfl⟩:=Ic hp;obtain⟨v,a,b,c⟩:=h i q h1;exact⟨v,a,b.view,c⟩
theorem Bd3:∀(l:List PV),plain (l.map PV.view)=plain l:=by
 intro l
 induction l with
 |nil=>rfl
 |cons p l ih=>cases p<;>simp only[List.map,PV.view,plain]<;>exact ih
theorem Box{b:Nat}{x:LX}(h:st.vobj b= [.aX x]):st.obj b= [.aX x]:=by
 unfold St.vobj at h;generalize st.obj b=l at h ⊢
 match l,h with
 | [],h=>cases h
 | [p],h=>cases p<;>simp[PV.view]at h ⊢ <;>exact h
 |p::q::r,h=>simp at h
theorem Bk8(b off sz:Nat):((st.vobj b).drop off).take sz=(((st.obj b).drop off).take sz).map PV.view:=by
 simp only[St.vobj,List.map_drop,List.map_take]
theorem Bn3{B:Nat->Prop}{x:LX}{v:Value}(h:B2 w M β B (.aX x) v):False:=by
 cases h with
 |row p s hs=>cases hs
theorem Bei{B:Nat->Prop}{g1 g2:Bool}{x y:LX}{v:Value}(h:B2 w M β B (.aO g1 g2 x y) v):False:=by
 cases h with
 |row p s hs=>cases hs
theorem Beh{B:Nat->Prop}{es:Array MapEntry}{c:Nat}{g1 g2:Bool}{x y:LX}{v:Value}(h:B2 w M β B (.dG es c g1 g2 x y) v):False:=by
 cases h with
 |row p s hs=>cases hs
theorem A89{B:Nat->Prop}{b n:Nat}{l:List PV}{x:LX}(h:Nm w M β B b n l)(hl:l= [.aX x]):∃cs t,w.heap[b]? =some (.cells cs t (0,0))/\x.len=n/\n*x.sz<=cs.size/\
  ∀(i j:Nat) (p:PV) (v:Value),i<n->(x.row i)[j]? =some p->cs[i*x.sz+j]? =some v->B2 w M β B p v/\v.oneCell'=true:=by
 cases h with
 |cells l cs t q1 q2 q3=>
  subst hl;have hs:1<=cs.size:=q2;have:=(q3 0 _ (cs[0]'(by omega)) rfl (Array.getElem?_eq_getElem (by omega))).1;exact(Bn3 this).elim
 |arr y cs t q1 q2 q3 q4=>injection hl with hl;injection hl with hl;subst hl;exact⟨cs,t,q1,q2,q3,q4⟩
 |map=>injection hl with hl;cases hl
 |dG=>injection hl with hl;cases hl
theorem A91{B:Nat->Prop}{b n:Nat}{l:List PV}{gk gv:Bool}{ks vs:LX}(h:Nm w M β B b n l)(hl:l= [.aO gk gv ks vs]):∃es clock,w.heap[b]? =some (.map es clock)/\es.size=ks.len/\vs.len=ks.len/\
  (∀(i:Nat) (e:MapEntry),es[i]? =some e->B2 w M β B (mkP gk (ks.row i)) e.key/\B2 w M β B (mkP gv (vs.row i)) e.val)/\Rr es clock:=by
 cases h with
 |cells l cs t q1 q2 q3=>
  subst hl;have hs:1<=cs.size:=q2;have:=(q3 0 _ (cs[0]'(by omega)) rfl (Array.getElem?_eq_getElem (by omega))).1;exact(Bei this).elim
 |arr=>injection hl with hl;cases hl
 |dG=>injection hl with hl;cases hl
 |map gk' gv' ks' vs' es clock q1 q2 q3 q4 q5=>injection hl with hl;injection hl with e1 e2 e3 e4;subst e1;subst e2;subst e3;subst e4;exact⟨es,clock,q1,q2,q3,q4,q5⟩
theorem Buw{B:Nat->Prop}{b n:Nat}{l:List PV}{gk gv:Bool}{ks vs:LX}(h:Nm w M β B b n l)(hl:Biy l=some (gk,gv,ks,vs)):∃es clock,w.heap[b]? =some (.map es clock)/\es.size=ks.len/\vs.len=ks.len/\
  ∀(i:Nat) (e:MapEntry),es[i]? =some e->B2 w M β B (mkP gk (ks.row i)) e.key/\B2 w M β B (mkP gv (vs.row i)) e.val:=by
 cases h with
 |cells l cs t q1 q2 q3=>
  unfold Biy at hl;split at hl
  ·have hs:1<=cs.size:=q2;have:=(q3 0 _ (cs[0]'(by omega)) rfl (Array.getElem?_eq_getElem (by omega))).1;exact(Bei this).elim
  ·have hs:1<=cs.size:=q2;have:=(q3 0 _ (cs[0]'(by omega)) rfl (Array.getElem?_eq_getElem (by omega))).1;exact(Beh this).elim
  ·cases hl
 |arr=>cases hl
 |map gk' gv' ks' vs' es clock q1 q2 q3 q4 q5=>injection hl with hl;injection hl with e1 hl;injection hl with e2 hl;injection hl with e3 e4;subst e1;subst e2;subst e3;subst e4;exact⟨es,clock,q1,q2,q3,q4⟩
 |dG gk' gv' ks' vs' es clock q1 q2 q3 q4 q5=>injection hl with hl;injection hl with e1 hl;injection hl with e2 hl;injection hl with e3 e4;subst e1;subst e2;subst e3;subst e4;exact⟨es,clock,q1,q2,q3,q4⟩
theorem A8b:∀ {l:List PV},plain l=true->∀(i:Nat) (p:PV),l[i]? =some p->(∀x,p≠ .aX x)/\(∀g1 g2 x y,p≠ .aO g1 g2 x y)
 | [],_,i,p,h=>by simp at h
 |q::r,h,i,p,hp=>by
  have hq:(∀x,q≠ .aX x)/\(∀g1 g2 x y,q≠ .aO g1 g2 x y)/\plain r=true:=by
   cases q with
   |aX x=>cases h
   |aO a b c d=>cases h
   |dG a b c d e f=>cases h
   |_=>exact⟨λx e=>(by cases e),λa b c d e=>(by cases e),h⟩
  cases i with
  |zero=>simp at hp;subst hp;exact⟨hq.1,hq.2.1⟩
  |succ i=>exact A8b hq.2.2 i p (by simpa using hp)
theorem A8c:∀ {l:List PV},plain l=true->∀(i:Nat) (es:Array MapEntry) (c:Nat) (g1 g2:Bool) (x y:LX),l[i]? ≠some (.dG es c g1 g2 x y)
 | [],_,i,_,_,_,_,_,_,h=>by simp at h
 |q::r,h,0,_,_,_,_,_,_,e=>by injection e with e;subst e;cases h
 |q::r,h,i+1,es,c,g1,g2,x,y,e=>by
  have:plain r=true:=by cases q<;>first|exact h|cases h
  exact A8c this i es c g1 g2 x y (by simpa using e)
theorem SR.cellsAt(h:SR cx w0 N nt st a w M β){d off b n:Nat}(hβ : β d=some (b,n)){l:List PV}(hl:∀(i:Nat) (p:PV),l[i]? =some p->(st.obj d)[off+i]? =some p)(hp:plain l=true):Zf w M β w0.old ⟨b,off,none⟩ l:=by
 intro i p hp';obtain⟨_,_,h3⟩:=h.sh.box d b n hβ;have hn:=A8b hp i p hp';have hq:=hl i p hp';generalize st.obj d=od at h3 hq;cases h3 with
 |cells l cs t q1 q2 q3=>
  have hlt:off+i<cs.size:=by
   have:=(List.getElem?_eq_some_iff.1 hq).1;omega
  have hv:cs[off+i]? =some cs[off+i]:=Array.getElem?_eq_getElem hlt;refine⟨_,?_,(q3 _ p _ hq hv)⟩;rw[Ava,World.cell?,q1];exact hv
 |arr x cs t q1 q2 q3 q4=>
  rw[List.getElem?_cons]at hq;split at hq
  ·injection hq with hq;exact absurd hq.symm (hn.1 x)
  ·simp at hq
 |map g1 g2 ks vs es clock q1 q2 q3 q4=>
  rw[List.getElem?_cons]at hq;split at hq
  ·injection hq with hq;exact absurd hq.symm (hn.2 _ _ _ _)
  ·simp at hq
 |dG g1 g2 ks vs es clock q1 q2 q3 q4=>
  rw[List.getElem?_cons]at hq;split at hq
  ·injection hq with hq;subst hq;exact absurd hp' (A8c hp i _ _ _ _ _ _)
  ·simp at hq
theorem Akk{l:List PV}{off sz i:Nat}{p:PV}(h:((l.drop off).take sz)[i]? =some p):l[off+i]? =some p:=by
 rw[List.getElem?_take]at h;split at h
 ·rw[List.getElem?_drop]at h;exact h
 ·cases h
end
end Go.Proofs.YthjhkpgonleelaaGreatDoor.Ev
