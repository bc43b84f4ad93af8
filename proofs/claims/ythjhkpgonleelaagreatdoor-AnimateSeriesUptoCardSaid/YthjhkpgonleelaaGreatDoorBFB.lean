/-  An evaluator of translated code on data without memory: definitions. -/
import Derived.Test.YthjhkpgonleelaaGreatDoorBFA
namespace Go.Proofs.YthjhkpgonleelaaGreatDoor.Ev
open Go
set_option linter.unusedVariables false
set_option linter.unusedSimpArgs false
set_option linter.unnecessarySimpa false
structure SV where
 own:Bool
 e:Nat
 sz:Nat
 n:Nat
 f:Nat→List PV
def PV.sv:PV→Option SV
 | .sl own e sz es=>some ⟨own,e,sz,es.length,fun i=>es.getD i []⟩
 | .lst own x=>some ⟨own,x.e,x.sz,x.len,x.row⟩
 |_=>none
structure St where
 fr:List (Nat×PV)
 ob:List (Nat×List PV)
 base:Nat
structure Cm where
 s:List (Nat×PV)
 o:List (Nat×List PV)
def Db{α :Type}(d: α):List (Nat×α)→Nat→α
 | [],_=>d
 |(a,x)::r,s=>match Nat.beq a s with
  |true=>x
  |false=>Db d r s
def A9(d:Nat):List Nat→Bool
 | []=>true
 |a::r=>match Nat.beq a d with
  |true=>false
  |false=>A9 d r
def rem(K:List Nat):List (Nat×List PV)→List (Nat×List PV)
 | []=> []
 |(d,l)::r=>match A9 d K with
  |true=>(d,l)::rem K r
  |false=>rem K r
def Bbw(o:List (Nat×List PV))(l:List (Nat×List PV)):List (Nat×List PV):=match o with
 | []=>l
 | [x]=>x::l
 |x::y::r=>(x::y::r)++rem ((x::y::r).map Prod.fst) l
def St.app(st:St)(δ :Cm):St:= { fr:= δ.s++st.fr,ob:=Bbw δ.o st.ob,base:=st.base }
def St.get(st:St)(s:Nat):PV:=Db .any st.fr s
def St.put(st:St)(s:Nat)(p:PV):St:= { st with fr:=(s,p)::st.fr }
def St.obj(st:St)(d:Nat):List PV:=Db [] st.ob d
def St.vobj(st:St)(d:Nat):List PV:=(st.obj d).map PV.view
def Ajj:Value→Bool
 | .agg _| .tuple _=>false
 |_=>true
def Amg:List (Nat×LX)→Nat→Option LX
 | [],_=>none
 |(a,x)::r,g=>match Nat.beq a g with
  |true=>some x
  |false=>Amg r g
def St.opd(st:St):Operand→PV
 | .tmp t=>st.get t
 | .global g=>match Amg GL g with
  |some x=> .ref [.lst false x]
  |none=> .any
 | .const v=>match Ajj v with
  |true=> .val v
  |false=> .any
 | .func f=> .clo f 0 []
def PV.cells:PV→List PV
 | .agg l=>l
 |p=> [p]
def PV.one:PV→Bool
 | .val v=>Ajj v
 | .sl _ _ _ _=>true
 | .lst _ _=>true
 | .loc _ _=>true
 | .el _ _ _ _=>true
 | .vw _ _ _ _ _=>true
 | .mp _=>true
 | .clo _ _ _=>true
 |_=>false
def Xv:List PV→Bool
 | []=>true
 |p::r=>match p.one with
  |true=>Xv r
  |false=>false
inductive K where
 |move (x:Operand)
 |nilsl (e:Nat)
 |take (x:Nat)
 |pick (c a b:Operand)
 |alloc (zero:List PV)
 |box (x:Operand)
 |build (zero:List PV) (parts:List (Nat×Nat×Operand))
 |bslice (e sz:Nat) (parts:List Operand)
 |load (agg:Bool) (sz:Nat) (x:Operand)
 |loadT (x:Operand)
 |store (sz:Nat) (a x:Operand)
 |storeT (a:Operand) (s:Nat)
 |scal (o:Oper)
 |eqA (neg:Bool) (ts:List (Nat×Nat)) (x y:Operand)
 |bin2 (tag:Nat) (x y:Operand)
 |field (off:Nat) (x:Operand)
 |index (sz:Nat) (x i:Operand)
 |len (x:Operand)
 |cap (x:Operand)
 |app (e sz by_:Nat) (s:Nat) (x:Operand)
 |clone (cm:Bool) (e sz by_:Nat) (s:Nat) (x:Operand)
 |call (f:Nat) (args:List Operand)
 |icall (f:Nat) (args:List Operand)
 |callv (x:Operand) (args:List Operand)
 |mkfn (f n:Nat) (caps:List Operand)
 |extract (x:Operand) (i:Nat)
 |nil (x:Operand)
 |mksl (e sz by_:Nat) (z:List PV) (n:Operand)
 |mkcap (e sz by_:Nat) (n:Operand)
 |slc (sz:Nat) (x:Operand) (lo hi mx:Option Operand)
 |sstr (x:Operand) (lo hi:Option Operand)
 |mkmap (gk gv:Bool) (ks vs:LX)
 |lookup (gq:Bool) (ts:List (Nat×Nat)) (ok g:Bool) (z:List PV) (m k:Operand)
 |mapup (gq:Bool) (ts:List (Nat×Nat)) (m k v:Operand)
 |del (gq:Bool) (ts:List (Nat×Nat)) (m k:Operand)
 |aidx (off sz:Nat) (g:Bool) (x:Operand)
 |ext (sub:Bool) (x y c:Operand)
 |ocall (f:Nat) (args:List Operand)
 |stop
structure Gm where
 dst:Option Nat
 g:Option (Nat×Bool)
 k:K
inductive EC where
 |skip
 |region (ban:List Nat) (ap:List (Nat×Nat)) (ops:List Gm)
 |regS (ops:List Gm)
 |seq (a b:EC)
 |cond (c:Operand) (a b:EC)
 |block (id:Nat) (b:EC)
 |loop (keys:List Nat) (b:EC)
 |exit (id:Nat)
 |ret
 |kp (keys:List Nat)
 |frz (ts:List Nat)
 |loopU (keys:List Nat) (b:EC)
 |vws (ts:List Nat)
 |rng (pre:List Gm) (m:Operand) (it nx more pair:Nat) (keys:List Nat) (asg:List Gm) (b:EC) (n:Nat)
 |stop
inductive Ex where
 |normal|exit (id:Nat)|ret
def Ahr{α :Type}(P:Program):Sem α→(α→Prop)→Prop
 | .pure a,k=>k a
 | .program f,k=>Ahr P (f P) k
 |_,_=>False
abbrev Bt:=Nat→List PV→(PV→Prop)→Prop
abbrev Inl:=Nat→List PV→List (Nat×List PV)→(PV→List (Nat×List PV)→Prop)→Prop
def gd(p:Prop) [d:Decidable p](k:Prop):Prop:=match d with
 | .isTrue _=>k
 | .isFalse _=>False
theorem Az(p:Prop) [d:Decidable p](k:Prop):gd p k=(p∧k):=by
 unfold gd
 cases d with
 |isTrue h=>exact propext ⟨fun hk=>⟨h,hk⟩,fun hk=>hk.2⟩
 |isFalse h=>exact propext ⟨fun hk=>hk.elim,fun hk=>h hk.1⟩
def br(t:Bool)(A B:Prop):Prop:=match t with
 |true=>A
 |false=>B
def fk(r:Option Nat)(A:Nat→Prop)(B:Prop):Prop:=match r with
 |some i=>A i
 |none=>B
def Pu(l:List PV)(off:Nat):PV:=match l,off with
 | [],_=> .any
 |p::_,0=>p
 |_::r,n+1=>Pu r n
def Vf(l:List PV)(n:Nat):Bool:=match l,n with
 | [],0=>true
 |_::r,n+1=>Vf r n
 |_,_=>false
def Sb(l:List PV)(n:Nat):Bool:=match l,n with
 |_,0=>true
 |_::r,n+1=>Sb r n
 |_,_=>false
def X6(agg:Bool)(l:List PV):PV:=match agg,l with
 |true,l=> .agg l
 |false,[p]=>p.view
 |false,_=> .any
def dput(d:Option Nat)(p:PV):Cm:=match d with
 |some s=>⟨[(s,p)],[]⟩
 |none=>⟨[],[]⟩
def plain:List PV→Bool
 | []=>true
 | .arrO _::_=>false
 | .mapO _ _ _ _::_=>false
 | .mapE _ _ _ _ _ _::_=>false
 |_::r=>plain r
def PV.pure0(p:PV):PV:=match p.flat with
 |true=>p.view
 |false=> .any
def Aej(O:Nat→List PV):PV→PV
 | .loc d off=>match plain ((O d).drop off) with
  |true=> .ref (((O d).drop off).map PV.pure0)
  |false=> .any
 | .agg l=> .agg (l.map PV.pure0)
 | .ref l=> .ref (l.map PV.pure0)
 |p=>p.pure0
def Yp(st:St)(ban:List Nat):List Operand→Bool
 | []=>true
 |x::r=>match ban,st.opd x with
  | [],_=>true
  |ban,.loc b _=>match A9 b ban with
   |true=>Yp st ban r
   |false=>false
  |ban,_=>Yp st ban r
def Aet(st:St)(cells:List PV):List (Nat×Nat×Operand)→(List PV→Prop)→Prop
 | [],k=>k cells
 |(off,sz,x)::r,k=>match Vf (st.opd x).cells sz,Xv (st.opd x).cells,Sb cells (off+sz) with
  |true,true,true=>Aet st (Jx cells off ((st.opd x).cells.map PV.view)) r k
  |_,_,_=>False
def l6(st:St)(sz:Nat):List Operand→(List (List PV)→Prop)→Prop
 | [],k=>k []
 |x::r,k=>match Vf (st.opd x).cells sz,Xv (st.opd x).cells with
  |true,true=>l6 st sz r fun l=>k ((st.opd x).cells.map PV.view::l)
  |_,_=>False
def t8(st:St):List Operand→Bool
 | []=>true
 |x::r=>match st.opd x with
  | .val _=>t8 st r
  |_=>false
def St.valOf(st:St)(x:Operand):Value:=match st.opd x with
 | .val v=>v
 |_=>undef
def Apj(P:Program)(st:St)(o:Oper)(d:Option Nat)(k:Cm→Prop):Prop:=
 match t8 st o.op.operands.toList with
 |true=>Ahr P (execOp st.valOf o) fun n=>match n with
  | .value v=>match Ajj v with
   |true=>k (dput d (.val v))
   |false=>False
  |_=>False
 |false=>False
def Afg:List (Nat×Nat)→List PV→List PV→Option Bool
 | [],_,_=>some true
 |(tag,o)::r,xs,ys=>match Afg r xs ys with
  |none=>none
  |some t=>match tag,Pu xs o,Pu ys o with
   |0,.val (.bool a),.val (.bool b)=>some ((a == b) && t)
   |1,.val (.int k a),.val (.int k' b)=>match decide (k=k') with
    |true=>some ((a == b) && t)
    |false=>none
   |2,.val (.string a),.val (.string b)=>some ((a == b) && t)
   |_,_,_=>none
def Jv:Option UInt8→Int
 |some b=>(b.toNat:Int)
 |none=>0
def Bnx(a b c:Int):Int:=Int.ofNat ((a.toNat+b.toNat+c.toNat) % 18446744073709551616)
def Bnw(a b c:Int):Int:=Int.ofNat ((a.toNat+b.toNat+c.toNat)/18446744073709551616)
def Bpp(a b c:Int):Int:=Int.ofNat ((a.toNat+18446744073709551616 - b.toNat - c.toNat) % 18446744073709551616)
def Bmc(a b c:Int):Int:=match Nat.blt a.toNat (b.toNat+c.toNat) with
 |true=>1
 |false=>0
def Bfh(sub:Bool)(a b c:Int):PV:=match sub with
 |false=> .tup [.val (.int .u64 (Bnx a b c)),.val (.int .u64 (Bnw a b c))]
 |true=> .tup [.val (.int .u64 (Bpp a b c)),.val (.int .u64 (Bmc a b c))]
def bin2(tag:Nat)(x y:Value):Option (Bool×Value):=match tag,x,y with
 |0,.int k a,.int k' b=>match decide (k=k') with
  |true=>some (!decide (b=0),.int k (k.wrap (a.tdiv b)))
  |false=>none
 |1,.int k a,.int k' b=>match decide (k=k') with
  |true=>some (!decide (b=0),.int k (a.tmod b))
  |false=>none
 |2,.int k a,.int _ b=>some (!decide (b < 0),.int k (k.wrap (a*2 ^ (min b.toNat k.bits))))
 |3,.int k a,.int _ b=>some (!decide (b < 0),.int k (a.fdiv (2 ^ (min b.toNat k.bits))))
 |4,.string a,.string b=>some (!decide (((a.size+b.size:Nat):Int) > IntKind.i64.max),.string (a++b))
 |5,.string s,.int _ n=>some ((if 0≤n then s[n.toNat]? else none).isSome,.int .u8 (Jv (if 0≤n then s[n.toNat]? else none)))
 |_,_,_=>none
def Ase:Nat→PV→Bool
 |0,.val (.bool _)=>true
 |1,.val (.int _ _)=>true
 |2,.val (.string _)=>true
 |_,_=>false
def U3:List (Nat×Nat)→List PV→Bool
 | [],[]=>true
 |(tag,_)::r,p::l=>match Ase tag p with
  |true=>U3 r l
  |false=>false
 |_,_=>false
def Ab0(gq:Bool)(ts:List (Nat×Nat))(p:PV):Option (List PV):=match gq,p with
 |true,.agg l=>match U3 ts l with
  |true=>some l
  |false=>none
 |true,_=>none
 |false,p=>match U3 ts [p] with
  |true=>some [p]
  |false=>none
def Akh:Bool→Bool→Bool
 |true,true=>true
 |false,false=>true
 |_,_=>false
def Ask(g:Bool)(p:PV):Option (List PV):=match g,p with
 |true,.agg l=>some (l.map PV.view)
 |true,_=>none
 |false,p=>match p.one with
  |true=>some [p.view]
  |false=>none
def Bku:Operand→Bool
 | .const _=>true
 |_=>false
def St.bnd(st:St)(d:Int):Option Operand→Option Int
 |none=>some d
 |some x=>match st.opd x with
  | .val (.int _ n)=>some n
  |_=>none
def Ajd(st:St)(x:Operand)(v:Value)(tag:Nat)(d:Option Nat)(k:Cm→Prop):Prop:=match v,(st.opd x).sv with
 | .slice none 0 0,some s=>match tag with
  |6=>gd (0 < s.n) (k (dput d (.val (.bool false))))
  |7=>gd (0 < s.n) (k (dput d (.val (.bool true))))
  |_=>False
 |_,_=>False
def PV.bare(e sz:Nat):PV→Bool
 | .val (.slice none 0 0)=>true
 | .lst true y=>match Nat.beq y.len 0,Nat.beq e y.e,Nat.beq sz y.sz with
  |true,true,true=>true
  |_,_,_=>false
 |_=>false
def A09:PV→PV→PV
 | .lst true y,.val (.slice none 0 0)=>match Nat.beq y.len 0 with
  |true=> .lst true y
  |false=> .val (.slice none 0 0)
 |_,p=>p
def m6:List PV→List PV→List PV
 |_,[]=> []
 | [],p::ps=>p::ps
 |o::os,p::ps=>A09 o p::m6 os ps
def LX.flat(z:LX):List PV:=(((List.range z.len).map z.row).flatten).map PV.view
def LX.cut(x:LX)(i:Nat):Option LX:=LX.cat (x.sub 0 i) (x.sub (i+1) x.len)
def T9(st:St):List Operand→Bool
 | []=>true
 |x::r=>match (st.opd x).view.flat with
  |true=>T9 st r
  |false=>false
def A3o(r:PV)(o':List (Nat×List PV))(p:Prop):Prop:=match o',r.flat with
 | [],true=>p
 |_,_=>False
def A1e:List PV→Option (Bool×Bool×LX×LX)
 | [.mapO gk gv ks vs]=>some (gk,gv,ks,vs)
 | [.mapE _ _ gk gv ks vs]=>some (gk,gv,ks,vs)
 |_=>none
def Bb(P:Program)(C:Bt)(X:Inl)(ban:List Nat)(o:K)(d:Option Nat)(st:St)(k:Cm→Prop):Prop:=
 match o with
 | .move x=>k (dput d (st.opd x).view)
 | .nilsl e=>match d,LX.nil e with
  |some d,some x=>k ⟨[(d,.lst true x)],[]⟩
  |_,_=>False
 | .take s=>match d with
  |some d=>k ⟨[(d,st.get s),(s,(st.get s).view)],[]⟩
  |none=>False
 | .pick c a b=>match st.opd c with
  | .val (.bool t)=>br t (k (dput d (st.opd a).view)) (k (dput d (st.opd b).view))
  |_=>False
 | .alloc z=>match d with
  |some s=>match A9 (st.base+s) (st.ob.map Prod.fst) with
   |true=>k ⟨[(s,.loc (st.base+s) 0)],[(st.base+s,z)]⟩
   |_=>False
  |none=>False
 | .box x=>match d with
  |some s=>match A9 (st.base+s) (st.ob.map Prod.fst),Xv (st.opd x).cells with
   |true,true=>k ⟨[(s,.loc (st.base+s) 0)],[(st.base+s,(st.opd x).cells.map PV.view)]⟩
   |_,_=>False
  |none=>False
 | .build z parts=>Aet st (z.map PV.view) parts fun l=>k (dput d (.agg l))
 | .bslice e sz parts=>l6 st sz parts fun l=>match LX.lit e l with
  |some x=>match Nat.beq x.sz sz with
   |true=>k (dput d (.lst true x))
   |false=>False
  |none=>k (dput d (.sl true e sz l))
 | .load agg sz x=>match st.opd x with
  | .loc b off=>match A9 b ban,Sb ((st.vobj b).drop off) sz,plain (((st.vobj b).drop off).take sz) with
   |true,true,true=>k (dput d (X6 agg (((st.vobj b).drop off).take sz)))
   |_,_,_=>False
  | .ref l=>match Sb l sz with
   |true=>k (dput d (X6 agg (l.take sz)))
   |false=>False
  | .el b sz' i off=>match A9 b ban,st.vobj b with
   |true,[.arrO x]=>match Nat.beq sz' x.sz,Sb ((x.row i).drop off) sz with
    |true,true=>k (dput d (X6 agg (((x.row i).drop off).take sz)))
    |_,_=>False
   |_,_=>False
  |_=>False
 | .loadT x=>match st.opd x,d with
  | .loc b off,some d=>match A9 b ban,(Pu (st.obj b) off).one && plain (st.obj b) with
   |true,true=>k ⟨[(d,Pu (st.obj b) off)],[(b,Jx (st.obj b) off [(Pu (st.obj b) off).view])]⟩
   |_,_=>False
  |_,_=>False
 | .store sz a x=>match st.opd a with
  | .loc b off=>match Vf (st.opd x).cells sz,Xv (st.opd x).cells,Sb (st.obj b) (off+sz) && plain (st.obj b) with
   |true,true,true=>k ⟨[],[(b,Jx (st.obj b) off (m6 ((st.obj b).drop off) ((st.opd x).cells.map PV.view)))]⟩
   |_,_,_=>False
  | .el b sz' i off=>match Vf (st.opd x).cells sz,Xv (st.opd x).cells,st.obj b with
   |true,true,[.arrO y]=>match Nat.beq sz' y.sz,LX.set y i off ((st.opd x).cells.map PV.view) with
    |true,some y'=>k ⟨[],[(b,[.arrO y'])]⟩
    |_,_=>False
   |_,_,_=>False
  |_=>False
 | .storeT a s=>match st.opd a with
  | .loc b off=>match (st.get s).one,Sb (st.obj b) (off+1) && plain (st.obj b) with
   |true,true=>k ⟨[(s,(st.get s).view)],[(b,Jx (st.obj b) off [st.get s])]⟩
   |_,_=>False
  | .el b sz' i off=>match (st.get s).one,st.obj b with
   |true,[.arrO y]=>match Nat.beq sz' y.sz,LX.set y i off [(st.get s).view] with
    |true,some y'=>k ⟨[(s,(st.get s).view)],[(b,[.arrO y'])]⟩
    |_,_=>False
   |_,_=>False
  |_=>False
 | .scal o=>Apj P st o d k
 | .bin2 tag x y=>match st.opd x,st.opd y with
  | .val u,.val v=>match bin2 tag u v with
   |some (c,r)=>br c (k (dput d (.val r))) False
   |none=>False
  |_,.val v=>Ajd st x v tag d k
  |_,_=>False
 | .eqA neg ts x y=>match st.opd x,st.opd y with
  | .agg xs,.agg ys=>match Afg ts xs ys with
   |some t=>match neg with
    |true=>k (dput d (.val (.bool (!t))))
    |false=>k (dput d (.val (.bool t)))
   |none=>False
  |_,_=>False
 | .field off x=>match st.opd x with
  | .loc b o=>k (dput d (.loc b (o+off)))
  | .ref l=>k (dput d (.ref (l.drop off)))
  | .el b sz i o=>k (dput d (.el b sz i (o+off)))
  |_=>False
 | .index sz x i=>match st.opd x,st.opd i with
  | .vw c b e sz' m,.val (.int _ n)=>match Nat.beq sz sz',c with
   |true,false=>gd (0≤n) (gd (n < (m:Int)) (k (dput d (.el b sz n.toNat 0))))
   |true,true=>gd (0≤n) (gd (n < (m:Int)) (k (dput d (.loc b (n.toNat*sz)))))
   |_,_=>False
  |p,.val (.int _ n)=>match p.sv with
   |some s=>match Nat.beq sz s.sz with
    |true=>gd (0≤n) (gd (n < (s.n:Int)) (k (dput d (.ref (s.f n.toNat)))))
    |false=>False
   |none=>False
  |_,_=>False
 | .len x=>match st.opd x with
  | .vw _ _ _ _ m=>k (dput d (.val (.int .i64 m)))
  | .val (.slice _ n _)=>k (dput d (.val (.int .i64 n)))
  |p=>match p.sv with
   |some s=>k (dput d (.val (.int .i64 s.n)))
   |none=>False
 | .cap x=>match st.opd x with
  | .val (.slice _ _ c)=>k (dput d (.val (.int .i64 c)))
  |_=>False
 | .app e sz by_ s x=>match d with
  |some d=>match st.get s,st.opd x with
   | .lst true y,.lst _ z=>match Nat.beq e y.e,Nat.beq sz y.sz,LX.cat y z with
    |true,true,some r=>gd ((y.len+z.len)*by_≤140737488355328) (gd (y.len+z.len≤maxLen) (k ⟨[(d,.lst true r),(s,.lst false y)],[]⟩))
    |_,_,_=>False
   | .lst true y,.val (.slice none 0 0)=>match Nat.beq e y.e with
    |true=>k ⟨[(d,.lst true y),(s,.lst false y)],[]⟩
    |false=>False
   | .val (.slice none 0 0),.lst _ z=>match Nat.beq e z.e,Nat.beq sz z.sz with
    |true,true=>gd ((0+z.len)*by_≤140737488355328) (gd (0+z.len≤maxLen) (k ⟨[(d,.lst true z)],[]⟩))
    |_,_=>False
   |_,_=>False
  |none=>False
 | .clone cm e sz by_ s x=>match d,LX.nil e with
  |some d,some n=>match A9 (st.base+d) (st.ob.map Prod.fst),(st.get s).bare e sz && Nat.beq e n.e && Nat.beq sz n.sz with
   |true,true=>match st.opd x with
    | .lst _ z=>match Nat.beq e z.e,Nat.beq sz z.sz with
     |true,true=>br (Nat.beq z.len 0) (k ⟨[(d,.lst true n),(s,(st.get s).view)],[]⟩)
      (gd (z.len*by_≤140737488355328) (gd (z.len≤maxLen) (k ⟨[(d,.vw cm (st.base+d) e sz z.len),(s,(st.get s).view)],[(st.base+d,match cm with|true=>z.flat|false=> [.arrO z])]⟩)))
     |_,_=>False
    |_=>False
   |_,_=>False
  |_,_=>False
 | .call f args=>match Yp st ban args with
  |true=>C f (args.map fun x=>Aej st.obj (st.opd x)) fun r=>k (dput d r.view)
  |false=>False
 | .icall f args=>X f (args.map fun x=>(st.opd x).view) st.ob fun r o'=>k ⟨(dput d r).s,o'⟩
 | .callv x args=>match st.opd x with
  | .clo f n caps=>X f (caps.take n++((args.map fun x=>(st.opd x).view)++caps.drop n)) st.ob fun r o'=>k ⟨(dput d r).s,o'⟩
  |_=>False
 | .mkfn f n caps=>k (dput d (.clo f n (caps.map fun x=>(st.opd x).view)))
 | .extract x i=>match st.opd x with
  | .tup l=>match Sb l (i+1) with
   |true=>k (dput d (Pu l i).view)
   |false=>False
  |_=>False
 | .nil x=>match st.opd x with
  | .loc b off=>k (dput d (.loc b off))
  | .ref l=>k (dput d (.ref l))
  | .el b sz i off=>k (dput d (.el b sz i off))
  |_=>False
 | .mksl e sz by_ z n=>match d,st.opd n with
  |some s,.val (.int .i64 m)=>match Bku n with
   |true=>match decide (0≤m),A9 (st.base+s) (st.ob.map Prod.fst),Nat.ble (m.toNat*by_) 140737488355328 && Nat.ble m.toNat 16777216 with
    |true,true,true=>k ⟨[(s,.vw true (st.base+s) e sz m.toNat)],[(st.base+s,(List.replicate m.toNat z).flatten)]⟩
    |_,_,_=>False
   |false=>match A9 (st.base+s) (st.ob.map Prod.fst),LX.lit e [z.map PV.view] with
    |true,some y=>match Nat.beq y.sz sz with
     |true=>gd (0≤m) (gd (m*(by_:Int)≤140737488355328) (gd (m≤9223372036854775807) (k ⟨[(s,.vw false (st.base+s) e sz m.toNat)],[(st.base+s,[.arrO (y.rep m.toNat)])]⟩)))
     |false=>False
    |_,_=>False
  |_,_=>False
 | .mkcap e sz by_ n=>match d,st.opd n,LX.nil e with
  |some s,.val (.int .i64 m),some x=>match Nat.beq x.sz sz with
   |true=>gd (0≤m) (gd (m*(by_:Int)≤140737488355328) (gd (m≤(maxLen:Int)) (k ⟨[(s,.lst true x)],[]⟩)))
   |false=>False
  |_,_,_=>False
 | .slc sz x lo hi mx=>match st.opd x with
  | .lst _ y=>match Nat.beq sz y.sz,st.bnd y.len mx with
   |true,some m=>match st.bnd y.len hi with
    |some h=>match st.bnd 0 lo with
     |some l=>gd (0≤l) (gd (l≤h) (gd (h≤m) (gd (m≤(y.len:Int)) (k (dput d (.lst (mx.isSome && decide (m=0)) (y.sub l.toNat h.toNat)))))))
     |none=>False
    |none=>False
   |_,_=>False
  |_=>False
 | .sstr x lo hi=>match st.opd x with
  | .val (.string s)=>match st.bnd s.size hi with
   |some h=>match st.bnd 0 lo with
    |some l=>gd (0≤l) (gd (l≤h) (gd (h≤(s.size:Int)) (k (dput d (.val (.string (s.extract l.toNat h.toNat)))))))
    |none=>False
   |none=>False
  |_=>False
 | .mkmap gk gv ks vs=>match d with
  |some s=>match A9 (st.base+s) (st.ob.map Prod.fst) with
   |true=>k ⟨[(s,.mp (st.base+s))],[(st.base+s,[.mapO gk gv ks vs])]⟩
   |false=>False
  |none=>False
 | .lookup gq ts ok g z m q=>match st.opd m with
  | .mp b=>match A9 b ban,A1e (st.obj b),Ab0 gq ts (st.opd q) with
   |true,some (gk,gv,ks,vs),some c=>match Akh gq gk,LX.find ks c,Akh g gv with
    |true,some r,true=>fk r (fun i=>k (dput d (match ok with|true=> .tup [X6 gv (vs.row i),.val (.bool true)]|false=>X6 gv (vs.row i))))
      (k (dput d (match ok with|true=> .tup [X6 g (z.map PV.view),.val (.bool false)]|false=>X6 g (z.map PV.view))))
    |_,_,_=>False
   |_,_,_=>False
  |_=>False
 | .mapup gq ts m q v=>match st.opd m with
  | .mp b=>match st.obj b,Ab0 gq ts (st.opd q) with
   | [.mapO gk gv ks vs],some ck=>match Akh gq gk,LX.find ks ck,Ask gv (st.opd v) with
    |true,some r,some c=>fk r (fun i=>match Nat.beq c.length vs.sz,LX.set vs i 0 c with
      |true,some vs'=>k ⟨[],[(b,[.mapO gk gv ks vs'])]⟩
      |_,_=>False)
     (match LX.push ks ck,LX.push vs c with
      |some ks',some vs'=>k ⟨[],[(b,[.mapO gk gv ks' vs'])]⟩
      |_,_=>False)
    |_,_,_=>False
   |_,_=>False
  |_=>False
 | .del gq ts m q=>match st.opd m with
  | .mp b=>match st.obj b,Ab0 gq ts (st.opd q) with
   | [.mapO gk gv ks vs],some ck=>match Akh gq gk,LX.find ks ck with
    |true,some r=>fk r (fun i=>match LX.cut ks i,LX.cut vs i with
      |some ks',some vs'=>k ⟨[],[(b,[.mapO gk gv ks' vs'])]⟩
      |_,_=>False)
     (k ⟨[],[]⟩)
    |_,_=>False
   |_,_=>False
  |_=>False
 | .ocall f args=>match T9 st args with
  |true=>X f (args.map fun x=>(st.opd x).view) [] fun r o'=>A3o r o' (k (dput d r))
  |false=>False
 | .ext sub x y c=>match st.opd x,st.opd y,st.opd c with
  | .val (.int _ a),.val (.int _ b),.val (.int _ n)=>gd (n≤1) (k (dput d (Bfh sub a b n)))
  |_,_,_=>False
 | .aidx off sz g x=>match st.opd x with
  | .agg l=>match Sb l (off+sz) with
   |true=>k (dput d (X6 g ((l.drop off).take sz)))
   |false=>False
  |_=>False
 | .stop=>False
def P4(P:Program)(C:Bt)(X:Inl)(ban:List Nat):List Gm→St→(St→Prop)→Prop
 | [],st,k=>k st
 |o::r,st,k=>match o.g with
  |none=>Bb P C X ban o.k o.dst st fun δ =>P4 P C X ban r (st.app δ) k
  |some (s,want)=>match st.get s with
   | .val (.bool t)=>
    br t
    (match want with
     |true=>Bb P C X ban o.k o.dst (st.put s (.val (.bool true))) fun δ =>P4 P C X ban r ((st.put s (.val (.bool true))).app δ) k
     |false=>P4 P C X ban r ((st.put s (.val (.bool true))).app (dput o.dst (.tup []))) k)
    (match want with
     |false=>Bb P C X ban o.k o.dst (st.put s (.val (.bool false))) fun δ =>P4 P C X ban r ((st.put s (.val (.bool false))).app δ) k
     |true=>P4 P C X ban r ((st.put s (.val (.bool false))).app (dput o.dst (.tup []))) k)
   | .tup []=>P4 P C X ban r (st.app (dput o.dst (.tup []))) k
   |_=>False
def K.quiet:K→Bool
 | .move _| .scal _| .field .. | .load .. | .len _| .cap _| .bin2 .. | .eqA .. | .index .. | .extract .. | .nil _| .call .. | .pick .. | .sstr .. | .lookup .. | .ext .. | .ocall .. =>true
 |_=>false
def Af3(s:Nat):List Gm→Option (List Gm×Nat×List Gm)
 | []=>none
 |eo::r=>match eo.k.quiet,eo.g with
  |true,some _=>match Af3 s r with
   |some (B,pd,r')=>some (eo::B,pd,r')
   |none=>none
  |true,none=>match eo.k,eo.dst with
   | .pick (.tmp c) _ _,some pd=>match Nat.beq c s with
    |true=>some ([eo],pd,r)
    |false=>none
   |_,_=>none
  |false,_=>none
def Anv:List Gm→List (Nat×PV)
 | []=> []
 |eo::r=>match eo.dst with
  |some d=>(d,.any)::Anv r
  |none=>Anv r
def stJ(st:St)(B:List Gm)(pd:Nat)(b:Bool):St:=st.app ⟨(pd,.val (.bool b))::Anv B,[]⟩
def jn{σ :Type}(X:(σ→Prop)→Prop)(j: σ→Prop):Prop:=X j
def Akc(pd:Nat)(j:Bool→Prop)(st:St):Prop:=match st.get pd with
 | .val (.bool b)=>j b
 |_=>False
def Jc(P:Program)(C:Bt)(X:Inl):Nat→List Gm→St→(St→Prop)→Prop
 |_,[],st,k=>k st
 |0,_::_,_,_=>False
 |n+1,o::r,st,k=>match o.g with
  |none=>Bb P C X [] o.k o.dst st fun δ =>Jc P C X n r (st.app δ) k
  |some (s,want)=>match st.get s with
   | .val (.bool t)=>match Af3 s (o::r) with
    |some (B,pd,r')=>jn (fun j=>br t (P4 P C X [] B (st.put s (.val (.bool true))) (Akc pd j)) (P4 P C X [] B (st.put s (.val (.bool false))) (Akc pd j)))
      (fun b=>Jc P C X n r' (stJ st B pd b) k)
    |none=>br t
     (match want with
      |true=>Bb P C X [] o.k o.dst (st.put s (.val (.bool true))) fun δ =>Jc P C X n r ((st.put s (.val (.bool true))).app δ) k
      |false=>Jc P C X n r ((st.put s (.val (.bool true))).app (dput o.dst (.tup []))) k)
     (match want with
      |false=>Bb P C X [] o.k o.dst (st.put s (.val (.bool false))) fun δ =>Jc P C X n r ((st.put s (.val (.bool false))).app δ) k
      |true=>Jc P C X n r ((st.put s (.val (.bool false))).app (dput o.dst (.tup []))) k)
   | .tup []=>Jc P C X n r (st.app (dput o.dst (.tup []))) k
   |_=>False
def PV.safe0(D:Nat→Bool):PV→Bool
 | .any=>true
 | .val _=>true
 | .lst _ _=>true
 | .loc d _=> !(D d)
 | .el d _ _ _=> !(D d)
 | .vw _ d _ _ _=> !(D d)
 | .mp d=> !(D d)
 | .arrO _=>true
 | .mapO _ _ _ _=>true
 | .mapE _ _ _ _ _ _=>true
 |_=>false
def Ae2(s:PV→Bool):List PV→Bool
 | []=>true
 |p::r=>match s p with
  |true=>Ae2 s r
  |false=>false
def Ar3(s:PV→Bool):List (List PV)→Bool
 | []=>true
 |p::r=>match Ae2 s p with
  |true=>Ar3 s r
  |false=>false
def PV.safeUp(s:PV→Bool):PV→Bool
 | .agg l=>Ae2 s l
 | .tup l=>Ae2 s l
 | .ref l=>Ae2 s l
 | .clo _ _ l=>Ae2 s l
 | .sl _ _ _ es=>Ar3 s es
 |p=>s p
def PV.safe(D:Nat→Bool)(p:PV):Bool:=PV.safeUp (PV.safeUp (PV.safeUp (PV.safe0 D))) p
def PV.clean(D:Nat→Bool)(p:PV):PV:=match p.safe D with
 |true=>p
 |false=> .any
def A57(d:Nat):List Nat→List Nat
 | []=> [d]
 |b::r=>match Nat.blt d b,Nat.beq d b with
  |true,_=>d::b::r
  |false,true=>b::r
  |false,false=>b::A57 d r
def Anh:List Nat→List Nat
 | []=> []
 |d::r=>A57 d (Anh r)
def Acm(l:List (Nat×List PV)):List (Nat×List PV):=(Anh (l.map Prod.fst)).map fun d=>(d,Db [] l d)
def Cj(st:St):List Nat:=Anh (st.ob.map Prod.fst)
def keep(keys live:List Nat)(st:St):St:=
 { fr:=keys.map fun s=>(s,(st.get s).clean fun d=>A9 d live),ob:=live.map fun d=>(d,(st.obj d).map fun p=>p.clean fun d=>A9 d live),base:=st.base }
def frF(st:St)(live:List Nat):List Nat→List (Nat×PV)
 | []=> []
 |s::r=>match (st.get s).clean fun d=>A9 d live with
  | .any=>frF st live r
  |p=>(s,p)::frF st live r
def A08(keys live:List Nat)(st:St):St:=
 { fr:=frF st live keys,ob:=live.map fun d=>(d,(st.obj d).map fun p=>p.clean fun d=>A9 d live),base:=st.base }
def Ab9(b:Nat):List Nat→List Nat
 | []=> []
 |a::r=>match Nat.beq a b with
  |true=>Ab9 b r
  |false=>a::Ab9 b r
def St.frz1(st:St)(t:Nat):St:=match st.get t with
 | .vw false b _ _ _=>match st.obj b,Nat.ble st.base b with
  | [.arrO y],true=>(A08 (st.fr.map Prod.fst) (Ab9 b (Cj st)) st).app ⟨[(t,.lst false y)],[]⟩
  |_,_=>st
 |_=>st
def St.frzL(st:St):List Nat→St
 | []=>st
 |t::r=>St.frzL (st.frz1 t) r
def St.vwL(st:St):List Nat→St
 | []=>st
 |t::r=>St.vwL (st.app ⟨[(t,(st.get t).view)],[]⟩) r
def H6(f:St→(Ex→St→Prop)→Prop)(keys live:List Nat)(k:Ex→St→Prop):Ex→St→Prop:=fun e st'=>match e with
 | .normal=>f (keep keys live st') k
 | .exit i=>k (.exit i) (keep keys live st')
 | .ret=>k .ret (keep keys live st')
def Kj(body:St→(Ex→St→Prop)→Prop)(keys live:List Nat):Nat→St→(Ex→St→Prop)→Prop
 |0,_,_=>False
 |n+1,st,k=>body st (H6 (Kj body keys live n) keys live k)
def Ba1(f:St→(Ex→St→Prop)→Prop)(keys:List Nat)(k:Ex→St→Prop):Ex→St→Prop:=fun e st'=>match e with
 | .normal=>f (A08 keys (Cj st') st') k
 | .exit i=>k (.exit i) st'
 | .ret=>k .ret st'
def Amh(body:St→(Ex→St→Prop)→Prop)(keys:List Nat):Nat→St→(Ex→St→Prop)→Prop
 |0,_,_=>False
 |n+1,st,k=>body st (Ba1 (Amh body keys n) keys k)
def Abn(st:St):List (Nat×Nat)→Bool
 | []=>true
 |(a,b)::r=>match st.get a,st.get b with
  | .loc d _,.loc d' _=>match Nat.beq d d' with
   |true=>false
   |false=>Abn st r
  |_,_=>false
def Bz(f:St→(Ex→St→Prop)→Prop)(k:Ex→St→Prop):Ex→St→Prop:=fun e st'=>match e with
 | .normal=>f st' k
 | .exit i=>k (.exit i) st'
 | .ret=>k .ret st'
def Bs(id:Nat)(k:Ex→St→Prop):Ex→St→Prop:=fun e st'=>match e with
 | .exit i=>match Nat.beq i id with
  |true=>k .normal st'
  |false=>k (.exit i) st'
 | .normal=>k .normal st'
 | .ret=>k .ret st'
def Ake:List (Nat×List PV)→Nat
 | []=>0
 |(d,_)::r=>match Nat.ble (Ake r) d with
  |true=>d+1
  |false=>Ake r
def Adq(l:List (Nat×List PV)):Nat:=Ake l+1000
def Ar1(f:St→(Ex→St→Prop)→Prop)(n d:Nat)(O:List PV)(V:PV)(gk gv:Bool)(ks vs:LX)(it nx more pair:Nat)(keys live:List Nat):Nat→List Nat→St→(St→Prop)→Prop
 |0,_,_,_=>False
 |L+1,S,st,k=>((∀i,i < ks.len→i∈S)→k (st.app ⟨[(more,.val (.bool false)),(nx,.any)],[]⟩))∧
  ∀i,i < ks.len→i∉S→f (st.app ⟨[(pair,.tup [X6 gk (ks.row i),X6 gv (vs.row i)]),(more,.val (.bool true)),(nx,.any)],[]⟩)
   fun e st'=>(e= .normal∨e= .exit n)∧st'.obj d=O∧st'.get it=V∧Ar1 f n d O V gk gv ks vs it nx more pair keys live L (i::S) (keep keys live st') k
def Bcq(st:St)(d it:Nat)(O:List PV)(V:PV)(keys:List Nat):St:= { keep keys (Cj st) (st.app ⟨[(it,V)],[(d,O)]⟩) with base:=Adq st.ob }
def Axa(st:St)(d it base:Nat)(keys live:List Nat)(O:List PV):St:= { keep keys live (st.app ⟨[(it,.any)],[(d,O)]⟩) with base:=base }
def Bin(f:St→(Ex→St→Prop)→Prop)(n d:Nat)(gk gv:Bool)(ks vs:LX)(it nx more pair:Nat)(keys:List Nat)(L:Nat)(st:St)(k:St→Prop):Prop:=
 ∃stF,(∀es clock r,Ar1 f n d [.mapE es clock gk gv ks vs] (.val (.pointer (some ⟨r,0,none⟩))) gk gv ks vs it nx more pair keys (Cj st) L []
  (Bcq st d it [.mapE es clock gk gv ks vs] (.val (.pointer (some ⟨r,0,none⟩))) keys) (fun st'=>Axa st' d it st.base keys (Cj st) [.mapO gk gv ks vs]=stF))∧k stF
def Axc(f:St→(Ex→St→Prop)→Prop)(n:Nat)(m:Operand)(it nx more pair:Nat)(keys:List Nat)(L:Nat)(st:St)(k:St→Prop):Prop:=match st.opd m with
 | .mp d=>match st.obj d with
  | [.mapO gk gv ks vs]=>Bin f n d gk gv ks vs it nx more pair keys L st k
  |_=>False
 |_=>False
def f9(P:Program)(C:Bt)(X:Inl)(L:Nat):EC→St→(Ex→St→Prop)→Prop
 | .skip,st,k=>k .normal st
 | .region ban ap l,st,k=>match Abn st ap with
  |true=>P4 P C X (ban.map (st.base+ ·)) l st fun st'=>k .normal st'
  |false=>False
 | .regS l,st,k=>Jc P C X l.length l st fun st'=>k .normal st'
 | .seq a b,st,k=>f9 P C X L a st (Bz (f9 P C X L b) k)
 | .cond c a b,st,k=>match st.opd c with
  | .val (.bool t)=>br t (f9 P C X L a st k) (f9 P C X L b st k)
  |_=>False
 | .block id b,st,k=>f9 P C X L b st (Bs id k)
 | .loop keys b,st,k=>Kj (f9 P C X L b) keys (Cj st) L (keep keys (Cj st) st) k
 | .loopU keys b,st,k=>Amh (f9 P C X L b) keys L st k
 | .exit id,st,k=>k (.exit id) st
 | .ret,st,k=>k .ret st
 | .kp keys,st,k=>k .normal (A08 keys (Cj st) st)
 | .frz ts,st,k=>k .normal (st.frzL ts)
 | .vws ts,st,k=>k .normal (st.vwL ts)
 | .rng pre m it nx more pair keys asg b n,st,k=>Jc P C X pre.length pre st fun st1=>Axc (fun st k=>Jc P C X asg.length asg st fun st'=>f9 P C X L b st' k) n m it nx more pair keys L st1 fun st'=>k .normal st'
 | .stop,_,_=>False
def Gq(P:Program)(t:Nat):Bool:=match P.underlying t with
 |some (.struct _)|some (.array _ _)=>true
 |_=>false
def m0(P:Program)(t:Nat):Bool:=match P.underlying t with
 |some (.slice _)=>true
 |_=>false
def szT(P:Program)(t:Nat):Option Nat:=(P.info? t).map (·.size)
def Ah6(P:Program)(t:Nat):Option (List Value):=((P.info? t).bind (·.zero)).map fun v=>v.cells.toList
def Azc(P:Program)(t:Nat):Option (List (Nat×Nat)):=match P.underlying t with
 |some (.struct fs)=>fs.toList.mapM fun f=>(P.info? f.type).map fun i=>(f.offset,i.size)
 |some (.array n e)=>(P.info? e).map fun i=>(List.range n).map fun k=>(k*i.size,i.size)
 |_=>none
def Bcz(P:Program):Nat→Nat→List (Option Nat)
 |0,_=> [none]
 |n+1,t=>match P.underlying t with
  |some (.slice e)=> [some e]
  |some (.struct fs)=>fs.toList.flatMap fun f=>Bcz P n f.type
  |some (.array k e)=>(List.replicate k (Bcz P n e)).flatten
  |_=> [none]
def A2g:Option Nat→Value→PV
 |some e,.slice none 0 0=>match LX.nil e with
  |some x=> .lst true x
  |none=> .val (.slice none 0 0)
 |_,v=> .val v
def Ajx:List (Option Nat)→List Value→List PV
 |_,[]=> []
 | [],v::vs=> .val v::Ajx [] vs
 |o::os,v::vs=>A2g o v::Ajx os vs
def Ac9:List Value→Bool
 | []=>true
 |v::r=>match Ajj v with
  |true=>Ac9 r
  |false=>false
def Ah5(P:Program)(t:Nat):Option (List PV):=match Ah6 P t with
 |some z=>match Ac9 z with
  |true=>some (Ajx (Bcz P 8 t) z)
  |false=>none
 |none=>none
def A8z(b:Bool)(P:Program)(t:Nat):Option (List PV):=match b with
 |false=>Ah5 P t
 |true=>match Ah6 P t with
  |some z=>match Ac9 z with
   |true=>some (Ajx [] z)
   |false=>none
  |none=>none
def A8y(P:Program)(t:Nat)(g:Bool):Bool:=match (P.info? t).bind (·.zero) with
 |some (.agg _)=>g
 |some (.tuple _)=>false
 |some _=> !g
 |none=>false
def Ajl(fs:List (Nat×Nat)):List (Nat×Operand)→Option (List (Nat×Nat×Operand))
 | []=>some []
 |(i,x)::r=>match fs[i]?,Ajl fs r with
  |some (off,sz),some l=>some ((off,sz,x)::l)
  |_,_=>none
def Adf(i:Nat):List (Nat×Operand)→Option (List Operand)
 | []=>some []
 |(j,x)::r=>match Nat.beq i j,Adf (i+1) r with
  |true,some l=>some (x::l)
  |_,_=>none
def Aek(P:Program)(t:Nat):Option Nat:=match P.underlying t with
 |some .bool=>some 0
 |some (.int _)=>some 1
 |some .string=>some 2
 |_=>none
def Afh(P:Program):List Field→Option (List (Nat×Nat))
 | []=>some []
 |f::r=>match f.name == "_",Aek P f.type,Afh P r with
  |false,some tag,some l=>some ((tag,f.offset)::l)
  |_,_,_=>none
def Anf:Nat→List (Nat×Nat)→Bool
 |_,[]=>true
 |k,(_,o)::r=>match Nat.beq o k with
  |true=>Anf (k+1) r
  |false=>false
def Aj2(tag:Nat):List Nat→List (Nat×Nat)
 | []=> []
 |k::r=>(tag,k)::Aj2 tag r
def Abx(P:Program)(t:Nat):Option (List (Nat×Nat)):=match P.underlying t with
 |some (.struct fs)=>match P.stoodInHeld t,P.eqGuardType P.depth t with
  |false,false=>Afh P fs.toList
  |_,_=>none
 |some (.array n e)=>match Aek P e,Nat.beq (P.cellsOf e) 1 && (P.info? e).isSome,P.eqGuardType P.depth t with
  |some tag,true,false=>some (Aj2 tag (List.range n))
  |_,_,_=>none
 |_=>none
def Zc(P:Program)(t:Nat):Option (Bool×List (Nat×Nat)):=match Aek P t with
 |some tag=>some (false,[(tag,0)])
 |none=>match Abx P t with
  |some (x::r)=>match Anf 0 (x::r) with
   |true=>some (true,x::r)
   |false=>none
  |_=>none
def Jb(P:Program)(f:Nat):Bool:=match P.funcs[f]? with
 |some fn=> !(fn.name == "runtime.NumGoroutine") && fn.body.isSome
 |none=>false
def A5k(P:Program)(f:Nat):Option Bool:=match P.funcs[f]? with
 |some fn=>match fn.body.isNone && decide (fn.origin= ""),decide (fn.name= "math/bits.Add64"),decide (fn.name= "math/bits.Sub64") with
  |true,true,_=>some false
  |true,false,true=>some true
  |_,_,_=>none
 |none=>none
def Awu:Operand→Bool
 | .const (.slice none 0 0)=>true
 |_=>false
def Bk1(P:Program)(t:Nat):Option Nat:=match P.underlying t with
 |some (.slice e)=>match LX.nil e with
  |some _=>some e
  |none=>none
 |_=>none
def A48(s:Nat):List Operand→Nat
 | []=>0
 | .tmp t::r=>match Nat.beq s t with
  |true=>1+A48 s r
  |false=>A48 s r
 |_::r=>A48 s r
def A49(s:Nat):List Oper→Nat
 | []=>0
 |o::r=>A48 s o.op.operands.toList+A49 s r
def Av5(s:Nat):Code→Nat
 | .region _ os _=>A49 s os.toList
 | .seq a b=>Av5 s a+Av5 s b
 | .cond c a b=>A48 s [c]+Av5 s a+Av5 s b
 | .block _ b=>Av5 s b
 | .loop b=>Av5 s b
 | .skip=>0
 | .exit _=>0
 | .ret=>0
 |_=>2
def Aql(s:Nat):List Oper→Bool
 | []=>false
 |o::r=>match o.op with
  | .call { callee:= .builtin .append,args,argTypes:=_ } =>match args.toList with
   | .tmp t::_=>match Nat.beq s t with
    |true=>true
    |false=>Aql s r
   |_=>Aql s r
  |_=>Aql s r
def Avy(s:Nat):Code→Bool
 | .region _ os _=>Aql s os.toList
 | .seq a b=>match Avy s a with
  |true=>true
  |false=>Avy s b
 | .cond _ a b=>match Avy s a with
  |true=>true
  |false=>Avy s b
 | .block _ b=>Avy s b
 | .loop b=>Avy s b
 |_=>false
def Bdu(c:Code):Nat→Nat
 |0=>0
 |n+1=>(match Nat.beq (Av5 n c) 1,Avy n c with
  |true,true=>(1 <<< (2*n)) ||| (1 <<< (2*n+1))
  |true,false=>1 <<< (2*n)
  |_,_=>0) ||| Bdu c n
def Ar4:Operand→Operand→Bool
 | .tmp a,.tmp b=>Nat.beq a b
 | .const (.int .i64 a),.const (.int .i64 b)=>decide (a=b)
 |_,_=>false
def Asm:Operand→Bool
 | .const (.int .i64 a)=>decide (a=0)
 |_=>false
def A3g(P:Program)(x:Operand)(ty:Nat)(k:K):K:=match Awu x,Bk1 P ty with
 |true,some e=> .nilsl e
 |_,_=>k
def Aps(P:Program)(ty:Nat)(x:Operand):K:=match m0 P ty,x with
 |true,.tmp s=> .take s
 |_,x=> .move x
def mvB(once d:Nat):Bool:=match Nat.testBit once (2*d+1) with
 |true=>true
 |false=>Nat.testBit once 40006 && Nat.testBit once (2*d)
def Ao6(P:Program)(once ty:Nat)(dst:Option Nat)(x:Operand):K:=match m0 P ty,x,dst with
 |true,.tmp s,some d=>match mvB once d with
  |true=> .take s
  |false=> .move (.tmp s)
 |_,x,_=> .move x
def Auf(P:Program)(once t:Nat)(dst:Option Nat)(g:Bool)(sz:Nat)(x:Operand):K:=match m0 P t,dst with
 |true,some s=>match Nat.testBit once (2*s+1) with
  |true=> .loadT x
  |false=> .load g sz x
 |_,_=> .load g sz x
def Ax4(P:Program)(once t sz:Nat)(a x:Operand):K:=match m0 P t,x with
 |true,.tmp s=>match Nat.testBit once (2*s),Nat.beq sz 1 with
  |true,true=> .storeT a s
  |_,_=> .store sz a x
 |_,_=> .store sz a x
def A46(once:Nat)(d:Option Nat):Bool:=Nat.testBit once 40001 && !(match d with|some d=>Nat.testBit once (2*d+1)|none=>false)
def cOp(P:Program)(inl:Nat→Bool)(once:Nat)(o:Oper):K:=
 match o.op with
 | .move x=>A3g P x o.type (Ao6 P once o.type o.dst x)
 | .assign x=>A3g P x o.type (Aps P o.type x)
 | .pick c a b=> .pick c a b
 | .alloc t=>match Ah5 P t with
  |some z=> .alloc z
  |none=> .stop
 | .box _ x=> .box x
 | .build t parts=>match A8z (Nat.testBit once 40005) P t,Azc P t with
  |some z,some fs=>match Ajl fs parts.toList with
   |some l=> .build z l
   |none=> .stop
  |_,_=> .stop
 | .buildSlice t n parts=>match P.underlying t with
  |some (.slice e)=>match szT P e,Ah6 P e,Adf 0 parts.toList with
   |some sz,some z,some l=>match Nat.beq l.length n,Nat.ble (n*sz) 16777216,Nat.beq z.length sz,Nat.ble 1 sz with
    |true,true,true,true=> .bslice e sz l
    |_,_,_,_=> .stop
   |_,_,_=> .stop
  |_=> .stop
 | .load t x=>match P.underlying t,szT P t with
  |some _,some sz=>match Gq P t,Nat.beq sz 1 with
   |false,false=> .stop
   |false,true=>Auf P once t o.dst false sz x
   |true,_=>Auf P once t o.dst true sz x
  |_,_=> .stop
 | .store t a x=>match o.dst,szT P t with
  |none,some sz=>Ax4 P once t sz a x
  |_,_=> .stop
 | .fieldAddr t x f=>match P.underlying t with
  |some (.struct fs)=>match fs[f]? with
   |some fd=>match szT P fd.type with
    |some (_+1)=> .field fd.offset x
    |_=> .stop
   |none=> .stop
  |_=> .stop
 | .indexAddr t x i=>match P.underlying t with
  |some (.slice e)=>match szT P e with
   |some sz=> .index sz x i
   |none=> .stop
  |_=> .stop
 | .extract x i=> .extract x i
 | .nilCheck x=> .nil x
 | .makeFunc (.func f) first caps=>match Jb P f with
  |true=> .mkfn f first.size (first.toList++caps.toList)
  |false=> .stop
 | .makeSlice t l c=>match P.underlying t with
  |some (.slice e)=>match P.info? e,szT P e,Ah5 P e with
   |some i,some sz,some z=>match Nat.beq z.length sz,Nat.ble 1 sz,Ar4 l c,Asm l with
    |true,true,true,_=> .mksl e sz i.bytes z l
    |true,true,false,true=> .mkcap e sz i.bytes c
    |_,_,_,_=> .stop
   |_,_,_=> .stop
  |_=> .stop
 | .slice t x lo hi mx=>match P.underlying t with
  |some .string=>match mx with
   |none=> .sstr x lo hi
   |some _=> .stop
  |some (.slice e)=>match szT P e,(match mx,hi with|some _,none=>false|_,_=>true) with
   |some sz,true=> .slc sz x lo hi mx
   |_,_=> .stop
  |_=> .stop
 | .makeMap t none=>match P.underlying t with
  |some (.map ek ev)=>match LX.nil ek,LX.nil ev with
   |some x,some y=> .mkmap (Gq P ek) (Gq P ev) x y
   |_,_=> .stop
  |_=> .stop
 | .lookup t m q ok=>match P.underlying t with
  |some (.map ek ev)=>match Zc P ek,Ah5 P ev with
   |some (gq,ts),some z=>match A8y P ev (Gq P ev) with
    |true=> .lookup gq ts ok (Gq P ev) z m q
    |false=> .stop
   |_,_=> .stop
  |_=> .stop
 | .mapUpdate t m q v=>match P.underlying t,o.dst with
  |some (.map ek ev),none=>match Zc P ek with
   |some (gq,ts)=> .mapup gq ts m q v
   |none=> .stop
  |_,_=> .stop
 | .call { callee:= .value (.func f),args,argTypes:=_ } =>match Jb P f with
  |true=>match inl f with
   |true=>match inl (4398046511104+f) with
    |true=> .ocall f args.toList
    |false=> .icall f args.toList
   |false=> .call f args.toList
  |false=>match A5k P f,args.toList with
   |some b,[x,y,c]=> .ext b x y c
   |_,_=> .stop
 | .call { callee:= .builtin .delete,args,argTypes } =>match o.dst,args.toList,argTypes.toList with
  |none,[m,q],t::_=>match P.underlying t with
   |some (.map ek _)=>match Zc P ek with
    |some (gq,ts)=> .del gq ts m q
    |none=> .stop
   |_=> .stop
  |_,_,_=> .stop
 | .call { callee:= .value (.tmp x),args,argTypes:=_ } => .callv (.tmp x) args.toList
 | .call { callee:= .builtin .len,args,argTypes } =>match args.toList,argTypes.toList with
  | [x],[t]=>match m0 P t with
   |true=> .len x
   |false=> .scal o
  |_,_=> .stop
 | .call { callee:= .builtin .cap,args,argTypes } =>match args.toList,argTypes.toList with
  | [x],[t]=>match m0 P t with
   |true=> .cap x
   |false=> .stop
  |_,_=> .stop
 | .call { callee:= .builtin .append,args,argTypes } =>match args.toList,argTypes.toList with
  | [.tmp s,x],[t,t']=>match Nat.beq t t',P.underlying t with
   |true,some (.slice e)=>match P.info? e with
    |some i=>match i.zero with
     |some z=>match Nat.beq z.cells.size i.size,Nat.ble 1 i.size with
      |true,true=>match A46 once o.dst && !(inl (2199023255552+e)) with
       |true=> .clone (Nat.testBit once 40002) e i.size i.bytes s x
       |false=> .app e i.size i.bytes s x
      |_,_=> .stop
     |none=> .stop
    |none=> .stop
   |_,_=> .stop
  |_,_=> .stop
 | .call { callee:= .builtin .min,args:=_,argTypes:=_ } | .call { callee:= .builtin .max,args:=_,argTypes:=_ } => .scal o
 | .binOp b t x y _=>match Gq P t with
  |false=>match b,P.underlying t with
   | .quo,some (.int _)=> .bin2 0 x y
   | .rem,some (.int _)=> .bin2 1 x y
   | .shl,some (.int _)=> .bin2 2 x y
   | .shr,some (.int _)=> .bin2 3 x y
   | .add,some .string=> .bin2 4 x y
   | .eql,some (.slice _)=> .bin2 6 x y
   | .neq,some (.slice _)=> .bin2 7 x y
   |_,_=> .scal o
  |true=>match b,Abx P t with
   | .eql,some ts=> .eqA false ts x y
   | .neq,some ts=> .eqA true ts x y
   |_,_=> .stop
 | .unOp .. | .convert .. => .scal o
 | .index t x i=>match P.underlying t with
  |some .string=> .bin2 5 x i
  |_=> .stop
 |_=> .stop
def Afb(os:Array Oper):Option (Nat×Bool)→Option (Option (Nat×Bool))
 |none=>some none
 |some (j,w)=>match (os[j]?).bind (·.dst) with
  |some s=>some (some (s,w))
  |none=>none
def Agx(P:Program)(inl:Nat→Bool)(once:Nat)(os:Array Oper):List Oper→Option (List Gm)
 | []=>some []
 |o::r=>match Afb os o.guard,Agx P inl once os r with
  |some g,some l=>some (⟨o.dst,g,cOp P inl once o⟩::l)
  |_,_=>none
def K.heapy:K→Bool
 | .alloc _| .box _| .load .. | .loadT .. | .store .. | .storeT .. | .call .. | .icall .. | .callv .. | .mksl .. | .clone .. | .mkmap .. | .lookup .. | .mapup .. | .del .. =>true
 |_=>false
def K.isStore:K→Bool
 | .store .. | .storeT .. | .loadT .. | .icall .. | .callv .. | .mapup .. | .del .. =>true
 |_=>false
def K.wild:K→Bool
 | .icall .. | .callv .. =>true
 |_=>false
def K.makes:K→Bool
 | .alloc _| .box _| .mksl .. | .clone .. | .mkmap .. =>true
 |_=>false
def Ys:List Operand→List Nat
 | []=> []
 | .tmp t::r=>t::Ys r
 |_::r=>Ys r
def Aw3:Option Operand→List Operand
 |some x=> [x]
 |none=> []
def K.opds:K→List Operand
 | .move x| .box x| .load _ _ x| .loadT x| .field _ x| .len x| .cap x| .extract x _| .nil x| .aidx _ _ _ x=> [x]
 | .take s=> [.tmp s]
 | .pick c a b=> [c,a,b]
 | .alloc _| .nilsl _| .mkmap .. | .stop=> []
 | .build _ ps=>ps.map fun p=>p.2.2
 | .bslice _ _ ps=>ps
 | .store _ a x| .index _ a x| .eqA _ _ a x| .bin2 _ a x| .del _ _ a x| .lookup _ _ _ _ _ a x=> [a,x]
 | .storeT a s=> [a,.tmp s]
 | .mapup _ _ m q v=> [m,q,v]
 | .ext _ x y c=> [x,y,c]
 | .scal o=>o.op.operands.toList
 | .app _ _ _ s x| .clone _ _ _ _ s x=> [.tmp s,x]
 | .call _ args| .icall _ args| .ocall _ args| .mkfn _ _ args=>args
 | .callv x args=>x::args
 | .mksl _ _ _ _ n| .mkcap _ _ _ n=> [n]
 | .slc _ x lo hi mx=>x::(Aw3 lo++Aw3 hi++Aw3 mx)
 | .sstr x lo hi=>x::(Aw3 lo++Aw3 hi)
def Gm.reads(o:Gm):List Nat:=Ys o.k.opds++(match o.g with|some (s,_)=> [s]|none=> [])
def Gm.writes(o:Gm):List Nat:=(match o.dst with|some d=> [d]|none=> [])++(match o.k with| .take s=> [s]| .app _ _ _ s _=> [s]| .clone _ _ _ _ s _=> [s]| .storeT _ s=> [s]|_=> [])
def Adp(a b:List Nat):Bool:=a.any fun x=>b.any fun y=>Nat.beq x y
def K.addr:K→Option Nat
 | .load _ _ (.tmp a)=>some a
 | .loadT (.tmp a)=>some a
 | .store _ (.tmp a) _=>some a
 | .storeT (.tmp a) _=>some a
 |_=>none
def l9(a b:Nat):List (Nat×Nat)→Bool
 | []=>false
 |(c,d)::r=>(Nat.beq a c && Nat.beq b d) || (Nat.beq a d && Nat.beq b c) || l9 a b r
def Uh(ap:List (Nat×Nat))(x y:Gm):Bool:=match x.k.addr,y.k.addr with
 |some a,some b=>l9 a b ap
 |_,_=>false
def K.isLoad:K→Bool
 | .load .. =>true
 | .call .. =>true
 |_=>false
def K.isTake:K→Bool
 | .loadT _=>true
 |_=>false
def Alx(fx:Bool)(x:K)(fy:Bool)(y:K):Bool:=((x.isTake || fx) && y.isLoad) || (x.isLoad && (y.isTake || fy))
def Tp(ap:List (Nat×Nat))(fx:Bool)(x:Gm)(fy:Bool)(y:Gm):Bool:=
 Adp x.writes y.reads || Adp x.writes y.writes || Adp x.reads y.writes || (((x.k.isStore && y.k.heapy) || (x.k.heapy && y.k.isStore)) && !Uh ap x y && !Alx fx x.k fy y.k)
def Ow(a:Nat):List Gm→Bool
 | []=>true
 |e::r=>match A9 a e.writes with
  |true=>Ow a r
  |false=>false
def Aqj:List Gm→List Nat
 | []=> []
 |e::r=>match e.k.addr with
  |some a=>a::Aqj r
  |none=>Aqj r
def Ajk(l:List Gm)(a:Nat):List Nat→List (Nat×Nat)
 | []=> []
 |b::r=>match Nat.beq a b,Ow b l with
  |false,true=>(a,b)::Ajk l a r
  |_,_=>Ajk l a r
def Ajw(l:List Gm):List Gm→List (Nat×Nat)
 | []=> []
 |e::r=>match e.k.isStore,e.k.addr with
  |true,some a=>match Ow a l with
   |true=>Ajk l a (Aqj l)++Ajw l r
   |false=>Ajw l r
  |_,_=>Ajw l r
def k6(l:List Gm):List (Nat×Nat)→Bool
 | []=>true
 |(a,b)::r=>Ow a l && Ow b l && k6 l r
def Y9(o:Oper):List Nat:=(o.after.toList.filter fun e=>Region.binds .any e).map (·.on)
def Amj(acc:List Nat):List Nat→Nat
 | []=>0
 |e::r=>(1 <<< e) ||| (acc.getD e 0) ||| Amj acc r
def A87:List Oper→List Nat→List Nat
 | [],acc=>acc
 |o::r,acc=>A87 r (acc++ [Amj acc (Y9 o)])
def below(n:Nat)(p:Nat→Bool):Bool:=match n with
 |0=>true
 |n+1=>match p n with
  |true=>below n p
  |false=>false
def Gm.mkAt(a:Nat)(e:Gm):Bool:=match e.k,e.g,e.dst with
 | .alloc _,none,some d=>Nat.beq d a
 | .box _,none,some d=>Nat.beq d a
 |_,_,_=>false
def Bma(l:List Gm)(a k:Nat):Bool:=below l.length fun j=>Nat.beq j k || (match l[j]? with|some e=>A9 a e.writes|none=>true)
def Cy(l:List Gm)(j:Nat):Bool:=match l[j]? with
 |some e=>e.k.isStore && !e.k.isTake && (match e.k.addr with
  |some a=> !(below j fun k=> !(match l[k]? with|some e'=>e'.mkAt a && Bma l a k|none=>false))
  |none=>false)
 |none=>false
def A7a(ap:List (Nat×Nat))(l:List Gm)(A:List Nat)(i j:Nat):Bool:=match l[i]?,l[j]? with
 |some x,some y=>match Tp ap (Cy l i) x (Cy l j) y with
  |true=>Nat.testBit (A.getD j 0) i
  |false=>true
 |_,_=>true
def Abv(j:Nat):List Nat→Bool
 | []=>true
 |e::r=>match Nat.blt e j with
  |true=>Abv j r
  |false=>false
def Afe(ap:List (Nat×Nat))(os:List Oper)(l:List Gm):Bool:=
 k6 l ap && below os.length fun j=>below j (fun i=>A7a ap l (A87 os []) i j) && (match os[j]? with|some o=>Abv j (Y9 o)|none=>true)
def Vo(nt:Nat):List Gm→Bool
 | []=>true
 |o::r=>match o.dst with
  |some d=>match Nat.blt d nt with
   |true=>Vo nt r
   |false=>false
  |none=>Vo nt r
def Bfu(d:Nat)(l:List Nat):List Nat:=match A9 d l with
 |true=>l++ [d]
 |false=>l
def A2d:List Oper→List Nat→List Nat
 | [],l=>l
 |o::r,l=>A2d r (match o.op,o.dst with
  | .assign _,some d=>Bfu d l
  | .alloc _,some d=>Bfu d l
  | .box _ _,some d=>Bfu d l
  |_,_=>l)
def d8:Code→List Nat→List Nat
 | .region _ os _,l=>A2d os.toList l
 | .seq a b,l=>d8 b (d8 a l)
 | .cond _ a b,l=>d8 b (d8 a l)
 | .block _ b,l=>d8 b l
 | .loop b,l=>d8 b l
 |_,l=>l
def Amk:List Oper→List Nat
 | []=> []
 |o::r=>match o.op,o.dst with
  | .move _,some d=>d::Amk r
  |_,_=>Amk r
def We:Code→List Nat
 | .region _ os _=>Amk os.toList
 | .seq a b=>We a++We b
 | .cond _ a b=>We a++We b
 | .block _ b=>We b
 | .loop b=>We b
 |_=> []
def Awa:List Nat→List Nat
 | []=> []
 |d::r=>match A9 d r with
  |true=>Awa r
  |false=>d::Awa r
def Yq:List Gm→List Nat
 | []=> []
 |o::r=>match o.k.makes,o.dst with
  |true,some d=>d::Yq r
  |_,_=>Yq r
def Ao5:List Nat→Nat
 | []=>0
 |s::r=>(1 <<< s) ||| Ao5 r
def Bds:List Oper→Nat
 | []=>0
 |o::r=>Ao5 (Ys o.op.operands.toList) ||| (match o.dst with|some d=>1 <<< d|none=>0) ||| Bds r
def Eu:Code→Nat
 | .region _ os _=>Bds os.toList
 | .seq a b=>Eu a ||| Eu b
 | .cond c a b=>Ao5 (Ys [c]) ||| Eu a ||| Eu b
 | .block _ b=>Eu b
 | .loop b=>Eu b
 |_=>0
def A1f:List ResultVar→Nat
 | []=>0
 | .tmp t::r=>(1 <<< t) ||| A1f r
 | .cell t _::r=>(1 <<< t) ||| A1f r
def Axw:List ResultVar→List Nat
 | []=> []
 | .tmp t::r=>t::Axw r
 | .cell t _::r=>t::Axw r
def Hm(nt:Nat)(V:List Nat)(out body:Nat):List Nat:=
 (List.range nt).filter fun s=>Nat.testBit out s && (Nat.testBit body s || !(A9 s V))
def Acd:Code→Bool
 | .exit _=>true
 | .ret=>true
 | .skip=>true
 |_=>false
def Bdr(nt m:Nat):List Nat:=(List.range nt).filter fun s=>Nat.testBit m s
def A5r:List Gm→List Nat→List Nat
 | [],acc=>acc
 |o::r,acc=>A5r r (match o.k,o.dst with
  | .bslice _ _ ps,_=>Ys ps++acc
  | .call _ args,_=>Ys args++acc
  | .move (.tmp s),some d=>match A9 d acc with
   |true=>acc
   |false=>s::Ab9 d acc
  | .take s,some d=>match A9 d acc with
   |true=>acc
   |false=>s::Ab9 d acc
  |_,_=>acc)
structure Avv where
 t:Nat
 os1:Array Oper
 pre:List Oper
 m:Operand
 it:Nat
 nx:Nat
 more:Nat
 pair:Nat
 n:Nat
 os3:Array Oper
 rest:List Oper
def A1k(os1 os2 os3:Array Oper)(mo n:Nat):Option Avv:=match os1.toList.reverse,os2.toList,os3.toList with
 |⟨some it,.range t m,_,_,_,none⟩::pre,[⟨some nx,.next (.tmp it') false,_,_,_,none⟩,⟨some mo',.extract (.tmp nx') 0,_,_,_,none⟩],⟨some pair,.entry (.tmp it''),_,_,_,none⟩::rest=>
  match Nat.beq it it' && Nat.beq it it'' && Nat.beq nx nx' && Nat.beq mo mo' && !Nat.beq it nx && !Nat.beq it mo with
  |true=>some ⟨t,os1,pre.reverse,m,it,nx,mo,pair,n,os3,rest⟩
  |false=>none
 |_,_,_=>none
def Au0:Code→Code→Option Avv
 | .region _ os1 false,.block o (.loop (.seq (.region _ os2 false) (.seq (.cond (.tmp mo) .skip (.exit o')) (.block n (.seq (.region _ os3 false) _)))))=>match Nat.beq o o' with
  |true=>A1k os1 os2 os3 mo n
  |false=>none
 |_,_=>none
def Apc:EC→Option (List Nat×EC)
 | .block _ (.loop keys (.seq _ (.seq (.kp _) (.seq _ (.seq (.kp _) (.block _ (.seq _ v)))))))=>some (keys,v)
 |_=>none
def Awt(P:Program)(t:Nat):Bool:=match P.underlying t with
 |some (.map _ _)=>true
 |_=>false
def Axb(P:Program)(inl:Nat→Bool)(once nt:Nat)(p:Avv):Option (List Nat×EC)→EC
 |some (keys,v)=>match Agx P inl once p.os1 p.pre,Agx P inl once p.os3 p.rest with
  |some l1,some l3=>match Vo nt l1 && Vo nt l3 && Nat.blt p.it nt && Nat.blt p.nx nt && Nat.blt p.more nt && Nat.blt p.pair nt && Awt P p.t && !A9 p.it keys with
   |true=> .rng l1 p.m p.it p.nx p.more p.pair keys l3 v p.n
   |false=> .stop
  |_,_=> .stop
 |none=> .stop
def Bkq(once:Nat)(V:List Nat):List Nat:=match Nat.testBit once 40007 with
 |true=>V
 |false=> []
def Aha(once:Nat)(V:List Nat)(e:EC):EC:=match Nat.testBit once 40007 with
 |true=> .seq (.vws V) e
 |false=>e
def Bcn(once:Nat)(V:List Nat)(l:List Gm):EC:=match Nat.testBit once 40007 with
 |true=> .seq (.regS l) (.vws V)
 |false=> .regS l
def vwR(once:Nat)(V:List Nat)(st:St):St:=match Nat.testBit once 40007 with
 |true=>st.vwL V
 |false=>st
def H4(P:Program)(inl:Nat→Bool)(once nt:Nat)(V:List Nat)(out lt:Nat):Code→EC
 | .skip=> .skip
 | .region _ os d=>match Agx P inl once os os.toList with
  |some l=>match Vo nt l with
   |true=>match d with
    |true=>match Afe [] os.toList l with
     |true=> .region (Yq l) [] l
     |false=>match Afe (Ajw l l) os.toList l with
      |true=> .region (Yq l) (Ajw l l) l
      |false=> .stop
    |false=>match Nat.testBit once 40003 with
     |true=> .seq (.frz (A5r l.reverse (Bkq once V))) (Bcn once V l)
     |false=>Bcn once V l
   |false=> .stop
  |none=> .stop
 | .seq a b=>match Au0 a b with
  |some p=>Axb P inl once nt p (Apc (H4 P inl once nt V (out ||| Eu a) lt b))
  |none=> .seq (H4 P inl once nt V (out ||| Eu b) (lt ||| Eu b) a) (match Acd b with
  |true=>H4 P inl once nt V (out ||| Eu a) lt b
  |false=> .seq (.kp (Bdr nt (lt ||| Eu b))) (H4 P inl once nt V (out ||| Eu a) lt b))
 | .cond c a b=> .cond c (H4 P inl once nt V (out ||| Eu b ||| Ao5 (Ys [c])) lt a) (H4 P inl once nt V (out ||| Eu a ||| Ao5 (Ys [c])) lt b)
 | .block id b=> .block id (H4 P inl once nt V out lt b)
 | .loop b=>Aha once V (match Nat.testBit once 40004 with
  |true=> .loopU (Hm nt V out (Eu b)) (H4 P inl once nt (V++Hm nt V out (Eu b)) out (lt ||| Eu b) b)
  |false=> .loop (Hm nt V out (Eu b)) (H4 P inl once nt (V++Hm nt V out (Eu b)) out (lt ||| Eu b) b))
 | .exit id=> .exit id
 | .ret=> .ret
 |_=> .stop
def Al9(inl:Nat→Bool)(fn:Func)(j b:Nat):Nat:=match inl (1099511627776+((match fn.params.toList with|t::_=>t| []=>0)*16777216+fn.endLine*4096+fn.ntmps)*8+j) with
 |true=>1 <<< b
 |false=>0
def cFn(P:Program)(inl:Nat→Bool)(fn:Func):Option EC:=match fn.body with
 |some c=>some (H4 P inl (Bdu c fn.ntmps ||| Al9 inl fn 0 40001 ||| Al9 inl fn 1 40003 ||| Al9 inl fn 2 40002 ||| Al9 inl fn 3 40004 ||| Al9 inl fn 4 40005 ||| Al9 inl fn 5 40006 ||| Al9 inl fn 6 40007) fn.ntmps (d8 c (List.range fn.params.size++Axw fn.results.toList++Awa (We c))) (Ao5 (List.range fn.params.size) ||| A1f fn.results.toList) (A1f fn.results.toList) c)
 |none=>none
def Ajo(sz:Nat):Nat→List PV→List (List PV)
 |0,_=> []
 |n+1,l=>l.take sz::Ajo sz n (l.drop sz)
def PV.finN(O:Nat→List PV):Nat→PV→PV
 |0,p=>p.pure0
 |m+1,p=>match p with
 | .vw c d e sz n=>match c,O d with
  |false,[.arrO x]=>match Nat.beq sz x.sz with
   |true=> .lst false x
   |false=> .any
  |true,cs=>match LX.lit e (Ajo sz n (cs.map (PV.finN O m))),Vf cs (n*sz) && plain cs with
   |some x,true=>match Nat.beq sz x.sz with
    |true=> .lst false x
    |false=> .any
   |_,_=> .any
  |_,_=> .any
 |p=>p.pure0
def PV.fin1(O:Nat→List PV)(p:PV):PV:=PV.finN O 3 p
def PV.fin(O:Nat→List PV):PV→PV
 | .agg l=> .agg (l.map (PV.fin1 O))
 | .tup l=> .tup (l.map (PV.fin1 O))
 | .sl _ e sz es=> .sl false e sz (es.map fun r=>r.map PV.pure0)
 |p=>p.fin1 O
def R9(P:Program)(st:St):List ResultVar→(List PV→Prop)→Prop
 | [],k=>k []
 | .tmp t::r,k=>R9 P st r fun l=>k (st.get t::l)
 | .cell a t::r,k=>match st.get a,szT P t,P.underlying t with
  | .loc b off,some sz,some _=>match Gq P t,Nat.beq sz 1,Sb ((st.obj b).drop off) sz && plain (((st.obj b).drop off).take sz) with
   |true,_,true=>R9 P st r fun l=>k (.agg (((st.obj b).drop off).take sz)::l)
   |false,true,true=>R9 P st r fun l=>k (X6 false (((st.obj b).drop off).take sz)::l)
   |_,_,_=>False
  |_,_,_=>False
def Yc(i:Nat):List PV→List (Nat×PV)
 | []=> []
 |p::r=>(i,p.view)::Yc (i+1) r
def Adk(O:Nat→List PV)(k:PV→Prop):List PV→Prop
 | [r]=>k (r.fin O)
 |l=>k (.tup (l.map (PV.fin O)))
def Kb(P:Program)(rs:List ResultVar)(k:PV→Prop):Ex→St→Prop:=fun e st=>match e with
 | .exit _=>False
 | .normal=>R9 P st rs (Adk st.obj k)
 | .ret=>R9 P st rs (Adk st.obj k)
def Aq5(ob:List (Nat×List PV))(k:PV→List (Nat×List PV)→Prop):List PV→Prop
 | [r]=>k r ob
 |l=>k (.tup (l.map PV.view)) ob
def Dg(P:Program)(rs:List ResultVar)(k:PV→List (Nat×List PV)→Prop):Ex→St→Prop:=fun e st=>match e with
 | .exit _=>False
 | .normal=>R9 P st rs (Aq5 (Acm st.ob) k)
 | .ret=>R9 P st rs (Aq5 (Acm st.ob) k)
def Ast(f:PV→Bool):List PV→Bool
 | []=>true
 |p::r=>match f p with
  |true=>Ast f r
  |false=>false
def PV.fx1:PV→Bool
 | .agg l=>Ast PV.flat l
 |p=>p.flat
def PV.fx:PV→Bool
 | .tup l=>Ast PV.fx1 l
 |p=>p.fx1
def PV.cross:PV→PV
 | .agg l=> .agg (l.map PV.pure0)
 |p=>p.pure0
def PV.cellOK:PV→Bool
 | .any=>true
 | .val _=>true
 | .lst false _=>true
 |_=>false
def okC(l:List PV):Bool:=Ast PV.cellOK l
def stK(P:Program)(C:Bt)(f:Nat)(args:List PV)(ob:List (Nat×List PV))(k:PV→List (Nat×List PV)→Prop):Prop:=match args with
 | .loc d 0::ps=>match A9 d (ob.map Prod.fst),okC (Db [] ob d),Jb P f with
  |false,true,true=>C f (.tup (Db [] ob d)::ps.map PV.cross) fun r=>match r with
   | .tup [r0,.agg l]=>k r0 [(d,l)]
   |_=>False
  |_,_,_=>False
 |_=>False
def Bdl(e b:Nat)(args:List PV)(k:PV→List (Nat×List PV)→Prop):Prop:=match args,LX.nil e with
 | [.val (.slice none 0 0),.val (.int .i64 m)],some x=>gd (0≤m) (gd (m*(b:Int)≤140737488355328) (gd (m≤(4611686018427387904:Int)) (k (.lst true x) [])))
 |_,_=>False
def evJ(P:Program)(inl:Nat→Bool)(C:Bt)(L:Nat)(X:Inl):Inl:=fun f args ob k=>match inl f with
  |true=>match P.funcs[f]? with
   |some fn=>match cFn P inl fn,Nat.ble args.length fn.ntmps,Jb P f with
    |some ec,true,true=>f9 P C X L ec { fr:=Yc 0 args,ob:=ob,base:=Adq ob } (Dg P fn.results.toList k)
    |_,_,_=>False
   |none=>False
  |false=>match Jb P f with
   |true=>C f (args.map (Aej (Db [] ob))) fun r=>k r.view []
   |false=>False
def A47(e:Nat)(args:List PV)(k:PV→List (Nat×List PV)→Prop)(E:Prop):Prop:=match args,LX.nil e with
 | [.lst _ z],some n=>br (Nat.beq z.len 0) (k (.lst true n) []) E
 |_,_=>E
def evB(P:Program)(inl:Nat→Bool)(G:Nat→Option (Nat×Nat))(C:Bt)(L:Nat)(X:Inl):Inl:=fun f args ob k=>match G f with
  |some (e,b)=>match Nat.beq b 0 with
   |true=>A47 e args k (evJ P inl C L X f args ob k)
   |false=>match Nat.beq b 2000000 with
    |true=>stK P C f args ob k
    |false=>Bdl e b args k
  |none=>evJ P inl C L X f args ob k
def Ate(P:Program)(inl:Nat→Bool)(G:Nat→Option (Nat×Nat))(C:Bt)(L:Nat):Nat→Inl
 |0,_,_,_,_=>False
 |n+1,f,args,ob,k=>evB P inl G C L (Ate P inl G C L n) f args ob k
noncomputable def YoS(P:Program)(inl:Nat→Bool)(G:Nat→Option (Nat×Nat))(C:Bt)(L:Nat): { Y:Nat→Inl // Y=Ate P inl G C L } :=Classical.choice ⟨⟨Ate P inl G C L,rfl⟩⟩
noncomputable def Yo(P:Program)(inl:Nat→Bool)(G:Nat→Option (Nat×Nat))(C:Bt)(L:Nat):Nat→Inl:=(YoS P inl G C L).1
noncomputable def evI(P:Program)(inl:Nat→Bool)(G:Nat→Option (Nat×Nat))(J:Nat→Bool)(C:Bt)(L:Nat):Nat→Inl
 |0,_,_,_,_=>False
 |n+1,f,args,ob,k=>match J f with
  |true=>Yo P inl G C L (n+1) f args ob k
  |false=>evB P inl G C L (evI P inl G J C L n) f args ob k
theorem Bdi(P:Program)(inl:Nat→Bool)(G:Nat→Option (Nat×Nat))(C:Bt)(L:Nat):Yo P inl G C L=Ate P inl G C L:=(YoS P inl G C L).2
theorem Awh(P:Program)(inl:Nat→Bool)(G:Nat→Option (Nat×Nat))(J:Nat→Bool)(C:Bt)(L:Nat):∀n,evI P inl G J C L n=Ate P inl G C L n
 |0=>rfl
 |n+1=>by
  funext f args ob k
  simp only [evI,Ate,Bdi,Awh P inl G J C L n]
  cases J f<;>rfl
theorem C6(P:Program)(inl:Nat→Bool)(G:Nat→Option (Nat×Nat))(J:Nat→Bool)(C:Bt)(L n f:Nat)(args:List PV)(ob:List (Nat×List PV))(k:PV→List (Nat×List PV)→Prop):
  Yo P inl G C L (n+1) f args ob k=evB P inl G C L (evI P inl G J C L n) f args ob k:=by
 rw [Bdi,Awh];rfl
def Aew:List PV→Bool
 | .tup _::_=>true
 |_=>false
def Atd(P:Program)(C:Bt)(X:Inl)(L:Nat)(rs:List ResultVar)(ec:EC)(args:List PV)(k:PV→Prop):Prop:=match Aew args with
 |true=>False
 |false=>f9 P C X L ec { fr:=Yc 0 args,ob:= [],base:=0 } (Kb P rs k)
theorem Aic{P:Program}{C:Bt}{X:Inl}{L:Nat}{rs:List ResultVar}{ec:EC}{args:List PV}{k:PV→Prop}(h:Atd P C X L rs ec args k):Aew args=false∧f9 P C X L ec { fr:=Yc 0 args,ob:= [],base:=0 } (Kb P rs k):=by
 unfold Atd at h
 cases hh:Aew args with
 |true=>rw [hh] at h;exact h.elim
 |false=>rw [hh] at h;exact ⟨rfl,h⟩
end Go.Proofs.YthjhkpgonleelaaGreatDoor.Ev
namespace Go.Proofs.YthjhkpgonleelaaGreatDoor.Ev
open Go Go.RowKit
set_option linter.unusedVariables false
set_option linter.unusedSimpArgs false
set_option linter.unnecessarySimpa false
abbrev Px:=Nat→Option Nat
abbrev N0:=Nat→Option (Nat×Nat)
def imm(M:Px)(a:Addr):Prop:=∀n,M a.block=some n→a.off < n
structure E9 where
 w:World
 old:Nat→Prop
 lt:∀b,old b→b < w.heap.size
structure Bel (B:E9) (w:World):Prop where
 os:w.os=B.w.os
 tape:w.tape=B.w.tape
 output:w.output=B.w.output
 size:B.w.heap.size≤w.heap.size
 block:∀k,B.old k→w.heap[k]? =B.w.heap[k]?
inductive B1 (w:World) (M:Px) (β :N0) (B:Nat→Prop):PV→Value→Prop
 |any (v:Value):B1 w M β B .any v
 |val (v:Value) (h:v.oneCell'=true):B1 w M β B (.val v) v
 |agg (l:List PV) (cs:List Value) (hl:l.length=cs.length) (h1:∀v∈cs,v.oneCell'=true)
   (hr:∀(i:Nat) (p:PV) (v:Value),l[i]? =some p→cs[i]? =some v→B1 w M β B p v):B1 w M β B (.agg l) (.agg cs.toArray)
 |tup (l:List PV) (cs:List Value) (hl:l.length=cs.length)
   (hr:∀(i:Nat) (p:PV) (v:Value),l[i]? =some p→cs[i]? =some v→B1 w M β B p v):B1 w M β B (.tup l) (.tuple cs.toArray)
 |row (p:PV) (s:SV) (hs:p.sv=some s) (a:Option Addr) (c:Nat) (vs:Nat→Nat→Value)
   (hc:s.n≤c) (hsz:∀(i:Nat),i < s.n→(s.f i).length=s.sz) (ha:∀(i:Nat),i < s.n→∃ad,a=some ad)
   (hm:∀(ad:Addr) (i:Nat) (j:Nat) (p:PV),a=some ad→i < s.n→(s.f i)[j]? =some p→imm M (ad.add (i*s.sz+j))∧w.cell? (ad.add (i*s.sz+j))=some (vs i j)∧(vs i j).oneCell'=true)
   (hr:∀(i:Nat) (j:Nat) (p:PV),i < s.n→(s.f i)[j]? =some p→B1 w M β B p (vs i j)):B1 w M β B p (.slice a s.n c)
 |loc (d off b n:Nat) (h: β d=some (b,n)):B1 w M β B (.loc d off) (.pointer (some ⟨b,off,none⟩))
 |el (d sz i off b n:Nat) (h: β d=some (b,n)) (hi:i < n):B1 w M β B (.el d sz i off) (.pointer (some ⟨b,i*sz+off,none⟩))
 |vw (cf:Bool) (d e sz n b c:Nat) (h: β d=some (b,n)) (hc:n≤c):B1 w M β B (.vw cf d e sz n) (.slice (some ⟨b,0,none⟩) n c)
 |mp (d b n:Nat) (h: β d=some (b,n)):B1 w M β B (.mp d) (.map (some b))
 |clo (f n:Nat) (l:List PV) (cs:List Value) (hl:l.length=cs.length)
   (hr:∀(i:Nat) (p:PV) (v:Value),l[i]? =some p→cs[i]? =some v→B1 w M β B p v):B1 w M β B (.clo f n l) (.func (.func f) (cs.take n).toArray (cs.drop n).toArray)
 |ref (l:List PV) (ad:Addr) (vs:Nat→Value) (hm:∀(i:Nat) (p:PV),l[i]? =some p→(B ad.block∨Ev.imm M (ad.add i))∧w.cell? (ad.add i)=some (vs i)∧(vs i).oneCell'=true)
   (hr:∀(i:Nat) (p:PV),l[i]? =some p→B1 w M β B p (vs i)):B1 w M β B (.ref l) (.pointer (some ad))
def Ext(w:World)(M:Px)(w':World)(M':Px):Prop:=∀a v,imm M a→w.cell? a=some v→imm M' a∧w'.cell? a=some v
theorem Ext.refl(w:World)(M:Px):Ext w M w M:=fun _ _ h h'=>⟨h,h'⟩
theorem Ext.trans{w w' w'':World}{M M' M'':Px}(h:Ext w M w' M')(h':Ext w' M' w'' M''):Ext w M w'' M'':=
 fun a v hi hc=>let ⟨h1,h2⟩:=h a v hi hc;h' a v h1 h2
theorem Ad6(a:Addr)(n:Nat):(a.add n).block=a.block:=by unfold Addr.add;split<;>rfl
theorem Agq(a:Addr)(i j:Nat):(a.add i).add j=a.add (i+j):=by
 unfold Addr.add
 by_cases hi:i=0<;>by_cases hj:j=0<;>simp [hi,hj,Nat.add_assoc]
theorem Ad5(g k:Nat):(⟨g,0,none⟩:Addr).add k=⟨g,k,none⟩:=by unfold Addr.add;split<;>simp_all
theorem Agr(g o k:Nat):(⟨g,o,none⟩:Addr).add k=⟨g,o+k,none⟩:=by unfold Addr.add;split<;>simp_all
section
variable {w w':World} {M M':Px} {β β':N0} {B:Nat→Prop}
theorem B1.ext(h:Ext w M w' M')(hB:∀a:Addr,B a.block→w'.cell? a=w.cell? a)(hβ :∀d x,β d=some x→β' d=some x){p:PV}{v:Value}(hr:B1 w M β B p v):B1 w' M' β' B p v:=by
 induction hr with
 |any v=>exact .any v
 |val v h=>exact .val v h
 |agg l cs hl h1 _ ih=>exact .agg l cs hl h1 ih
 |tup l cs hl _ ih=>exact .tup l cs hl ih
 |row p s hs a c vs hc hsz ha hm _ ih=>
  exact .row p s hs a c vs hc hsz ha (fun ad i j p h1 h2 h3=>let ⟨g1,g2,g3⟩:=hm ad i j p h1 h2 h3;let ⟨k1,k2⟩:=h _ _ g1 g2;⟨k1,k2,g3⟩) ih
 |loc d off b n h=>exact .loc d off b n (hβ _ _ h)
 |el d sz i off b n h hi=>exact .el d sz i off b n (hβ _ _ h) hi
 |vw cf d e sz n b c h hc=>exact .vw cf d e sz n b c (hβ _ _ h) hc
 |mp d b n h=>exact .mp d b n (hβ _ _ h)
 |clo f n l cs hl _ ih=>exact .clo f n l cs hl ih
 |ref l ad vs hm _ ih=>
  refine .ref l ad vs (fun i p hp=> ?_) ih
  obtain ⟨g1,g2,g3⟩:=hm i p hp
  rcases g1 with g1|g1
  ·exact ⟨.inl g1,by rw [hB _ (by rw [Ad6];exact g1)];exact g2,g3⟩
  ·obtain ⟨k1,k2⟩:=h _ _ g1 g2
   exact ⟨.inr k1,k2,g3⟩
theorem Bc6{p:PV}{s:SV}(h:p.sv=some s):p.view.sv=some { s with own:=false } :=by
 cases p<;>simp only [PV.sv] at h<;>first|(injection h with h;subst h;rfl)|cases h
theorem Om{p:PV}{s:SV}(h:p.view.sv=some s):s.own=false:=by
 cases p<;>simp only [PV.view,PV.sv] at h<;>first|(injection h with h;subst h;rfl)|cases h
theorem Asl{p:PV}(h:p.sv=none):p.view=p:=by
 cases p<;>first|rfl|(simp only [PV.sv] at h;cases h)
theorem B1.view{p:PV}{v:Value}(h:B1 w M β B p v):B1 w M β B p.view v:=by
 cases hq:p.sv with
 |none=>rw [Asl hq];exact h
 |some s=>
  have key:∀(p q:PV) (s:SV),p.sv=some s→q.sv=some { s with own:=false } →B1 w M β B p v→B1 w M β B q v:=by
   intro p q s hp hq hr
   cases hr with
   |row p s' hs a c vs hc hsz ha hm hr=>
    rw [hp] at hs;injection hs with hs;subst hs
    exact .row q { s with own:=false } hq a c vs hc hsz ha hm hr
   |_=>simp only [PV.sv] at hp;cases hp
  exact key p p.view s hq (Bc6 hq) h
theorem Arr(v:Value):Ajj v=v.oneCell':=by cases v<;>rfl
theorem B1.one{p:PV}{v:Value}(h:B1 w M β B p v)(h1:p.one=true):v.oneCell'=true:=by
 cases h with
 |any=>simp [PV.one] at h1
 |val v h=>exact h
 |agg=>simp [PV.one] at h1
 |tup=>simp [PV.one] at h1
 |_=>rfl
theorem A5p{p:PV}{s:SV}(hf:p.flat=true)(hs:p.sv=some s):∀(i j:Nat) (q:PV),(s.f i)[j]? =some q→q.flat=true:=by
 intro i j q hq
 cases p with
 |lst own x=>injection hs with hs;subst hs;exact LX.row_flat _ _ _ (List.mem_of_getElem? hq)
 |sl=>cases hf
 |_=>cases hs
theorem B1.flat{B':Nat→Prop}{p:PV}{v:Value}(h:B1 w M β B p v)(hf:p.flat=true):B1 w M β' B' p v:=by
 induction h with
 |any v=>exact .any v
 |val v h=>exact .val v h
 |row p s hs a c vs hc hsz ha hm hr ih=>
  exact .row p s hs a c vs hc hsz ha hm (fun i j q hi hq=>ih i j q hi hq (A5p hf hs i j q hq))
 |_=>simp [PV.flat] at hf
theorem B1.pure0{B':Nat→Prop}{p:PV}{v:Value}(h:B1 w M β B p v):B1 w M β' B' p.pure0 v:=by
 unfold PV.pure0
 cases hf:p.flat with
 |true=>exact (h.flat hf).view
 |false=>exact .any v
theorem B1.val_eq{v u:Value}(h:B1 w M β B (.val v) u):u=v:=by
 cases h with
 |val v h=>rfl
 |row p s hs=>cases hs
theorem B1.le{p q:PV}{v:Value}(hl:PV.Le p q)(h:B1 w M β B p v):B1 w M β B q v:=by
 cases hl with
 |view=>exact h.view
 |nil own y hy=>
  have:=h.val_eq
  subst this
  have:B1 w M β B (.lst own y) (.slice none (SV.mk own y.e y.sz y.len y.row).n 0):=
   .row _ ⟨own,y.e,y.sz,y.len,y.row⟩ rfl none 0 (fun _ _=>undef) (by simp [hy]) (fun i hi=>by simp [hy] at hi) (fun i hi=>by simp [hy] at hi) (fun ad i j p ha=>by cases ha) (fun i j p hi=>by simp [hy] at hi)
  simpa [hy] using this
theorem Zl{s:PV→Bool} :∀ {l:List PV},Ae2 s l=true→∀(i:Nat) (p:PV),l[i]? =some p→s p=true
 | [],_,i,p,h=>by simp at h
 |q::r,h,i,p,hp=>by
  simp only [Ae2] at h
  cases hq:s q with
  |false=>rw [hq] at h;cases h
  |true=>
   rw [hq] at h
   cases i with
   |zero=>simp at hp;subst hp;exact hq
   |succ i=>exact Zl h i p (by simpa using hp)
theorem Am9{s:PV→Bool} :∀ {l:List (List PV)},Ar3 s l=true→∀(i:Nat),Ae2 s (l.getD i [])=true
 | [],_,i=>rfl
 |q::r,h,i=>by
  simp only [Ar3] at h
  cases hq:Ae2 s q with
  |false=>rw [hq] at h;cases h
  |true=>
   rw [hq] at h
   cases i with
   |zero=>exact hq
   |succ i=>exact Am9 h i
def N0.cut(β :N0)(D:Nat→Bool):N0:=fun d=>if D d then none else β d
theorem N0.cut_some{β :N0}{D:Nat→Bool}{d:Nat}{x:Nat×Nat}(h: β.cut D d=some x): β d=some x∧D d=false:=by
 unfold N0.cut at h
 cases hd:D d with
 |true=>rw [hd] at h;simp at h
 |false=>rw [hd] at h;exact ⟨by simpa using h,rfl⟩
theorem N0.cut_eq{β :N0}{D:Nat→Bool}{d:Nat}(h:D d=false): β.cut D d= β d:=by unfold N0.cut;rw [h];rfl
theorem B1.safe0{D:Nat→Bool}{p:PV}{v:Value}(hs:p.safe0 D=true)(h:B1 w M β B p v):B1 w M (β.cut D) B p v:=by
 cases h with
 |any v=>exact .any v
 |val v h=>exact .val v h
 |row p s hsv a c vs hc hsz ha hm hr=>
  cases p with
  |sl=>simp [PV.safe0] at hs
  |lst own x=>exact (B1.row (β := β) (B:=B) _ s hsv a c vs hc hsz ha hm hr).flat rfl
  |_=>cases hsv
 |loc d off b n h=>exact .loc d off b n (by rw [N0.cut_eq (by simpa [PV.safe0] using hs)];exact h)
 |el d sz i off b n h hi=>exact .el d sz i off b n (by rw [N0.cut_eq (by simpa [PV.safe0] using hs)];exact h) hi
 |vw cf d e sz n b c h hc=>exact .vw cf d e sz n b c (by rw [N0.cut_eq (by simpa [PV.safe0] using hs)];exact h) hc
 |mp d b n h=>exact .mp d b n (by rw [N0.cut_eq (by simpa [PV.safe0] using hs)];exact h)
 |_=>simp [PV.safe0] at hs
theorem B1.safeUp{s:PV→Bool}(hs:∀p v,s p=true→B1 w M β B p v→B1 w M β' B p v){p:PV}{v:Value}(h1:p.safeUp s=true)(h:B1 w M β B p v):B1 w M β' B p v:=by
 cases h with
 |agg l cs hl h1' hr=>exact .agg l cs hl h1' (fun i p v hp hv=>hs _ _ (Zl h1 i p hp) (hr i p v hp hv))
 |tup l cs hl hr=>exact .tup l cs hl (fun i p v hp hv=>hs _ _ (Zl h1 i p hp) (hr i p v hp hv))
 |clo f n l cs hl hr=>exact .clo f n l cs hl (fun i p v hp hv=>hs _ _ (Zl h1 i p hp) (hr i p v hp hv))
 |ref l ad vs hm hr=>exact .ref l ad vs hm (fun i p hp=>hs _ _ (Zl h1 i p hp) (hr i p hp))
 |row p sv hsv a c vs hc hsz ha hm hr=>
  cases p with
  |sl own e sz es=>
   injection hsv with hsv;subst hsv
   exact .row _ _ rfl a c vs hc hsz ha hm (fun i j q hi hq=>hs _ _ (Zl (Am9 h1 i) j q hq) (hr i j q hi hq))
  |lst own x=>exact (B1.row (β := β) (B:=B) _ sv hsv a c vs hc hsz ha hm hr).flat rfl
  |_=>cases hsv
 |any v=>exact .any v
 |val v h=>exact .val v h
 |loc d off b n h=>exact hs _ _ h1 (.loc d off b n h)
 |el d sz i off b n h hi=>exact hs _ _ h1 (.el d sz i off b n h hi)
 |vw cf d e sz n b c h hc=>exact hs _ _ h1 (.vw cf d e sz n b c h hc)
 |mp d b n h=>exact hs _ _ h1 (.mp d b n h)
theorem B1.clean{D:Nat→Bool}{p:PV}{v:Value}(h:B1 w M β B p v):B1 w M (β.cut D) B (p.clean D) v:=by
 unfold PV.clean
 cases hs:p.safe D with
 |false=>exact .any v
 |true=>
  refine B1.safeUp (s:=PV.safeUp (PV.safeUp (PV.safe0 D))) (fun p v h1 h=> ?_) hs h
  refine B1.safeUp (s:=PV.safeUp (PV.safe0 D)) (fun p v h1 h=> ?_) h1 h
  exact B1.safeUp (s:=PV.safe0 D) (fun p v h1 h=>h.safe0 h1) h1 h
theorem As4{D:Nat→Bool}{p:PV}{s:SV}(h:(p.clean D).sv=some s):p.sv=some s:=by
 unfold PV.clean at h
 split at h
 ·exact h
 ·cases h
end
def tb:Value→Option Nat
 | .slice (some a) _ c=>match c with
  |0=>none
  |_+1=>some a.block
 |_=>none
def Ac8(w:World)(M:Px)(B:Nat→Prop)(s:SV)(v:Value):Prop:=
 (∃a,v= .slice a 0 0∧s.n=0)∨
 ∃g c cur,v= .slice (some ⟨g,0,none⟩) s.n (c+1)∧¬B g∧M g=some (s.n*s.sz)∧w.heap[g]? =some (.cells cur s.e (0,0))∧s.n≤c+1∧c+1≤maxLen∧cur.size=(c+1)*s.sz
def Nj(es:Array MapEntry)(clock:Nat):Prop:=(∀(i j:Nat) (ei ej:MapEntry),es[i]? =some ei→es[j]? =some ej→ei.born=ej.born→i=j)∧∀(i:Nat) (e:MapEntry),es[i]? =some e→e.born < clock
theorem Nj.nil(clock:Nat):Nj #[] clock:=⟨fun i j ei ej h=>by simp at h,fun i e h=>by simp at h⟩
theorem Nj.push{es:Array MapEntry}{clock:Nat}(h:Nj es clock)(k v:Value):Nj (es.push { key:=k,val:=v,born:=clock }) (clock+1):=by
 have old:∀(i:Nat) (e:MapEntry),(es.push { key:=k,val:=v,born:=clock })[i]? =some e→(i=es.size∧e.born=clock)∨(es[i]? =some e∧e.born < clock):=fun i e he=>by
  rw [Array.getElem?_push] at he
  by_cases hi:i=es.size
  ·rw [if_pos hi] at he;injection he with he;subst he;exact .inl ⟨hi,rfl⟩
  ·rw [if_neg hi] at he;exact .inr ⟨he,h.2 i e he⟩
 refine ⟨fun i j ei ej hi hj hb=> ?_,fun i e he=> ?_⟩
 ·rcases old i ei hi with ⟨a1,a2⟩|⟨a1,a2⟩<;>rcases old j ej hj with ⟨b1,b2⟩|⟨b1,b2⟩
  ·omega
  ·omega
  ·omega
  ·exact h.1 i j ei ej a1 b1 hb
 ·rcases old i e he with ⟨_,a2⟩|⟨_,a2⟩<;>omega
theorem Nj.modify{es:Array MapEntry}{clock:Nat}(h:Nj es clock)(n:Nat)(k v:Value):Nj (es.modify n fun e=> { e with key:=k,val:=v }) clock:=by
 have old:∀(i:Nat) (e:MapEntry),(es.modify n fun e=> { e with key:=k,val:=v })[i]? =some e→∃e0,es[i]? =some e0∧e0.born=e.born:=fun i e he=>by
  rw [Array.getElem?_modify] at he
  split at he
  ·cases h0:es[i]? with
   |none=>rw [h0] at he;cases he
   |some e0=>rw [h0] at he;injection he with he;subst he;exact ⟨e0,rfl,rfl⟩
  ·exact ⟨e,he,rfl⟩
 refine ⟨fun i j ei ej hi hj hb=> ?_,fun i e he=> ?_⟩
 ·obtain ⟨e1,a1,a2⟩:=old i ei hi
  obtain ⟨e2,b1,b2⟩:=old j ej hj
  exact h.1 i j e1 e2 a1 b1 (by omega)
 ·obtain ⟨e1,a1,a2⟩:=old i e he
  have:=h.2 i e1 a1
  omega
theorem Aib(es:Array MapEntry)(n:Nat)(hn:n < es.size)(i:Nat):(es.eraseIdxIfInBounds n)[i]? =es[if i < n then i else i+1]? :=by
 unfold Array.eraseIdxIfInBounds
 rw [dif_pos hn,Array.getElem?_eraseIdx]
 split<;>rfl
theorem Nj.erase{es:Array MapEntry}{clock:Nat}(h:Nj es clock)(n:Nat)(hn:n < es.size):Nj (es.eraseIdxIfInBounds n) clock:=by
 refine ⟨fun i j ei ej hi hj hb=> ?_,fun i e he=> ?_⟩
 ·rw [Aib es n hn] at hi hj
  have:=h.1 _ _ ei ej hi hj hb
  split at this<;>split at this<;>omega
 ·rw [Aib es n hn] at he
  exact h.2 _ e he
inductive Ky (w:World) (M:Px) (β :N0) (B:Nat→Prop) (b n:Nat):List PV→Prop
 |cells (l:List PV) (cs:Array Value) (t:Nat) (hh:w.heap[b]? =some (.cells cs t (0,0))) (hs:l.length≤cs.size)
   (hr:∀(i:Nat) (p:PV) (v:Value),l[i]? =some p→cs[i]? =some v→B1 w M β B p v∧v.oneCell'=true):Ky w M β B b n l
 |arr (x:LX) (cs:Array Value) (t:Nat) (hh:w.heap[b]? =some (.cells cs t (0,0))) (hn:x.len=n) (hs:n*x.sz≤cs.size)
   (hr:∀(i j:Nat) (p:PV) (v:Value),i < n→(x.row i)[j]? =some p→cs[i*x.sz+j]? =some v→B1 w M β B p v∧v.oneCell'=true):Ky w M β B b n [.arrO x]
 |map (gk gv:Bool) (ks vs:LX) (es:Array MapEntry) (clock:Nat) (hh:w.heap[b]? =some (.map es clock)) (hk:es.size=ks.len) (hv:vs.len=ks.len)
   (hr:∀(i:Nat) (e:MapEntry),es[i]? =some e→B1 w M β B (X6 gk (ks.row i)) e.key∧B1 w M β B (X6 gv (vs.row i)) e.val) (hbn:Nj es clock):Ky w M β B b n [.mapO gk gv ks vs]
 |mapE (gk gv:Bool) (ks vs:LX) (es:Array MapEntry) (clock:Nat) (hh:w.heap[b]? =some (.map es clock)) (hk:es.size=ks.len) (hv:vs.len=ks.len)
   (hr:∀(i:Nat) (e:MapEntry),es[i]? =some e→B1 w M β B (X6 gk (ks.row i)) e.key∧B1 w M β B (X6 gv (vs.row i)) e.val) (hbn:Nj es clock):Ky w M β B b n [.mapE es clock gk gv ks vs]
inductive R7 (κ :Type) where
 |slot (k: κ)
 |cell (d i:Nat)
def X5{κ :Type}(H: κ→PV×Value)(O:Nat→List PV)(w:World)(β :N0):R7 κ→SV→Value→Prop
 | .slot k,s,v=>(H k).1.sv=some s∧s.own=true∧(H k).2=v
 | .cell d i,s,v=>∃b n p,β d=some (b,n)∧(O d)[i]? =some p∧p.sv=some s∧s.own=true∧w.cell? ⟨b,i,none⟩=some v
theorem Bel.lt{B:E9}{w:World}(h:Bel B w){b:Nat}(hb:B.old b):b < w.heap.size:=Nat.lt_of_lt_of_le (B.lt b hb) h.size
theorem Bel.new{B:E9}{w:World}(h:Bel B w):¬B.old w.heap.size:=fun hb=>Nat.lt_irrefl _ (h.lt hb)
structure Kp (B:E9) (w w':World):Prop where
 os:w'.os=w.os
 tape:w'.tape=w.tape
 output:w'.output=w.output
 size:w.heap.size≤w'.heap.size
 block:∀k,B.old k→w'.heap[k]? =w.heap[k]?
theorem Bel.trans{B:E9}{w w':World}(h:Bel B w)(k:Kp B w w'):Bel B w':=
 ⟨k.os.trans h.os,k.tape.trans h.tape,k.output.trans h.output,Nat.le_trans h.size k.size,fun i hi=>(k.block i hi).trans (h.block i hi)⟩
theorem Kp.of{B:E9}{w w':World}(h:Bel B w)(hb:Below w.heap.size w w'):Kp B w w':=⟨hb.os,hb.tape,hb.output,hb.size,fun k hk=>hb.block k (h.lt hk)⟩
def E9.all(w:World):E9:=⟨w,fun b=>b < w.heap.size,fun _ h=>h⟩
theorem Bel.below{w w':World}(h:Bel (E9.all w) w'):Below w.heap.size w w':=⟨h.os,h.tape,h.output,h.size,h.block⟩
theorem Bel.of(w:World)(B:E9)(hB:B.w=w):Bel B w:=by subst hB;exact ⟨rfl,rfl,rfl,Nat.le_refl _,fun _ _=>rfl⟩
theorem Bel.later{B:E9}{w w':World}(h:Bel B w)(hb:Below w.heap.size w w'):Bel B w':=
 ⟨hb.os.trans h.os,hb.tape.trans h.tape,hb.output.trans h.output,Nat.le_trans h.size hb.size,fun k hk=>(hb.block k (Nat.lt_of_lt_of_le (B.lt k hk) h.size)).trans (h.block k hk)⟩
theorem Bel.alloc{B:E9}{w:World}(h:Bel B w)(o:Obj):Bel B (w.alloc o):=h.later ((Below.refl _ w).alloc (Nat.le_refl _) o)
def Agb(N:Px)(B:E9):Prop:=∃M0:Px,(∀a:Addr,imm M0 a→B.old a.block∧imm N a)∧
 (∀g x,Amg GL g=some x→B.old g∧∃v,B.w.cell? ⟨g,0,none⟩=some v∧B1 B.w M0 (fun _=>none) (fun _=>False) (.lst false x) v)∧
 ∀g vs,(g,vs)∈GA→B.old g∧∃t f,B.w.heap[g]? =some (.cells vs.toArray t f)
structure MN (B:E9) (N M:Px):Prop where
 eq:∀b,B.old b→M b=N b
 gl:Agb N B
instance {B:E9} {N M:Px} :CoeFun (MN B N M) (fun _=>∀b,B.old b→M b=N b):=⟨fun h=>h.eq⟩
theorem Bel.cell{B:E9}{w:World}(h:Bel B w){a:Addr}(ha:B.old a.block):w.cell? a=B.w.cell? a:=by
 unfold World.cell?
 rw [h.block _ ha]
theorem Agb.here{B:E9}{N M:Px}{w:World}(h:Agb N B)(hb:Bel B w)(hM:∀b,B.old b→M b=N b)(β :N0)(old:Nat→Prop){g:Nat}{x:LX}(hg:Amg GL g=some x):
  B.old g∧∃v,w.cell? ⟨g,0,none⟩=some v∧B1 w M β old (.lst false x) v:=by
 obtain ⟨M0,h1,h2,_⟩:=h
 obtain ⟨q1,v,q2,q3⟩:=h2 g x hg
 refine ⟨q1,v,by rw [hb.cell q1];exact q2,?_⟩
 exact B1.flat (B1.ext (β':=fun _=>none) (fun a u hi hc=>⟨fun n hn=>(h1 a hi).2 n (by rw [←hM _ (h1 a hi).1];exact hn),by rw [hb.cell (h1 a hi).1];exact hc⟩) (fun a ha=>ha.elim) (fun _ _ e=>e) q3) rfl
theorem Agb.to{B:E9}{N M:Px}{w:World}(h:Agb N B)(hb:Bel B w)(hM:∀b,B.old b→M b=N b)(B':E9)(hw:B'.w=w)(ho:∀b,B.old b→B'.old b):Agb M B':=by
 subst hw
 obtain ⟨M0,h1,h2,h3⟩:=h
 refine ⟨M0,fun a hi=>⟨ho _ (h1 a hi).1,fun n hn=>(h1 a hi).2 n (by rw [←hM _ (h1 a hi).1];exact hn)⟩,fun g x hg=> ?_,fun g vs hg=>⟨ho _ (h3 g vs hg).1,let ⟨t,f,hv⟩:=(h3 g vs hg).2;⟨t,f,(hb.block _ (h3 g vs hg).1).trans hv⟩⟩⟩
 obtain ⟨q1,v,q2,q3⟩:=h2 g x hg
 exact ⟨ho _ q1,v,(hb.cell q1).trans q2,B1.ext (fun a u hi hc=>⟨hi,by rw [←hc];exact hb.cell (h1 a hi).1⟩) (fun a ha=>ha.elim) (fun _ _ e=>e) q3⟩
theorem Agb.arr{B:E9}{N M:Px}{w:World}(h:Agb N B)(hb:Bel B w){g:Nat}{vs:List Value}(hg:(g,vs)∈GA):B.old g∧∃t f,w.heap[g]? =some (.cells vs.toArray t f):=by
 obtain ⟨M0,h1,h2,h3⟩:=h
 exact ⟨(h3 g vs hg).1,let ⟨t,f,hv⟩:=(h3 g vs hg).2;⟨t,f,(hb.block _ (h3 g vs hg).1).trans hv⟩⟩
theorem Agb.all{B:E9}{N M:Px}{w:World}(h:Agb N B)(hb:Bel B w)(hM:∀b,B.old b→M b=N b):Agb M (E9.all w):=h.to hb hM _ rfl fun _ ho=>hb.lt ho
structure SH {κ :Type} (H: κ→PV×Value) (w0:E9) (N:Px) (O:Nat→List PV) (D:Nat→Bool) (w:World) (M:Px) (β :N0):Prop where
 bel:Bel w0 w
 mN:MN w0 N M
 mlt:∀b n,M b=some n→b < w.heap.size
 box:∀d b n,β d=some (b,n)→¬w0.old b∧M b=some 0∧Ky w M β w0.old b n (O d)
 inj:∀d d' b n n',β d=some (b,n)→β d'=some (b,n')→d=d'
 dom:∀d,D d=true→β d=none
 reg:∀k,B1 w M β w0.old (H k).1 (H k).2
 tok:∀key s v,X5 H O w β key s v→Ac8 w M w0.old s v
 tokne:∀key key' s s' v v' g,X5 H O w β key s v→X5 H O w β key' s' v'→key≠key'→tb v=some g→tb v'≠some g
 tokbox:∀key s v g d n,X5 H O w β key s v→tb v=some g→β d≠some (g,n)
section
variable {κ κ':Type} {H: κ→PV×Value} {H': κ'→PV×Value} {w0:E9} {w w':World} {N M M':Px} {O O':Nat→List PV} {D D':Nat→Bool} {β β':N0}
theorem SH.perm(h:SH H w0 N O D w M β)(hr:∀k,B1 w M β w0.old (H' k).1 (H' k).2)(hbox:∀d b n,β d=some (b,n)→Ky w M β w0.old b n (O' d))(hD:∀d,D' d=true→β d=none)
  (φ :R7 κ'→Option (R7 κ)) (hφ :∀key s v,X5 H' O' w β key s v→∃key',φ key=some key'∧X5 H O w β key' s v)
  (hinj:∀k k' j,φ k=some j→φ k'=some j→k=k'):SH H' w0 N O' D' w M β :=by
 refine ⟨h.bel,h.mN,h.mlt,fun d b n hd=>⟨(h.box d b n hd).1,(h.box d b n hd).2.1,hbox d b n hd⟩,h.inj,hD,hr,?_,?_,?_⟩
 ·intro key s v ho
  obtain ⟨k',_,h2⟩:=hφ key s v ho
  exact h.tok k' s v h2
 ·intro key key' s s' v v' g ho ho' hne hg
  obtain ⟨j,h1,h2⟩:=hφ key s v ho
  obtain ⟨j',h1',h2'⟩:=hφ key' s' v' ho'
  refine h.tokne j j' s s' v v' g h2 h2' (fun e=>hne (hinj _ _ j h1 (by rw [e];exact h1'))) hg
 ·intro key s v g d n ho hg
  obtain ⟨j,h1,h2⟩:=hφ key s v ho
  exact h.tokbox j s v g d n h2 hg
theorem SH.hold(h:SH H w0 N O D w M β)(hr:∀k,B1 w M β w0.old (H' k).1 (H' k).2)(g: κ'→Option κ)
  (hg:∀k s,(H' k).1.sv=some s→s.own=true→∃j,g k=some j∧(H j).1.sv=some s∧(H j).2=(H' k).2) (hinj:∀k k' j,g k=some j→g k'=some j→k=k'):SH H' w0 N O D w M β :=by
 refine h.perm hr (fun d b n hd=>(h.box d b n hd).2.2) h.dom (fun key=>match key with| .slot k=>(g k).map .slot| .cell d i=>some (.cell d i)) ?_ ?_
 ·intro key s v ho
  cases key with
  |slot k=>
   obtain ⟨h1,h2,h3⟩:=ho
   obtain ⟨j,q1,q2,q3⟩:=hg k s h1 h2
   exact ⟨.slot j,by simp [q1],q2,h2,by rw [q3];exact h3⟩
  |cell d i=>exact ⟨.cell d i,rfl,ho⟩
 ·intro k k' j hk hk'
  cases k with
  |slot k=>
   cases k' with
   |slot k'=>
    simp only [Option.map_eq_some_iff] at hk hk'
    obtain ⟨a,ha,rfl⟩:=hk
    obtain ⟨a',ha',e⟩:=hk'
    injection e with e;subst e
    rw [hinj k k' _ ha ha']
   |cell d i=>
    simp only [Option.map_eq_some_iff] at hk hk'
    obtain ⟨a,ha,rfl⟩:=hk
    cases hk'
  |cell d i=>
   cases k' with
   |slot k'=>
    simp only [Option.map_eq_some_iff] at hk hk'
    obtain ⟨a,ha,rfl⟩:=hk'
    cases hk
   |cell d' i'=>injection hk with hk;injection hk' with hk';have e:=hk.trans hk'.symm;injection e with e1 e2;rw [e1,e2]
def Mt(x:PV×Value)(H: κ→PV×Value):Option κ→PV×Value
 |none=>x
 |some k=>H k
theorem SH.cons(h:SH H w0 N O D w M β)(p:PV)(v:Value)(hr:B1 w M β w0.old p v)
  (ht:∀s,p.sv=some s→s.own=true→Ac8 w M w0.old s v∧(∀key s' v' g,X5 H O w β key s' v'→tb v=some g→tb v'≠some g)∧(∀g d n,tb v=some g→β d≠some (g,n))):
  SH (Mt (p,v) H) w0 N O D w M β :=by
 have old:∀(key:R7 (Option κ)) s u,X5 (Mt (p,v) H) O w β key s u→(key= .slot none∧p.sv=some s∧s.own=true∧v=u)∨∃key':R7 κ,X5 H O w β key' s u∧(∀key2:R7 (Option κ),X5 (Mt (p,v) H) O w β key2 s u→True)∧
   (match key' with| .slot k=>key= .slot (some k)| .cell d i=>key= .cell d i):=by
  intro key s u ho
  cases key with
  |slot k=>
   cases k with
   |none=>exact .inl ⟨rfl,ho.1,ho.2.1,ho.2.2⟩
   |some k=>exact .inr ⟨.slot k,ho,fun _ _=>trivial,rfl⟩
  |cell d i=>exact .inr ⟨.cell d i,ho,fun _ _=>trivial,rfl⟩
 refine ⟨h.bel,h.mN,h.mlt,h.box,h.inj,h.dom,?_,?_,?_,?_⟩
 ·intro k
  cases k with
  |none=>exact hr
  |some k=>exact h.reg k
 ·intro key s u ho
  rcases old key s u ho with ⟨_,h1,h2,rfl⟩|⟨k',h1,_⟩
  ·exact (ht s h1 h2).1
  ·exact h.tok k' s u h1
 ·intro key key' s s' u u' g ho ho' hne hg
  rcases old key s u ho with ⟨e1,h1,h2,rfl⟩|⟨k1,h1,_,e1⟩
  ·rcases old key' s' u' ho' with ⟨e2,_⟩|⟨k2,h2',_,e2⟩
   ·exact absurd (e1.trans e2.symm) hne
   ·exact (ht s h1 h2).2.1 k2 s' u' g h2' hg
  ·rcases old key' s' u' ho' with ⟨e2,h3,h4,rfl⟩|⟨k2,h2',_,e2⟩
   ·exact fun hv=>(ht s' h3 h4).2.1 k1 s u g h1 hv hg
   ·refine h.tokne k1 k2 s s' u u' g h1 h2' (fun e=>hne ?_) hg
    subst e
    cases k1<;>exact e1.trans e2.symm
 ·intro key s u g d n ho hg
  rcases old key s u ho with ⟨_,h1,h2,rfl⟩|⟨k',h1,_⟩
  ·exact (ht s h1 h2).2.2 g d n hg
  ·exact h.tokbox k' s u g d n h1 hg
theorem l5{w:World}{x:Addr}{v:Value}(hx:w.cell? x=some v):x.block < w.heap.size:=by
 unfold World.cell? at hx
 rcases Nat.lt_or_ge x.block w.heap.size with h1|h1
 ·exact h1
 ·rw [Array.getElem?_eq_none h1] at hx;simp at hx
theorem Ky.ext{B B':Nat→Prop}{b n:Nat}{l:List PV}(h:Ky w M β B b n l)(hh:w'.heap[b]? =w.heap[b]?)(hR:∀p v,B1 w M β B p v→B1 w' M' β' B' p v):Ky w' M' β' B' b n l:=by
 cases h with
 |cells l cs t q1 q2 q3=>exact .cells l cs t (by rw [hh];exact q1) q2 (fun i p v hp hv=>⟨hR _ _ (q3 i p v hp hv).1,(q3 i p v hp hv).2⟩)
 |arr x cs t q1 q2 q3 q4=>exact .arr x cs t (by rw [hh];exact q1) q2 q3 (fun i j p v hi hp hv=>⟨hR _ _ (q4 i j p v hi hp hv).1,(q4 i j p v hi hp hv).2⟩)
 |map gk gv ks vs es clock q1 q2 q3 q4 q5=>exact .map gk gv ks vs es clock (by rw [hh];exact q1) q2 q3 (fun i e he=>⟨hR _ _ (q4 i e he).1,hR _ _ (q4 i e he).2⟩) q5
 |mapE gk gv ks vs es clock q1 q2 q3 q4 q5=>exact .mapE gk gv ks vs es clock (by rw [hh];exact q1) q2 q3 (fun i e he=>⟨hR _ _ (q4 i e he).1,hR _ _ (q4 i e he).2⟩) q5
theorem Ac8.ext{B:Nat→Prop}{s:SV}{v:Value}(h:Ac8 w M B s v)(hh:∀g,tb v=some g→w'.heap[g]? =w.heap[g]? ∧M' g=M g):Ac8 w' M' B s v:=by
 rcases h with h|⟨g,c,cur,h1,h2,h3,h4,h5⟩
 ·exact .inl h
 ·have:=hh g (by rw [h1];rfl)
  exact .inr ⟨g,c,cur,h1,h2,by rw [this.2];exact h3,by rw [this.1];exact h4,h5⟩
theorem Ac8.lt{B:Nat→Prop}{s:SV}{v:Value}(h:Ac8 w M B s v){g:Nat}(hg:tb v=some g):¬B g∧∃k,M g=some k:=by
 rcases h with ⟨a,h,_⟩|⟨g',c,cur,h1,h2,h3,_⟩
 ·rw [h] at hg
  cases a<;>cases hg
 ·rw [h1] at hg
  have:g'=g:=by simpa [tb] using hg
  subst this
  exact ⟨h2,_,h3⟩
theorem SH.world(h:SH H w0 N O D w M β)(hb:Below w.heap.size w w'):SH H w0 N O D w' M β :=by
 have hc:∀(x:Addr) v,w.cell? x=some v→w'.cell? x=some v:=fun x v hv=>by rw [hb.cell (l5 hv)];exact hv
 have hE:Ext w M w' M:=fun x v hi hv=>⟨hi,hc x v hv⟩
 have hle:w0.w.heap.size≤w.heap.size:=h.bel.size
 have hR:∀p v,B1 w M β w0.old p v→B1 w' M β w0.old p v:=fun p v hr=>hr.ext hE (fun x hx=>hb.cell (Nat.lt_of_lt_of_le (w0.lt _ hx) hle)) (fun _ _ h=>h)
 have hO:∀key s v,X5 H O w' β key s v→X5 H O w β key s v:=by
  intro key s v ho
  cases key with
  |slot k=>exact ho
  |cell d i=>
   obtain ⟨b,n,p,h1,h2,h3,h4,h5⟩:=ho
   have hbl:=h.mlt b 0 (h.box d b n h1).2.1
   exact ⟨b,n,p,h1,h2,h3,h4,by rw [←hb.cell (p:=⟨b,i,none⟩) hbl];exact h5⟩
 refine ⟨h.bel.later hb,h.mN,fun b n hn=>Nat.lt_of_lt_of_le (h.mlt b n hn) hb.size,?_,h.inj,h.dom,fun k=>hR _ _ (h.reg k),?_,?_,?_⟩
 ·intro d b n hd
  obtain ⟨h1,h2,h3⟩:=h.box d b n hd
  exact ⟨h1,h2,h3.ext (hb.block b (h.mlt b 0 h2)) hR⟩
 ·intro key s v ho
  have ht:=h.tok key s v (hO _ _ _ ho)
  exact ht.ext (fun g hg=>⟨hb.block g (let ⟨_,k,hk⟩:=ht.lt hg;h.mlt g k hk),rfl⟩)
 ·intro key key' s s' v v' g ho ho';exact h.tokne key key' s s' v v' g (hO _ _ _ ho) (hO _ _ _ ho')
 ·intro key s v g d n ho;exact h.tokbox key s v g d n (hO _ _ _ ho)
theorem SH.drawn(h:SH H w0 N O D w M β):SH H w0 N O D { w with drawn:=w.drawn+1 } M β :=
 h.world ⟨rfl,rfl,rfl,Nat.le_refl _,fun _ _=>rfl⟩
end
end Go.Proofs.YthjhkpgonleelaaGreatDoor.Ev
namespace Go.Proofs.YthjhkpgonleelaaGreatDoor.Ev
open Go Go.RowKit
set_option linter.unusedVariables false
set_option linter.unusedSimpArgs false
set_option linter.unnecessarySimpa false
section
variable {κ κ':Type} {H: κ→PV×Value} {H': κ'→PV×Value} {w0:E9} {w w':World} {N M M':Px} {O O':Nat→List PV} {D D':Nat→Bool} {β β':N0}
theorem Ade(w:World)(o:Obj){x:Addr}{v:Value}(h:w.cell? x=some v):(w.alloc o).cell? x=some v:=by
 rw [World.cell?_of_block (w:=w) (Below.heap_alloc w o x.block (l5 h))];exact h
theorem SH.alloc(h:SH H w0 N O D w M β)(d n:Nat)(l:List PV)(o:Obj)(hnew:D d=true)
  (hO1:O' d=l) (hO2:∀x,x≠d→O' x=O x) (hD:∀x,D' x=true→D x=true∧x≠d)
  (hown:∀(i:Nat) (p:PV) (s:SV),l[i]? =some p→p.sv=some s→s.own=true→∀v,(w.alloc o).cell? ⟨w.heap.size,i,none⟩=some v→s.n=0∧∃a,v= .slice a 0 0)
  (hobj:∀(M':Px) (β':N0),(∀p v,B1 w M β w0.old p v→B1 (w.alloc o) M' β' w0.old p v)→β' d=some (w.heap.size,n)→Ky (w.alloc o) M' β' w0.old w.heap.size n l):
  ∃M' β',SH H w0 N O' D' (w.alloc o) M' β'∧β' d=some (w.heap.size,n)∧(∀p v,B1 w M β w0.old p v→B1 (w.alloc o) M' β' w0.old p v):=by
 have hβ : β d=none:=h.dom d hnew
 let M':Px:=fun b=>if b=w.heap.size then some 0 else M b
 let β':N0:=fun x=>if x=d then some (w.heap.size,n) else β x
 have hMw:M w.heap.size=none:=by
  cases hm:M w.heap.size with
  |none=>rfl
  |some n=>exact absurd (h.mlt _ _ hm) (by omega)
 have hE:Ext w M (w.alloc o) M':=fun x v hi hc=>by
  have hx:=l5 hc
  refine ⟨fun n hn=>hi n ?_,Ade w _ hc⟩
  simp only [M'] at hn
  rw [if_neg (by omega)] at hn
  exact hn
 have hle:w0.w.heap.size≤w.heap.size:=h.bel.size
 have hβb:∀x b n,β x=some (b,n)→b < w.heap.size:=fun x b n hb=>h.mlt b 0 (h.box x b n hb).2.1
 have hmono:∀x y,β x=some y→β' x=some y:=fun x y hb=>by
  simp only [β']
  by_cases e:x=d
  ·subst e;rw [hβ] at hb;cases hb
  ·rw [if_neg e];exact hb
 have hB:∀x:Addr,w0.old x.block→(w.alloc o).cell? x=w.cell? x:=fun x hx=>
  World.cell?_of_block (w:=w) (Below.heap_alloc w _ x.block (h.bel.lt hx))
 have hR:∀p v,B1 w M β w0.old p v→B1 (w.alloc o) M' β' w0.old p v:=fun p v hr=>hr.ext hE hB hmono
 have hd: β' d=some (w.heap.size,n):=by simp [β']
 have hOwn:∀key s v,X5 H O' (w.alloc o) β' key s v→X5 H O w β key s v∨((∃a,v= .slice a 0 0)∧s.n=0):=by
  intro key s v ho
  cases key with
  |slot k=>exact .inl ho
  |cell x i=>
   obtain ⟨b,m,p,h1,h2,h3,h4,h5⟩:=ho
   simp only [β'] at h1
   by_cases e:x=d
   ·subst e
    rw [if_pos rfl] at h1
    injection h1 with h1
    injection h1 with h1 _
    subst h1
    rw [hO1] at h2
    have:=hown i p s h2 h3 h4 v h5
    exact .inr ⟨this.2,this.1⟩
   ·rw [if_neg e] at h1
    have hbl:=hβb x b m h1
    refine .inl ⟨b,m,p,h1,by rw [←hO2 x e];exact h2,h3,h4,?_⟩
    rw [←World.cell?_of_block (w:=w) (a:=⟨b,i,none⟩) (Below.heap_alloc w o b hbl)];exact h5
 have tb0:∀v g,(∃a,v= .slice a 0 0)→tb v=some g→False:=by
  rintro v g ⟨a,rfl⟩ hg
  cases a<;>cases hg
 refine ⟨M',β',⟨h.bel.alloc _,?_,?_,?_,?_,?_,fun k=>hR _ _ (h.reg k),?_,?_,?_⟩,hd,hR⟩
 ·refine ⟨fun b hb=> ?_,h.mN.gl⟩
  simp only [M']
  rw [if_neg (by have:=h.bel.lt hb;omega)]
  exact h.mN b hb
 ·intro b n hn
  simp only [M'] at hn
  by_cases e:b=w.heap.size
  ·subst e;simp
  ·rw [if_neg e] at hn;have:=h.mlt b n hn;simp;omega
 ·intro x b m hb
  by_cases e:x=d
  ·subst e
   rw [hd] at hb
   injection hb with hb
   injection hb with hb hb2
   subst hb;subst hb2
   exact ⟨h.bel.new,by simp [M'],by rw [hO1];exact hobj M' β' hR hd⟩
  ·simp only [β'] at hb
   rw [if_neg e] at hb
   obtain ⟨h1,h2,h3⟩:=h.box x b m hb
   have hbl:=h.mlt b 0 h2
   exact ⟨h1,by simp only [M'];rw [if_neg (by omega)];exact h2,by rw [hO2 x e];exact h3.ext (Below.heap_alloc w _ b hbl) hR⟩
 ·intro x y b m m' hx hy
  simp only [β'] at hx hy
  by_cases e1:x=d<;>by_cases e2:y=d
  ·rw [e1,e2]
  ·rw [if_pos e1] at hx;rw [if_neg e2] at hy
   injection hx with hx;injection hx with hx _
   have:=hβb y b m' hy
   omega
  ·rw [if_neg e1] at hx;rw [if_pos e2] at hy
   injection hy with hy;injection hy with hy _
   have:=hβb x b m hx
   omega
  ·rw [if_neg e1] at hx;rw [if_neg e2] at hy
   exact h.inj x y b m m' hx hy
 ·intro x hx
  obtain ⟨h1,h2⟩:=hD x hx
  simp only [β']
  rw [if_neg h2]
  exact h.dom x h1
 ·intro key s v ho
  rcases hOwn key s v ho with ho|⟨⟨a,ha⟩,hn⟩
  ·have ht:=h.tok key s v ho
   refine ht.ext (fun g hg=> ?_)
   obtain ⟨_,k,hk⟩:=ht.lt hg
   have hgl:=h.mlt g k hk
   exact ⟨Below.heap_alloc w _ g hgl,by simp only [M'];rw [if_neg (by omega)]⟩
  ·exact .inl ⟨a,ha,hn⟩
 ·intro key key' s s' v v' g ho ho' hne hg
  rcases hOwn key s v ho with ho|⟨ha,_⟩
  ·rcases hOwn key' s' v' ho' with ho'|⟨ha,_⟩
   ·exact h.tokne key key' s s' v v' g ho ho' hne hg
   ·exact fun hg'=>tb0 _ _ ha hg'
  ·exact (tb0 _ _ ha hg).elim
 ·intro key s v g x m ho hg
  rcases hOwn key s v ho with ho|⟨ha,_⟩
  ·simp only [β']
   by_cases e:x=d
   ·rw [if_pos e]
    intro e3
    injection e3 with e3
    injection e3 with e3 _
    obtain ⟨_,k,hk⟩:=(h.tok key s v ho).lt hg
    have:=h.mlt g k hk
    omega
   ·rw [if_neg e]
    exact h.tokbox key s v g x m ho hg
  ·exact (tb0 _ _ ha hg).elim
theorem SH.adopt(h:SH H w0 N O D w M β)(d g n:Nat)(l:List PV)(hnew:D d=true)(hgB:¬w0.old g)(hM:M g=some 0)(hbx:∀x n,β x≠some (g,n))
  (hno:∀key s v,X5 H O w β key s v→tb v≠some g) (hO1:O' d=l) (hO2:∀x,x≠d→O' x=O x) (hD:∀x,D' x=true→D x=true∧x≠d)
  (hown:∀(i:Nat) (p:PV) (s:SV),l[i]? =some p→p.sv=some s→s.own=true→False)
  (hobj:∀(β':N0),(∀p v,B1 w M β w0.old p v→B1 w M β' w0.old p v)→β' d=some (g,n)→Ky w M β' w0.old g n l):
  ∃β',SH H w0 N O' D' w M β'∧β' d=some (g,n):=by
 have hβ : β d=none:=h.dom d hnew
 let β':N0:=fun x=>if x=d then some (g,n) else β x
 have hmono:∀x y,β x=some y→β' x=some y:=fun x y hb=>by
  simp only [β']
  by_cases e:x=d
  ·subst e;rw [hβ] at hb;cases hb
  ·rw [if_neg e];exact hb
 have hR:∀p v,B1 w M β w0.old p v→B1 w M β' w0.old p v:=fun p v hr=>hr.ext (Ext.refl w M) (fun _ _=>rfl) hmono
 have hd: β' d=some (g,n):=by simp [β']
 have hOwn:∀key s v,X5 H O' w β' key s v→X5 H O w β key s v:=by
  intro key s v ho
  cases key with
  |slot k=>exact ho
  |cell x i=>
   obtain ⟨b,m,p,h1,h2,h3,h4,h5⟩:=ho
   simp only [β'] at h1
   by_cases e:x=d
   ·subst e
    rw [hO1] at h2
    exact (hown i p s h2 h3 h4).elim
   ·rw [if_neg e] at h1
    exact ⟨b,m,p,h1,by rw [←hO2 x e];exact h2,h3,h4,h5⟩
 refine ⟨β',⟨h.bel,h.mN,h.mlt,?_,?_,?_,fun k=>hR _ _ (h.reg k),fun key s v ho=>h.tok key s v (hOwn _ _ _ ho),fun key key' s s' v v' g ho ho'=>h.tokne key key' s s' v v' g (hOwn _ _ _ ho) (hOwn _ _ _ ho'),?_⟩,hd⟩
 ·intro x b m hb
  by_cases e:x=d
  ·subst e
   rw [hd] at hb
   injection hb with hb
   injection hb with hb hb2
   subst hb;subst hb2
   exact ⟨hgB,hM,by rw [hO1];exact hobj β' hR hd⟩
  ·simp only [β'] at hb
   rw [if_neg e] at hb
   obtain ⟨h1,h2,h3⟩:=h.box x b m hb
   exact ⟨h1,h2,by rw [hO2 x e];exact h3.ext rfl hR⟩
 ·intro x y b m m' hx hy
  simp only [β'] at hx hy
  by_cases e1:x=d<;>by_cases e2:y=d
  ·rw [e1,e2]
  ·rw [if_pos e1] at hx;rw [if_neg e2] at hy
   injection hx with hx;injection hx with hx _
   subst hx
   exact absurd hy (hbx y m')
  ·rw [if_neg e1] at hx;rw [if_pos e2] at hy
   injection hy with hy;injection hy with hy _
   subst hy
   exact absurd hx (hbx x m)
  ·rw [if_neg e1] at hx;rw [if_neg e2] at hy
   exact h.inj x y b m m' hx hy
 ·intro x hx
  obtain ⟨h1,h2⟩:=hD x hx
  simp only [β']
  rw [if_neg h2]
  exact h.dom x h1
 ·intro key s v b x m ho hg
  have ho':=hOwn key s v ho
  simp only [β']
  by_cases e:x=d
  ·rw [if_pos e]
   intro e3
   injection e3 with e3
   injection e3 with e3 _
   subst e3
   exact hno key s v ho' hg
  ·rw [if_neg e]
   exact h.tokbox key s v b x m ho' hg
theorem SH.setObj(h:SH H w0 N O D w M β)(d b n:Nat)(hβ : β d=some (b,n))(l:List PV)(hO1:O' d=l)(hO2:∀x,x≠d→O' x=O x)
  (hoth:∀k,k≠b→w'.heap[k]? =w.heap[k]?) (hsz:w'.heap.size=w.heap.size) (hdl:Kp w0 w w')
  (hobj:(∀p v,B1 w M β w0.old p v→B1 w' M β w0.old p v)→Ky w' M β w0.old b n l)
  (hown:∀(i:Nat) (p:PV) (s:SV) (v:Value),l[i]? =some p→p.sv=some s→s.own=true→w'.cell? ⟨b,i,none⟩=some v→((∃q,(O d)[i]? =some q∧q.sv=some s)∧w.cell? ⟨b,i,none⟩=some v)∨(s.n=0∧∃a,v= .slice a 0 0)):
  SH H w0 N O' D w' M β∧(∀p v,B1 w M β w0.old p v→B1 w' M β w0.old p v):=by
 obtain ⟨hb1,hb2,hb3⟩:=h.box d b n hβ
 have hbw:b < w.heap.size:=h.mlt b 0 hb2
 have hE:Ext w M w' M:=fun x v hi hc=>by
  have hx:x.block≠b:=fun e=>by have:=hi 0 (by rw [e];exact hb2);omega
  exact ⟨hi,by rw [World.cell?_of_block (w:=w) (hoth _ hx)];exact hc⟩
 have hR:∀p v,B1 w M β w0.old p v→B1 w' M β w0.old p v:=fun p v hr=>hr.ext hE (fun x hx=>World.cell?_of_block (w:=w) (hoth _ (fun e=>hb1 (by rw [←e];exact hx)))) (fun _ _ h=>h)
 have tb0:∀v g,(∃a,v= .slice a 0 0)→tb v=some g→False:=by
  rintro v g ⟨a,rfl⟩ hg
  cases a<;>cases hg
 have hOwn:∀key s v,X5 H O' w' β key s v→X5 H O w β key s v∨(s.n=0∧∃a,v= .slice a 0 0):=by
  intro key s v ho
  cases key with
  |slot k=>exact .inl ho
  |cell x i=>
   obtain ⟨b',m,p,h1,h2,h3,h4,h5⟩:=ho
   by_cases e:x=d
   ·subst e
    rw [hβ] at h1
    injection h1 with h1
    injection h1 with h1 h1'
    subst h1;subst h1'
    rw [hO1] at h2
    rcases hown i p s v h2 h3 h4 h5 with ⟨⟨q,q1,q2⟩,q3⟩|hz
    ·exact .inl ⟨b,n,q,hβ,q1,q2,h4,q3⟩
    ·exact .inr hz
   ·have hne:b'≠b:=fun e'=>e (h.inj x d b' m n h1 (by rw [e'];exact hβ))
    exact .inl ⟨b',m,p,h1,by rw [←hO2 x e];exact h2,h3,h4,by rw [←World.cell?_of_block (w:=w) (a:=⟨b',i,none⟩) (hoth b' hne)];exact h5⟩
 refine ⟨⟨h.bel.trans hdl,h.mN,fun x n hn=>by rw [hsz];exact h.mlt x n hn,?_,h.inj,h.dom,fun k=>hR _ _ (h.reg k),?_,?_,?_⟩,hR⟩
 ·intro x b' m hx
  by_cases e:x=d
  ·subst e
   rw [hβ] at hx
   injection hx with hx
   injection hx with hx hx'
   subst hx;subst hx'
   exact ⟨hb1,hb2,by rw [hO1];exact hobj hR⟩
  ·obtain ⟨h1,h2,h3⟩:=h.box x b' m hx
   have hne:b'≠b:=fun e'=>e (h.inj x d b' m n hx (by rw [e'];exact hβ))
   exact ⟨h1,h2,by rw [hO2 x e];exact h3.ext (hoth b' hne) hR⟩
 ·intro key s v ho
  rcases hOwn key s v ho with ho'|⟨hn,a,ha⟩
  ·refine (h.tok key s v ho').ext (fun g hg=>⟨hoth g (fun e=> ?_),rfl⟩)
   exact h.tokbox key s v g d n ho' hg (by rw [e];exact hβ)
  ·exact .inl ⟨a,ha,hn⟩
 ·intro key key' s s' v v' g ho ho' hne hg
  rcases hOwn _ _ _ ho with q|⟨_,q⟩
  ·rcases hOwn _ _ _ ho' with q'|⟨_,q'⟩
   ·exact h.tokne key key' s s' v v' g q q' hne hg
   ·exact fun hg'=>tb0 _ _ q' hg'
  ·exact (tb0 _ _ q hg).elim
 ·intro key s v g x m ho hg
  rcases hOwn _ _ _ ho with q|⟨_,q⟩
  ·exact h.tokbox key s v g x m q hg
  ·exact (tb0 _ _ q hg).elim
theorem SH.rowWrite(h:SH H w0 N O D w M β)(g k k':Nat)(cur cs:Array Value)(t:Nat)(hgB:¬w0.old g)(hM:M g=some k)(hk:k≤k')
  (hh:w.heap[g]? =some (.cells cur t (0,0))) (hsame:∀i,i < k→cs[i]? =cur[i]?)
  (hbox:∀x n,β x≠some (g,n)) (hno:∀key s v,X5 H O w β key s v→tb v≠some g):
  Ext w M (w.setRow g cs) (fun b=>if b=g then some k' else M b)∧SH H w0 N O D (w.setRow g cs) (fun b=>if b=g then some k' else M b) β∧
  (∀p v,B1 w M β w0.old p v→B1 (w.setRow g cs) (fun b=>if b=g then some k' else M b) β w0.old p v)∧
  (∀key s v,X5 H O (w.setRow g cs) β key s v→X5 H O w β key s v):=by
 have hw1:(w.setRow g cs).heap[g]? =some (.cells cs t (0,0)):=setRow_heap w g cur _ t (0,0) hh
 have hoth:∀x,x≠g→(w.setRow g cs).heap[x]? =w.heap[x]? :=fun x hx=>setRow_other w g x _ hx
 have hsz:(w.setRow g cs).heap.size=w.heap.size:=by simp [World.setRow]
 have hgw:g < w.heap.size:=h.mlt g k hM
 have hE:Ext w M (w.setRow g cs) (fun b=>if b=g then some k' else M b):=by
  intro x v hi hc
  by_cases e:x.block=g
  ·have hlt:=hi k (by rw [e];exact hM)
   refine ⟨fun n hn=> ?_,?_⟩
   ·rw [e] at hn;simp only [if_true] at hn;injection hn with hn;omega
   ·unfold World.cell? at hc ⊢
    rw [e,hh] at hc
    rw [e,hw1]
    simp only at hc ⊢
    rw [hsame _ hlt];exact hc
  ·refine ⟨fun n hn=> ?_,by rw [World.cell?_of_block (w:=w) (hoth _ e)];exact hc⟩
   simp only [e,if_false] at hn
   exact hi n hn
 have hR:∀p v,B1 w M β w0.old p v→B1 (w.setRow g cs) (fun b=>if b=g then some k' else M b) β w0.old p v:=fun p v hr=>hr.ext hE (fun x hx=>World.cell?_of_block (w:=w) (hoth _ (fun e=>hgB (by rw [←e];exact hx)))) (fun _ _ h=>h)
 have hOwn:∀key s v,X5 H O (w.setRow g cs) β key s v→X5 H O w β key s v:=by
  intro key s v ho
  cases key with
  |slot k=>exact ho
  |cell x i=>
   obtain ⟨b',m,p,h1,h2,h3,h4,h5⟩:=ho
   have hne:b'≠g:=fun e=>hbox x m (by rw [h1,e])
   exact ⟨b',m,p,h1,h2,h3,h4,by rw [←World.cell?_of_block (w:=w) (a:=⟨b',i,none⟩) (hoth b' hne)];exact h5⟩
 refine ⟨hE,⟨h.bel.trans ⟨rfl,rfl,rfl,by omega,fun x hx=>hoth x (fun e=>hgB (by rw [←e];exact hx))⟩,?_,?_,?_,h.inj,h.dom,fun k=>hR _ _ (h.reg k),?_,?_,?_⟩,hR,hOwn⟩
 ·refine ⟨fun b hb=> ?_,h.mN.gl⟩;simp only [show b≠g from fun e=>hgB (by rw [←e];exact hb),if_false];exact h.mN b hb
 ·intro b n hn
  by_cases e:b=g
  ·rw [e,hsz];exact hgw
  ·simp only [e,if_false] at hn;rw [hsz];exact h.mlt b n hn
 ·intro d b m hd
  have hne:b≠g:=fun e=>hbox d m (by rw [hd,e])
  obtain ⟨h1,h2,h3⟩:=h.box d b m hd
  exact ⟨h1,by simp only [hne,if_false];exact h2,h3.ext (hoth b hne) hR⟩
 ·intro key s v ho
  have ho':=hOwn key s v ho
  refine (h.tok key s v ho').ext (fun g' hg=> ?_)
  have hne:g'≠g:=fun e=>hno key s v ho' (by rw [hg,e])
  exact ⟨hoth g' hne,by simp only [hne,if_false]⟩
 ·intro key key' s s' v v' g ho ho';exact h.tokne key key' s s' v v' g (hOwn _ _ _ ho) (hOwn _ _ _ ho')
 ·intro key s v g x m ho;exact h.tokbox key s v g x m (hOwn _ _ _ ho)
theorem SH.fixed(h:SH H w0 N O D w M β)(g k:Nat)(hM:M g=some 0)(hbox:∀x n,β x≠some (g,n))(hno:∀key s v,X5 H O w β key s v→tb v≠some g)(hgB:¬w0.old g):
  SH H w0 N O D w (fun b=>if b=g then some k else M b) β∧(∀p v,B1 w M β w0.old p v→B1 w (fun b=>if b=g then some k else M b) β w0.old p v):=by
 have hE:Ext w M w (fun b=>if b=g then some k else M b):=by
  intro x v hi hc
  refine ⟨fun n hn=> ?_,hc⟩
  by_cases e:x.block=g
  ·have:=hi 0 (by rw [e];exact hM);omega
  ·simp only [e,if_false] at hn
   exact hi n hn
 have hR:∀p v,B1 w M β w0.old p v→B1 w (fun b=>if b=g then some k else M b) β w0.old p v:=fun p v hr=>hr.ext hE (fun _ _=>rfl) (fun _ _ h=>h)
 refine ⟨⟨h.bel,?_,?_,?_,h.inj,h.dom,fun k=>hR _ _ (h.reg k),?_,h.tokne,h.tokbox⟩,hR⟩
 ·refine ⟨fun b hb=> ?_,h.mN.gl⟩;simp only [show b≠g from fun e=>hgB (by rw [←e];exact hb),if_false];exact h.mN b hb
 ·intro b n hn
  by_cases e:b=g
  ·rw [e];exact h.mlt g 0 hM
  ·simp only [e,if_false] at hn;exact h.mlt b n hn
 ·intro d b m hd
  have hne:b≠g:=fun e=>hbox d m (by rw [hd,e])
  obtain ⟨h1,h2,h3⟩:=h.box d b m hd
  exact ⟨h1,by simp only [hne,if_false];exact h2,h3.ext rfl hR⟩
 ·intro key s v ho
  refine (h.tok key s v ho).ext (fun g' hg=>⟨rfl,?_⟩)
  have hne:g'≠g:=fun e=>hno key s v ho (by rw [hg,e])
  simp only [hne,if_false]
theorem SH.rowNew(h:SH H w0 N O D w M β)(cs:Array Value)(t k:Nat):
  Ext w M (w.alloc (.cells cs t)) (fun b=>if b=w.heap.size then some k else M b)∧SH H w0 N O D (w.alloc (.cells cs t)) (fun b=>if b=w.heap.size then some k else M b) β∧
  (∀p v,B1 w M β w0.old p v→B1 (w.alloc (.cells cs t)) (fun b=>if b=w.heap.size then some k else M b) β w0.old p v)∧
  (∀x n,β x≠some (w.heap.size,n))∧(∀key s v,X5 H O (w.alloc (.cells cs t)) β key s v→X5 H O w β key s v∧tb v≠some w.heap.size):=by
 have hoth:∀x,x < w.heap.size→(w.alloc (.cells cs t)).heap[x]? =w.heap[x]? :=fun x hx=>Below.heap_alloc w _ x hx
 have hle:w0.w.heap.size≤w.heap.size:=h.bel.size
 have hE:Ext w M (w.alloc (.cells cs t)) (fun b=>if b=w.heap.size then some k else M b):=fun x v hi hc=>by
  have hx:=l5 hc
  refine ⟨fun n hn=>hi n ?_,Ade w _ hc⟩
  simp only [show x.block≠w.heap.size by omega,if_false] at hn
  exact hn
 have hβb:∀x b n,β x=some (b,n)→b < w.heap.size:=fun x b n hb=>h.mlt b 0 (h.box x b n hb).2.1
 have hR:∀p v,B1 w M β w0.old p v→B1 (w.alloc (.cells cs t)) (fun b=>if b=w.heap.size then some k else M b) β w0.old p v:=fun p v hr=>
  hr.ext hE (fun x hx=>World.cell?_of_block (w:=w) (hoth _ (h.bel.lt hx))) (fun _ _ h=>h)
 have hOwn:∀key s v,X5 H O (w.alloc (.cells cs t)) β key s v→X5 H O w β key s v:=by
  intro key s v ho
  cases key with
  |slot k=>exact ho
  |cell x i=>
   obtain ⟨b',m,p,h1,h2,h3,h4,h5⟩:=ho
   exact ⟨b',m,p,h1,h2,h3,h4,by rw [←World.cell?_of_block (w:=w) (a:=⟨b',i,none⟩) (hoth b' (hβb x b' m h1))];exact h5⟩
 have hlt:∀key s v,X5 H O w β key s v→∀g,tb v=some g→g < w.heap.size:=fun key s v ho g hg=>by
  obtain ⟨_,k,hk⟩:=(h.tok key s v ho).lt hg
  exact h.mlt g k hk
 refine ⟨hE,⟨h.bel.alloc _,?_,?_,?_,h.inj,h.dom,fun k=>hR _ _ (h.reg k),?_,?_,?_⟩,hR,?_,?_⟩
 ·refine ⟨fun b hb=> ?_,h.mN.gl⟩;simp only [show b≠w.heap.size by have:=h.bel.lt hb;omega,if_false];exact h.mN b hb
 ·intro b n hn
  by_cases e:b=w.heap.size
  ·subst e;simp
  ·simp only [e,if_false] at hn;have:=h.mlt b n hn;simp;omega
 ·intro d b m hd
  obtain ⟨h1,h2,h3⟩:=h.box d b m hd
  have hbl:=hβb d b m hd
  exact ⟨h1,by simp only [show b≠w.heap.size by omega,if_false];exact h2,h3.ext (hoth b hbl) hR⟩
 ·intro key s v ho
  have ho':=hOwn key s v ho
  refine (h.tok key s v ho').ext (fun g hg=> ?_)
  have:=hlt key s v ho' g hg
  exact ⟨hoth g this,by simp only [show g≠w.heap.size by omega,if_false]⟩
 ·intro key key' s s' v v' g ho ho';exact h.tokne key key' s s' v v' g (hOwn _ _ _ ho) (hOwn _ _ _ ho')
 ·intro key s v g x m ho;exact h.tokbox key s v g x m (hOwn _ _ _ ho)
 ·intro x n hx
  have:=hβb x _ n hx
  omega
 ·intro key s v ho
  have ho':=hOwn key s v ho
  refine ⟨ho',fun hg=> ?_⟩
  have:=hlt key s v ho' _ hg
  omega
end
end Go.Proofs.YthjhkpgonleelaaGreatDoor.Ev
namespace Go.Proofs.YthjhkpgonleelaaGreatDoor.Ev
open Go Go.RowKit
set_option linter.unusedVariables false
set_option linter.unusedSimpArgs false
set_option linter.unnecessarySimpa false
def hold{ι :Type}(cx: ι→PV×Value)(st:St)(a:Act):Nat ⊕ ι→PV×Value
 | .inl s=>(st.get s,a.tmps.getD s undef)
 | .inr i=>cx i
structure SR {ι :Type} (cx: ι→PV×Value) (w0:E9) (N:Px) (nt:Nat) (st:St) (a:Act) (w:World) (M:Px) (β :N0):Prop where
 defs:a.defers= []
 nt:a.tmps.size=nt
 sh:SH (hold cx st a) w0 N st.obj (fun d=>A9 d (st.ob.map Prod.fst)) w M β
theorem C2{α :Type}(d x: α)(r:List (Nat×α))(a s:Nat):Db d ((a,x)::r) s=if a=s then x else Db d r s:=by
 by_cases h:a=s
 ·subst h;simp [Db]
 ·have:Nat.beq a s=false:=by
   cases hb:Nat.beq a s
   ·rfl
   ·exact absurd (Nat.eq_of_beq_eq_true hb) h
  simp [Db,this,h]
theorem Bq(d:Nat)(l:List Nat):A9 d l=true↔d∉l:=by
 induction l with
 |nil=>simp [A9]
 |cons a l ih=>
  by_cases h:a=d
  ·subst h;simp [A9]
  ·have:Nat.beq a d=false:=by
    cases hb:Nat.beq a d
    ·rfl
    ·exact absurd (Nat.eq_of_beq_eq_true hb) h
   have h':d≠a:=fun e=>h e.symm
   simp [A9,this,ih,h']
theorem P6{α :Type}(d: α)(l r:List (Nat×α))(s:Nat):Db d (l++r) s=if s∈l.map Prod.fst then Db d l s else Db d r s:=by
 induction l with
 |nil=>simp
 |cons x l ih=>
  obtain ⟨a,y⟩:=x
  rw [List.cons_append,C2,C2,ih]
  by_cases h:a=s
  ·subst h;simp
  ·have:¬s=a:=fun e=>h e.symm
   simp only [h,if_false,List.map_cons,List.mem_cons,this,false_or]
theorem Tq(l r:List Nat)(d:Nat):A9 d (l++r)=(A9 d l && A9 d r):=by
 rw [Bool.eq_iff_iff];simp [Bq]
theorem Am8(K:List Nat):∀(l:List (Nat×List PV)) (d:Nat),Db [] (rem K l) d=if d∈K then [] else Db [] l d
 | [],d=>by simp [rem,Db]
 |(a,x)::r,d=>by
  simp only [rem]
  cases h:A9 a K with
  |true=>
   have ha:=(Bq _ _).1 h
   simp only
   rw [C2,C2,Am8 K r d]
   by_cases e:a=d
   ·subst e;simp [ha]
   ·simp [e]
  |false=>
   have ha:a∈K:=by
    have:¬A9 a K=true:=by rw [h];simp
    rw [Bq] at this;exact Classical.not_not.1 this
   simp only
   rw [C2,Am8 K r d]
   by_cases e:a=d
   ·subst e;simp [ha]
   ·simp [e]
theorem Ar0(K:List Nat):∀(l:List (Nat×List PV)) (d:Nat),d∈(rem K l).map Prod.fst↔d∈l.map Prod.fst∧d∉K
 | [],d=>by simp [rem]
 |(a,x)::r,d=>by
  simp only [rem]
  cases h:A9 a K with
  |true=>
   have ha:=(Bq _ _).1 h
   simp only [List.map_cons,List.mem_cons,Ar0 K r d]
   constructor
   ·rintro (rfl|⟨h1,h2⟩)
    ·exact ⟨.inl rfl,ha⟩
    ·exact ⟨.inr h1,h2⟩
   ·rintro ⟨h1|h1,h2⟩
    ·exact .inl h1
    ·exact .inr ⟨h1,h2⟩
  |false=>
   have ha:a∈K:=by
    have:¬A9 a K=true:=by rw [h];simp
    rw [Bq] at this;exact Classical.not_not.1 this
   simp only [List.map_cons,List.mem_cons,Ar0 K r d]
   constructor
   ·rintro ⟨h1,h2⟩;exact ⟨.inr h1,h2⟩
   ·rintro ⟨h1|h1,h2⟩
    ·subst h1;exact absurd ha h2
    ·exact ⟨h1,h2⟩
theorem Ahi{a b:List Nat}{d:Nat}(h:d∈a↔d∈b):A9 d a=A9 d b:=by
 rw [Bool.eq_iff_iff,Bq,Bq,h]
theorem Ov{α :Type}{d: α}(f:Nat→α):∀(keys:List Nat) (s:Nat),Db d (keys.map fun x=>(x,f x)) s=if s∈keys then f s else d:=by
 intro keys
 induction keys with
 |nil=>intro s;simp [Db]
 |cons x keys ih=>
  intro s
  rw [List.map_cons,C2,ih]
  by_cases e:x=s
  ·subst e;simp
  ·have:¬s=x:=fun e'=>e e'.symm
   simp only [e,if_false,List.mem_cons,this,false_or]
theorem Atr(d:Nat):∀(l:List Nat) (x:Nat),x∈A57 d l↔x=d∨x∈l
 | [],x=>by simp [A57]
 |b::r,x=>by
  simp only [A57]
  cases h1:Nat.blt d b with
  |true=>simp
  |false=>
   cases h2:Nat.beq d b with
   |true=>
    have:=Nat.eq_of_beq_eq_true h2
    subst this
    simp
   |false=>
    simp only [List.mem_cons,Atr d r x]
    constructor
    ·rintro (h|h|h)
     ·exact .inr (.inl h)
     ·exact .inl h
     ·exact .inr (.inr h)
    ·rintro (h|h|h)
     ·exact .inr (.inl h)
     ·exact .inl h
     ·exact .inr (.inr h)
theorem Ri:∀(l:List Nat) (x:Nat),x∈Anh l↔x∈l
 | [],x=>Iff.rfl
 |d::r,x=>by simp only [Anh,Atr,Ri r x,List.mem_cons]
theorem Ao4{α :Type}(d: α):∀(l:List (Nat×α)) (s:Nat),s∉l.map Prod.fst→Db d l s=d
 | [],s,_=>rfl
 |(a,x)::r,s,h=>by
  rw [C2,if_neg (fun e=>h (by simp [e]))]
  exact Ao4 d r s (fun hs=>h (by simp at hs ⊢;exact .inr hs))
theorem Ao8(l:List (Nat×List PV))(d:Nat):(d∈(Acm l).map Prod.fst)=(d∈l.map Prod.fst):=by
 have e:(Acm l).map Prod.fst=Anh (l.map Prod.fst):=by
  unfold Acm
  rw [List.map_map]
  exact List.map_id' _
 rw [e]
 exact propext (Ri _ _)
theorem Aw1(l:List (Nat×List PV))(d:Nat):Db [] (Acm l) d=Db [] l d:=by
 unfold Acm
 rw [Ov]
 by_cases h:d∈Anh (l.map Prod.fst)
 ·rw [if_pos h]
 ·rw [if_neg h,Ao4 [] l d (fun hm=>h ((Ri _ _).2 hm))]
theorem A3i(l:List (Nat×List PV))(d:Nat):A9 d ((Acm l).map Prod.fst)=A9 d (l.map Prod.fst):=Ahi (by rw [Ao8])
theorem Aml(o l:List (Nat×List PV))(d:Nat):Db [] (Bbw o l) d=Db [] (o++l) d:=by
 match o with
 | []=>rfl
 | [x]=>rfl
 |x::y::r=>
  show Db [] ((x::y::r)++rem ((x::y::r).map Prod.fst) l) d=_
  rw [P6,P6,Am8]
  by_cases h:d∈(x::y::r).map Prod.fst
  ·rw [if_pos h,if_pos h]
  ·rw [if_neg h,if_neg h,if_neg h]
theorem Arl(o l:List (Nat×List PV))(d:Nat):A9 d ((Bbw o l).map Prod.fst)=A9 d ((o++l).map Prod.fst):=by
 match o with
 | []=>rfl
 | [x]=>rfl
 |x::y::r=>
  refine Ahi ?_
  show d∈((x::y::r)++rem ((x::y::r).map Prod.fst) l).map Prod.fst↔_
  rw [List.map_append,List.map_append,List.mem_append,List.mem_append,Ar0]
  constructor
  ·rintro (h|⟨h,_⟩)
   ·exact .inl h
   ·exact .inr h
  ·rintro (h|h)
   ·exact .inl h
   ·by_cases e:d∈(x::y::r).map Prod.fst
    ·exact .inl e
    ·exact .inr ⟨h,e⟩
theorem Zz(a:Act)(d s:Nat)(v:Value)(hd:d < a.tmps.size):(a.put (some d) v).tmps.getD s undef=if d=s then v else a.tmps.getD s undef:=by
 simp only [Act.put,Array.getD_eq_getD_getElem?,Array.getElem?_setIfInBounds]
 by_cases h:d=s
 ·subst h;simp [hd]
 ·simp [h]
theorem J1(st:St)(d s:Nat)(p:PV):(st.app ⟨[(d,p)],[]⟩).get s=if d=s then p else st.get s:=C2 _ _ _ _ _
section
variable {ι :Type} {cx: ι→PV×Value} {w0:E9} {w w':World} {N M M':Px} {β β':N0} {nt:Nat} {st st':St} {a:Act}
theorem SR.reg(h:SR cx w0 N nt st a w M β)(s:Nat):B1 w M β w0.old (st.get s) (a.tmps.getD s undef):=h.sh.reg (.inl s)
def Ahz(d:Nat):R7 (Nat ⊕ ι)→Option (R7 (Option (Nat ⊕ ι)))
 | .slot (.inl s)=>if d=s then some (.slot none) else some (.slot (some (.inl s)))
 | .slot (.inr i)=>some (.slot (some (.inr i)))
 | .cell x i=>some (.cell x i)
def Bc0(d:Nat):R7 (Option (Nat ⊕ ι))→R7 (Nat ⊕ ι)
 | .slot none=> .slot (.inl d)
 | .slot (some k)=> .slot k
 | .cell x i=> .cell x i
theorem Akj{d:Nat}{k:R7 (Nat ⊕ ι)}{j:R7 (Option (Nat ⊕ ι))}(h:Ahz d k=some j):k=Bc0 d j:=by
 cases k with
 |slot k=>
  cases k with
  |inl s=>
   simp only [Ahz] at h
   by_cases e:d=s
   ·rw [if_pos e] at h;injection h with h;subst h;rw [←e];rfl
   ·rw [if_neg e] at h;injection h with h;subst h;rfl
  |inr i=>injection h with h;subst h;rfl
 |cell x i=>injection h with h;subst h;rfl
theorem SR.of_cons{O:Nat→List PV}{D:Nat→Bool}(hdef:a.defers= [])(hnt:a.tmps.size=nt){d:Nat}(hd:d < nt){p:PV}{v:Value}{st0:St}
  (h:SH (Mt (p,v) (hold cx st0 a)) w0 N O D w M β) (hg:∀s,st'.get s=if d=s then p else st0.get s) (hO:∀x,st'.obj x=O x)
  (hD:∀x,A9 x (st'.ob.map Prod.fst)=true→D x=true):SR cx w0 N nt st' (a.put (some d) v) w M β :=by
 have hds:d < a.tmps.size:=by rw [hnt];exact hd
 have e:st'.obj=O:=funext hO
 refine ⟨hdef,by simp [Act.put,hnt],?_⟩
 rw [e]
 have hH:∀s,hold cx st' (a.put (some d) v) (.inl s)=(if d=s then p else st0.get s,if d=s then v else a.tmps.getD s undef):=fun s=>by
  simp only [hold];rw [hg,Zz a d s v hds]
 refine h.perm (fun k=> ?_) (fun d b n hb=>(h.box d b n hb).2.2) (fun x hx=>h.dom x (hD x hx)) (Ahz d) ?_ (fun k k' j h1 h2=>(Akj h1).trans (Akj h2).symm)
 ·cases k with
  |inl s=>
   rw [hH]
   by_cases e:d=s
   ·simp only [e,if_true];exact h.reg none
   ·simp only [e,if_false];exact h.reg (some (.inl s))
  |inr i=>exact h.reg (some (.inr i))
 ·intro key s u ho
  cases key with
  |slot k=>
   cases k with
   |inl t=>
    have ho':(hold cx st' (a.put (some d) v) (.inl t)).1.sv=some s∧s.own=true∧(hold cx st' (a.put (some d) v) (.inl t)).2=u:=ho
    rw [hH] at ho'
    by_cases e:d=t
    ·refine ⟨.slot none,by simp only [Ahz];rw [if_pos e],?_⟩
     rw [if_pos e,if_pos e] at ho';exact ho'
    ·refine ⟨.slot (some (.inl t)),by simp only [Ahz];rw [if_neg e],?_⟩
     rw [if_neg e,if_neg e] at ho';exact ho'
   |inr i=>exact ⟨_,rfl,ho⟩
  |cell x i=>exact ⟨_,rfl,ho⟩
theorem SR.put(h:SR cx w0 N nt st a w M β)(d:Nat)(p:PV)(v:Value)(hd:d < nt)(hr:B1 w M β w0.old p v)(hn:∀s,p.sv=some s→s.own=false):
  SR cx w0 N nt (st.app ⟨[(d,p)],[]⟩) (a.put (some d) v) w M β :=
 SR.of_cons h.defs h.nt hd (h.sh.cons p v hr (fun s h1 h2=>by rw [hn s h1] at h2;cases h2)) (fun s=>J1 st d s p) (fun _=>rfl) (fun _ h=>h)
theorem SR.dput(h:SR cx w0 N nt st a w M β)(d:Option Nat)(p:PV)(v:Value)(hd:∀x,d=some x→x < nt)(hr:B1 w M β w0.old p v)(hn:∀s,p.sv=some s→s.own=false):
  SR cx w0 N nt (st.app (dput d p)) (a.put d v) w M β :=by
 cases d with
 |none=>exact h
 |some x=>exact h.put x p v (hd x rfl) hr hn
theorem SR.world(h:SR cx w0 N nt st a w M β)(hb:Below w.heap.size w w'):SR cx w0 N nt st a w' M β :=⟨h.defs,h.nt,h.sh.world hb⟩
theorem SR.drawn(h:SR cx w0 N nt st a w M β):SR cx w0 N nt st a { w with drawn:=w.drawn+1 } M β :=⟨h.defs,h.nt,h.sh.drawn⟩
theorem SR.drop(h:SR cx w0 N nt st a w M β)(s:Nat):SR cx w0 N nt (st.app ⟨[(s,(st.get s).view)],[]⟩) a w M β :=by
 refine ⟨h.defs,h.nt,h.sh.hold (fun k=> ?_) some (fun k sv h1 h2=> ?_) (fun k k' j h1 h2=>by injection h1 with h1;injection h2 with h2;rw [h1,h2])⟩
 ·cases k with
  |inl t=>
   simp only [hold]
   rw [J1]
   by_cases e:s=t
   ·subst e;rw [if_pos rfl];exact (h.reg s).view
   ·rw [if_neg e];exact h.reg t
  |inr i=>exact h.sh.reg (.inr i)
 ·cases k with
  |inl t=>
   simp only [hold] at h1
   rw [J1] at h1
   by_cases e:s=t
   ·rw [if_pos e] at h1;rw [Om h1] at h2;cases h2
   ·rw [if_neg e] at h1;exact ⟨_,rfl,h1,rfl⟩
  |inr i=>exact ⟨_,rfl,h1,rfl⟩
theorem Ahq{O:Nat→List PV}{s:Nat}{sv:SV}(h1:(st.get s).sv=some sv)(h2:sv.own=true):X5 (hold cx st a) O w β (.slot (.inl s)) sv (a.tmps.getD s undef):=⟨h1,h2,rfl⟩
theorem Adu{O:Nat→List PV}{s:Nat}{key:R7 (Nat ⊕ ι)}{sv:SV}{v:Value}(h:X5 (hold cx (st.app ⟨[(s,(st.get s).view)],[]⟩) a) O w β key sv v):
  X5 (hold cx st a) O w β key sv v∧key≠ .slot (.inl s):=by
 cases key with
 |slot k=>
  cases k with
  |inl t=>
   obtain ⟨h1,h2,h3⟩:=h
   simp only [hold] at h1
   rw [J1] at h1
   by_cases e:s=t
   ·rw [if_pos e] at h1;rw [Om h1] at h2;cases h2
   ·rw [if_neg e] at h1;exact ⟨⟨h1,h2,h3⟩,fun e'=>by injection e' with e';injection e' with e';exact e e'.symm⟩
  |inr i=>exact ⟨h,fun e=>by injection e with e;cases e⟩
 |cell d i=>exact ⟨h,fun e=>by cases e⟩
theorem Tr(l:List PV):∀(off:Nat) (new:List PV),(Jx l off new).length=l.length:=by
 induction l with
 |nil=>intro off new;simp [Jx]
 |cons p r ih=>
  intro off new
  cases new with
  |nil=>cases off<;>simp [Jx]
  |cons q new=>
   cases off with
   |zero=>simp [Jx,ih]
   |succ n=>simp [Jx,ih]
theorem X1(l:List PV):∀(off:Nat) (new:List PV) (i:Nat),off+new.length≤l.length→
  (Jx l off new)[i]? =if off≤i∧i < off+new.length then new[i - off]? else l[i]? :=by
 induction l with
 |nil=>
  intro off new i h
  have h1:off=0:=by simp at h;omega
  have h2:new= []:=List.eq_nil_of_length_eq_zero (by simp only [List.length_nil] at h;omega)
  subst h1;subst h2;simp [Jx]
 |cons p r ih=>
  intro off new i h
  cases new with
  |nil=>
   have:Jx (p::r) off []=p::r:=by cases off<;>rfl
   rw [this,if_neg (fun hh=>absurd hh.2 (by simp only [List.length_nil];omega))]
  |cons q new=>
   cases off with
   |zero=>
    have e:Jx (p::r) 0 (q::new)=q::Jx r 0 new:=rfl
    rw [e]
    cases i with
    |zero=>simp
    |succ i=>
     rw [List.getElem?_cons_succ,ih 0 new i (by simp at h ⊢;omega)]
     by_cases hi:i < new.length
     ·rw [if_pos ⟨by omega,by omega⟩,if_pos ⟨by omega,by simp;omega⟩];simp
     ·rw [if_neg (by omega),if_neg (by simp;omega)];simp
   |succ n=>
    have e:Jx (p::r) (n+1) (q::new)=p::Jx r n (q::new):=rfl
    rw [e]
    cases i with
    |zero=>rw [if_neg (by omega)];simp
    |succ i=>
     rw [List.getElem?_cons_succ,ih n (q::new) i (by simp at h ⊢;omega)]
     by_cases hi:n≤i∧i < n+(q::new).length
     ·rw [if_pos hi,if_pos ⟨by omega,by omega⟩]
      congr 1;omega
     ·rw [if_neg hi,if_neg (by omega)];simp
theorem Zk(l:List PV):∀n,Vf l n=true↔l.length=n:=by
 induction l with
 |nil=>intro n;cases n<;>simp [Vf]
 |cons p r ih=>intro n;cases n<;>simp [Vf,ih]
theorem Qx(l:List PV):∀n,Sb l n=true↔n≤l.length:=by
 induction l with
 |nil=>intro n;cases n<;>simp [Sb]
 |cons p r ih=>intro n;cases n<;>simp [Sb,ih]
theorem Ari(cs:List Value)(off:Nat)(vs:List Value)(h:off+vs.length≤cs.length)(i:Nat):
  (cs.take off++vs++cs.drop (off+vs.length))[i]? =if off≤i∧i < off+vs.length then vs[i - off]? else cs[i]? :=by
 rw [List.append_assoc]
 by_cases h1:i < off
 ·rw [if_neg (by omega),List.getElem?_append_left (by simp;omega),List.getElem?_take,if_pos h1]
 ·rw [List.getElem?_append_right (by simp;omega)]
  have hl:(cs.take off).length=off:=by simp;omega
  rw [hl]
  by_cases h2:i < off+vs.length
  ·rw [if_pos ⟨by omega,h2⟩,List.getElem?_append_left (by omega)]
  ·rw [if_neg (by omega),List.getElem?_append_right (by omega),List.getElem?_drop]
   congr 1;omega
def RC(w:World)(M:Px)(β :N0)(B:Nat→Prop)(l:List PV)(cs:Array Value):Prop:=l.length=cs.size∧∀(i:Nat) (p:PV) (v:Value),l[i]? =some p→cs[i]? =some v→B1 w M β B p v∧v.oneCell'=true
theorem A45{B:Nat→Prop}{p:PV}{v:Value}(h:B1 w M β B p v)(h1:Xv p.cells=true):
  v.cells.toList.length=p.cells.length∧(∀(i:Nat) (q:PV) (u:Value),p.cells[i]? =some q→v.cells.toList[i]? =some u→B1 w M β B q u∧u.oneCell'=true):=by
 have single:∀p v,B1 w M β B p v→p.one=true→p.cells= [p]→v.cells.toList.length=p.cells.length∧(∀(i:Nat) (q:PV) (u:Value),p.cells[i]? =some q→v.cells.toList[i]? =some u→B1 w M β B q u∧u.oneCell'=true):=by
  intro p v h h1 h2
  have ho:=h.one h1
  have hv:v.cells= #[v]:=by cases v<;>first|rfl|(simp [Value.oneCell'] at ho)
  rw [h2,hv]
  refine ⟨rfl,fun i q u hq hu=> ?_⟩
  cases i with
  |zero=>simp at hq hu;subst hq;subst hu;exact ⟨h,ho⟩
  |succ i=>simp at hq
 cases p with
 |agg l=>
  cases h with
  |agg l cs hl ho hr=>
   refine ⟨hl.symm,fun i q u hq hu=>⟨hr i q u hq hu,ho u ?_⟩⟩
   exact List.mem_of_getElem? hu
  |row p s hs=>cases hs
 |any=>simp [PV.cells,Xv,PV.one] at h1
 |tup l=>simp [PV.cells,Xv,PV.one] at h1
 |ref l=>simp [PV.cells,Xv,PV.one] at h1
 |arrO x=>simp [PV.cells,Xv,PV.one] at h1
 |mapO _ _ _ _=>simp [PV.cells,Xv,PV.one] at h1
 |mapE _ _ _ _ _ _=>simp [PV.cells,Xv,PV.one] at h1
 |val v=>exact single _ _ h (by simp only [PV.cells,Xv] at h1;split at h1;assumption;cases h1) rfl
 |_=>exact single _ _ h rfl rfl
theorem Gv{l:List PV}{i:Nat}{q:PV}(h:(l.map PV.view)[i]? =some q):∃p,l[i]? =some p∧q=p.view:=by
 rw [List.getElem?_map] at h
 cases hp:l[i]? with
 |none=>rw [hp] at h;cases h
 |some p=>rw [hp] at h;injection h with h;exact ⟨p,rfl,h.symm⟩
theorem Vn{B:Nat→Prop}{p:PV}{v:Value}(h:B1 w M β B p v)(h1:Xv p.cells=true):
  v.cells.toList.length=(p.cells.map PV.view).length∧(∀(i:Nat) (q:PV) (u:Value),(p.cells.map PV.view)[i]? =some q→v.cells.toList[i]? =some u→B1 w M β B q u∧u.oneCell'=true):=by
 obtain ⟨c1,c2⟩:=A45 h h1
 refine ⟨by rw [c1];simp,fun i q u hq hu=> ?_⟩
 obtain ⟨p',hp',rfl⟩:=Gv hq
 obtain ⟨r1,r2⟩:=c2 i p' u hp' hu
 exact ⟨r1.view,r2⟩
theorem SR.opd(h:SR cx w0 N nt st a w M β)(x:Operand):B1 w M β w0.old (st.opd x) (a.eval x):=by
 cases x with
 |tmp t=>exact h.reg t
 |const v=>
  show B1 w M β w0.old (match Ajj v with|true=> .val v|false=> .any) v
  cases hv:Ajj v with
  |true=>exact .val v (by rw [←Arr];exact hv)
  |false=>exact .any v
 |global g=>
  show B1 w M β w0.old (match Amg GL g with|some x=> .ref [.lst false x]|none=> .any) (.pointer (some ⟨g,0,none⟩))
  cases hg:Amg GL g with
  |none=>exact .any _
  |some x=>
   obtain ⟨q1,v,q2,q3⟩:=h.sh.mN.gl.here h.sh.bel h.sh.mN.eq β w0.old hg
   refine .ref [.lst false x] ⟨g,0,none⟩ (fun _=>v) (fun i p hp=> ?_) (fun i p hp=> ?_)
   ·cases i with
    |zero=>rw [Ad5];exact ⟨.inl q1,q2,q3.one rfl⟩
    |succ i=>simp at hp
   ·cases i with
    |zero=>injection hp with hp;subst hp;exact q3
    |succ i=>simp at hp
 |func f=>exact .clo f 0 [] [] rfl (fun i p v hp=>by simp at hp)
theorem SR.valOf(h:SR cx w0 N nt st a w M β):∀(l:List Operand),t8 st l=true→∀x∈l,a.eval x=st.valOf x:=by
 intro l
 induction l with
 |nil=>intro _ x hx;cases hx
 |cons y l ih=>
  intro hl x hx
  simp only [t8] at hl
  split at hl
  ·rename_i v hy
   rcases List.mem_cons.1 hx with e|e
   ·subst e
    have:=h.opd x
    rw [hy] at this
    simp only [St.valOf,hy]
    exact this.val_eq
   ·exact ih hl x e
  ·cases hl
theorem Aue{l:List PV}{Q:Nat→PV→Value→Prop}(h:∀(i:Nat) (p:PV),l[i]? =some p→∃v,Q i p v):
  ∃vs:List Value,vs.length=l.length∧∀(i:Nat) (p:PV) (v:Value),l[i]? =some p→vs[i]? =some v→Q i p v:=by
 induction l generalizing Q with
 |nil=>exact ⟨[],rfl,fun i p v hp=>by simp at hp⟩
 |cons p r ih=>
  obtain ⟨v,hv⟩:=h 0 p rfl
  obtain ⟨vs,h1,h2⟩:=ih (Q:=fun i=>Q (i+1)) (fun i q hq=>h (i+1) q (by simpa using hq))
  refine ⟨v::vs,by simp [h1],fun i q u hq hu=> ?_⟩
  cases i with
  |zero=>simp at hq hu;subst hq;subst hu;exact hv
  |succ i=>exact h2 i q u (by simpa using hq) (by simpa using hu)
def Tv(w:World)(M:Px)(β :N0)(B:Nat→Prop)(ad:Addr)(l:List PV):Prop:=∀(i:Nat) (p:PV),l[i]? =some p→∃v,w.cell? (ad.add i)=some v∧B1 w M β B p v∧v.oneCell'=true
theorem Tv.views{B:Nat→Prop}{ad:Addr}{l:List PV}(h:Tv w M β B ad l):Tv w M β B ad (l.map PV.view):=fun i p hp=>by
 obtain ⟨q,h1,rfl⟩:=Gv hp
 obtain ⟨v,a,b,c⟩:=h i q h1
 exact ⟨v,a,b.view,c⟩
theorem Aur:∀(l:List PV),plain (l.map PV.view)=plain l:=by
 intro l
 induction l with
 |nil=>rfl
 |cons p l ih=>cases p<;>simp only [List.map,PV.view,plain]<;>exact ih
theorem A8q{b:Nat}{x:LX}(h:st.vobj b= [.arrO x]):st.obj b= [.arrO x]:=by
 unfold St.vobj at h
 generalize st.obj b=l at h ⊢
 match l,h with
 | [],h=>cases h
 | [p],h=>cases p<;>simp [PV.view] at h ⊢ <;>exact h
 |p::q::r,h=>simp at h
theorem A39(b off sz:Nat):((st.vobj b).drop off).take sz=(((st.obj b).drop off).take sz).map PV.view:=by
 simp only [St.vobj,List.map_drop,List.map_take]
theorem A7k{B:Nat→Prop}{x:LX}{v:Value}(h:B1 w M β B (.arrO x) v):False:=by
 cases h with
 |row p s hs=>cases hs
theorem Auz{B:Nat→Prop}{g1 g2:Bool}{x y:LX}{v:Value}(h:B1 w M β B (.mapO g1 g2 x y) v):False:=by
 cases h with
 |row p s hs=>cases hs
theorem Auy{B:Nat→Prop}{es:Array MapEntry}{c:Nat}{g1 g2:Bool}{x y:LX}{v:Value}(h:B1 w M β B (.mapE es c g1 g2 x y) v):False:=by
 cases h with
 |row p s hs=>cases hs
theorem Aqm{B:Nat→Prop}{b n:Nat}{l:List PV}{x:LX}(h:Ky w M β B b n l)(hl:l= [.arrO x]):∃cs t,w.heap[b]? =some (.cells cs t (0,0))∧x.len=n∧n*x.sz≤cs.size∧
  ∀(i j:Nat) (p:PV) (v:Value),i < n→(x.row i)[j]? =some p→cs[i*x.sz+j]? =some v→B1 w M β B p v∧v.oneCell'=true:=by
 cases h with
 |cells l cs t q1 q2 q3=>
  subst hl
  have hs:1≤cs.size:=q2
  have:=(q3 0 _ (cs[0]'(by omega)) rfl (Array.getElem?_eq_getElem (by omega))).1
  exact (A7k this).elim
 |arr y cs t q1 q2 q3 q4=>injection hl with hl;injection hl with hl;subst hl;exact ⟨cs,t,q1,q2,q3,q4⟩
 |map=>injection hl with hl;cases hl
 |mapE=>injection hl with hl;cases hl
theorem Arh{B:Nat→Prop}{b n:Nat}{l:List PV}{gk gv:Bool}{ks vs:LX}(h:Ky w M β B b n l)(hl:l= [.mapO gk gv ks vs]):∃es clock,w.heap[b]? =some (.map es clock)∧es.size=ks.len∧vs.len=ks.len∧
  (∀(i:Nat) (e:MapEntry),es[i]? =some e→B1 w M β B (X6 gk (ks.row i)) e.key∧B1 w M β B (X6 gv (vs.row i)) e.val)∧Nj es clock:=by
 cases h with
 |cells l cs t q1 q2 q3=>
  subst hl
  have hs:1≤cs.size:=q2
  have:=(q3 0 _ (cs[0]'(by omega)) rfl (Array.getElem?_eq_getElem (by omega))).1
  exact (Auz this).elim
 |arr=>injection hl with hl;cases hl
 |mapE=>injection hl with hl;cases hl
 |map gk' gv' ks' vs' es clock q1 q2 q3 q4 q5=>injection hl with hl;injection hl with e1 e2 e3 e4;subst e1;subst e2;subst e3;subst e4;exact ⟨es,clock,q1,q2,q3,q4,q5⟩
theorem Bbv{B:Nat→Prop}{b n:Nat}{l:List PV}{gk gv:Bool}{ks vs:LX}(h:Ky w M β B b n l)(hl:A1e l=some (gk,gv,ks,vs)):∃es clock,w.heap[b]? =some (.map es clock)∧es.size=ks.len∧vs.len=ks.len∧
  ∀(i:Nat) (e:MapEntry),es[i]? =some e→B1 w M β B (X6 gk (ks.row i)) e.key∧B1 w M β B (X6 gv (vs.row i)) e.val:=by
 cases h with
 |cells l cs t q1 q2 q3=>
  unfold A1e at hl
  split at hl
  ·have hs:1≤cs.size:=q2
   have:=(q3 0 _ (cs[0]'(by omega)) rfl (Array.getElem?_eq_getElem (by omega))).1
   exact (Auz this).elim
  ·have hs:1≤cs.size:=q2
   have:=(q3 0 _ (cs[0]'(by omega)) rfl (Array.getElem?_eq_getElem (by omega))).1
   exact (Auy this).elim
  ·cases hl
 |arr=>cases hl
 |map gk' gv' ks' vs' es clock q1 q2 q3 q4 q5=>injection hl with hl;injection hl with e1 hl;injection hl with e2 hl;injection hl with e3 e4;subst e1;subst e2;subst e3;subst e4;exact ⟨es,clock,q1,q2,q3,q4⟩
 |mapE gk' gv' ks' vs' es clock q1 q2 q3 q4 q5=>injection hl with hl;injection hl with e1 hl;injection hl with e2 hl;injection hl with e3 e4;subst e1;subst e2;subst e3;subst e4;exact ⟨es,clock,q1,q2,q3,q4⟩
theorem Apa:∀ {l:List PV},plain l=true→∀(i:Nat) (p:PV),l[i]? =some p→(∀x,p≠ .arrO x)∧(∀g1 g2 x y,p≠ .mapO g1 g2 x y)
 | [],_,i,p,h=>by simp at h
 |q::r,h,i,p,hp=>by
  have hq:(∀x,q≠ .arrO x)∧(∀g1 g2 x y,q≠ .mapO g1 g2 x y)∧plain r=true:=by
   cases q with
   |arrO x=>cases h
   |mapO a b c d=>cases h
   |mapE a b c d e f=>cases h
   |_=>exact ⟨fun x e=>(by cases e),fun a b c d e=>(by cases e),h⟩
  cases i with
  |zero=>simp at hp;subst hp;exact ⟨hq.1,hq.2.1⟩
  |succ i=>exact Apa hq.2.2 i p (by simpa using hp)
theorem Apb:∀ {l:List PV},plain l=true→∀(i:Nat) (es:Array MapEntry) (c:Nat) (g1 g2:Bool) (x y:LX),l[i]? ≠some (.mapE es c g1 g2 x y)
 | [],_,i,_,_,_,_,_,_,h=>by simp at h
 |q::r,h,0,_,_,_,_,_,_,e=>by injection e with e;subst e;cases h
 |q::r,h,i+1,es,c,g1,g2,x,y,e=>by
  have:plain r=true:=by cases q<;>first|exact h|cases h
  exact Apb this i es c g1 g2 x y (by simpa using e)
theorem SR.cellsAt(h:SR cx w0 N nt st a w M β){d off b n:Nat}(hβ : β d=some (b,n)){l:List PV}(hl:∀(i:Nat) (p:PV),l[i]? =some p→(st.obj d)[off+i]? =some p)(hp:plain l=true):Tv w M β w0.old ⟨b,off,none⟩ l:=by
 intro i p hp'
 obtain ⟨_,_,h3⟩:=h.sh.box d b n hβ
 have hn:=Apa hp i p hp'
 have hq:=hl i p hp'
 generalize st.obj d=od at h3 hq
 cases h3 with
 |cells l cs t q1 q2 q3=>
  have hlt:off+i < cs.size:=by
   have:=(List.getElem?_eq_some_iff.1 hq).1
   omega
  have hv:cs[off+i]? =some cs[off+i]:=Array.getElem?_eq_getElem hlt
  refine ⟨_,?_,(q3 _ p _ hq hv)⟩
  rw [Agr,World.cell?,q1]
  exact hv
 |arr x cs t q1 q2 q3 q4=>
  rw [List.getElem?_cons] at hq
  split at hq
  ·injection hq with hq;exact absurd hq.symm (hn.1 x)
  ·simp at hq
 |map g1 g2 ks vs es clock q1 q2 q3 q4=>
  rw [List.getElem?_cons] at hq
  split at hq
  ·injection hq with hq;exact absurd hq.symm (hn.2 _ _ _ _)
  ·simp at hq
 |mapE g1 g2 ks vs es clock q1 q2 q3 q4=>
  rw [List.getElem?_cons] at hq
  split at hq
  ·injection hq with hq;subst hq;exact absurd hp' (Apb hp i _ _ _ _ _ _)
  ·simp at hq
theorem u4{l:List PV}{off sz i:Nat}{p:PV}(h:((l.drop off).take sz)[i]? =some p):l[off+i]? =some p:=by
 rw [List.getElem?_take] at h
 split at h
 ·rw [List.getElem?_drop] at h;exact h
 ·cases h
end
end Go.Proofs.YthjhkpgonleelaaGreatDoor.Ev
