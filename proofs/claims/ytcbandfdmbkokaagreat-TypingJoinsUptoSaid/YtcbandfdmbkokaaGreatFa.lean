/-  An evaluator of translated code on data without memory: definitions. -/
import Derived.Test.YtcbandfdmbkokaaGreatFr
namespace Go.Proofs.YtcbandfdmbkokaaGreat.Ev
open Go
set_option linter.unusedVariables false
set_option linter.unusedSimpArgs false
set_option linter.unnecessarySimpa false
structure SV where
 own:Bool
 e:Nat
 sz:Nat
 n:Nat
 f:Nat→List PV
def PV.sv:PV→Option SV
 | .sl own e sz es=>some ⟨own,e,sz,es.length,fun i=>es.getD i []⟩
 | .lst own x=>some ⟨own,x.e,x.sz,x.len,x.row⟩
 |_=>none
structure St where
 fr:List (Nat×PV)
 ob:List (Nat×List PV)
 base:Nat
structure Cy where
 s:List (Nat×PV)
 o:List (Nat×List PV)
def Hr{α :Type}(d: α):List (Nat×α)→Nat→α
 | [],_=>d
 |(a,x)::r,s=>match Nat.beq a s with
  |true=>x
  |false=>Hr d r s
def B7(d:Nat):List Nat→Bool
 | []=>true
 |a::r=>match Nat.beq a d with
  |true=>false
  |false=>B7 d r
def rem(K:List Nat):List (Nat×List PV)→List (Nat×List PV)
 | []=> []
 |(d,l)::r=>match B7 d K with
  |true=>(d,l)::rem K r
  |false=>rem K r
def A9v(o:List (Nat×List PV))(l:List (Nat×List PV)):List (Nat×List PV):=match o with
 | []=>l
 | [x]=>x::l
 |x::y::r=>(x::y::r)++rem ((x::y::r).map Prod.fst) l
def St.app(st:St)(δ :Cy):St:= { fr:= δ.s++st.fr,ob:=A9v δ.o st.ob,base:=st.base }
def St.get(st:St)(s:Nat):PV:=Hr .any st.fr s
def St.put(st:St)(s:Nat)(p:PV):St:= { st with fr:=(s,p)::st.fr }
def St.obj(st:St)(d:Nat):List PV:=Hr [] st.ob d
def St.vobj(st:St)(d:Nat):List PV:=(st.obj d).map PV.view
def Ahd:Value→Bool
 | .agg _| .tuple _=>false
 |_=>true
def St.opd(st:St):Operand→PV
 | .tmp t=>st.get t
 | .const v=>match Ahd v with
  |true=> .val v
  |false=> .any
 | .func f=> .clo f 0 []
 |_=> .any
def PV.cells:PV→List PV
 | .agg l=>l
 |p=> [p]
def PV.one:PV→Bool
 | .val v=>Ahd v
 | .sl _ _ _ _=>true
 | .lst _ _=>true
 | .loc _ _=>true
 | .el _ _ _ _=>true
 | .vw _ _ _ _ _=>true
 | .mp _=>true
 | .clo _ _ _=>true
 |_=>false
def Xz:List PV→Bool
 | []=>true
 |p::r=>match p.one with
  |true=>Xz r
  |false=>false
inductive K where
 |move (x:Operand)
 |nilsl (e:Nat)
 |take (x:Nat)
 |pick (c a b:Operand)
 |alloc (zero:List PV)
 |box (x:Operand)
 |build (zero:List PV) (parts:List (Nat×Nat×Operand))
 |bslice (e sz:Nat) (parts:List Operand)
 |load (agg:Bool) (sz:Nat) (x:Operand)
 |loadT (x:Operand)
 |store (sz:Nat) (a x:Operand)
 |storeT (a:Operand) (s:Nat)
 |scal (o:Oper)
 |eqA (neg:Bool) (ts:List (Nat×Nat)) (x y:Operand)
 |bin2 (tag:Nat) (x y:Operand)
 |field (off:Nat) (x:Operand)
 |index (sz:Nat) (x i:Operand)
 |len (x:Operand)
 |cap (x:Operand)
 |app (e sz by_:Nat) (s:Nat) (x:Operand)
 |call (f:Nat) (args:List Operand)
 |icall (f:Nat) (args:List Operand)
 |callv (x:Operand) (args:List Operand)
 |mkfn (f n:Nat) (caps:List Operand)
 |extract (x:Operand) (i:Nat)
 |nil (x:Operand)
 |mksl (e sz by_:Nat) (z:List PV) (n:Operand)
 |mkcap (e sz by_:Nat) (n:Operand)
 |slc (sz:Nat) (x:Operand) (lo hi mx:Option Operand)
 |sstr (x:Operand) (lo hi:Option Operand)
 |mkmap (gk gv:Bool) (ks vs:LX)
 |lookup (gq:Bool) (ts:List (Nat×Nat)) (ok g:Bool) (z:List PV) (m k:Operand)
 |mapup (gq:Bool) (ts:List (Nat×Nat)) (m k v:Operand)
 |del (m k:Operand)
 |aidx (off sz:Nat) (g:Bool) (x:Operand)
 |stop
structure Jv where
 dst:Option Nat
 g:Option (Nat×Bool)
 k:K
inductive EC where
 |skip
 |region (ban:List Nat) (ap:List (Nat×Nat)) (ops:List Jv)
 |regS (ops:List Jv)
 |seq (a b:EC)
 |cond (c:Operand) (a b:EC)
 |block (id:Nat) (b:EC)
 |loop (keys:List Nat) (b:EC)
 |exit (id:Nat)
 |ret
 |kp (keys:List Nat)
 |stop
inductive Ex where
 |normal|exit (id:Nat)|ret
def Afk{α :Type}(P:Program):Sem α→(α→Prop)→Prop
 | .pure a,k=>k a
 | .program f,k=>Afk P (f P) k
 |_,_=>False
abbrev Bi:=Nat→List PV→(PV→Prop)→Prop
abbrev Inl:=Nat→List PV→List (Nat×List PV)→(PV→List (Nat×List PV)→Prop)→Prop
def gd(p:Prop) [d:Decidable p](k:Prop):Prop:=match d with
 | .isTrue _=>k
 | .isFalse _=>False
theorem Bt(p:Prop) [d:Decidable p](k:Prop):gd p k=(p∧k):=by
 unfold gd
 cases d with
 |isTrue h=>exact propext ⟨fun hk=>⟨h,hk⟩,fun hk=>hk.2⟩
 |isFalse h=>exact propext ⟨fun hk=>hk.elim,fun hk=>h hk.1⟩
def br(t:Bool)(A B:Prop):Prop:=match t with
 |true=>A
 |false=>B
def fk(r:Option Nat)(A:Nat→Prop)(B:Prop):Prop:=match r with
 |some i=>A i
 |none=>B
def Sq(l:List PV)(off:Nat):PV:=match l,off with
 | [],_=> .any
 |p::_,0=>p
 |_::r,n+1=>Sq r n
def Wv(l:List PV)(n:Nat):Bool:=match l,n with
 | [],0=>true
 |_::r,n+1=>Wv r n
 |_,_=>false
def T4(l:List PV)(n:Nat):Bool:=match l,n with
 |_,0=>true
 |_::r,n+1=>T4 r n
 |_,_=>false
def mkP(agg:Bool)(l:List PV):PV:=match agg,l with
 |true,l=> .agg l
 |false,[p]=>p.view
 |false,_=> .any
def dput(d:Option Nat)(p:PV):Cy:=match d with
 |some s=>⟨[(s,p)],[]⟩
 |none=>⟨[],[]⟩
def R4:List PV→Bool
 | []=>true
 | .arrO _::_=>false
 | .mapO _ _ _ _::_=>false
 |_::r=>R4 r
def PV.pure0(p:PV):PV:=match p.flat with
 |true=>p.view
 |false=> .any
def Aux(O:Nat→List PV):PV→PV
 | .loc d off=>match R4 ((O d).drop off) with
  |true=> .ref (((O d).drop off).map PV.pure0)
  |false=> .any
 | .agg l=> .agg (l.map PV.pure0)
 | .ref l=> .ref (l.map PV.pure0)
 |p=>p.pure0
def W7(st:St)(ban:List Nat):List Operand→Bool
 | []=>true
 |x::r=>match ban,st.opd x with
  | [],_=>true
  |ban,.loc b _=>match B7 b ban with
   |true=>W7 st ban r
   |false=>false
  |ban,_=>W7 st ban r
def Acx(st:St)(cells:List PV):List (Nat×Nat×Operand)→(List PV→Prop)→Prop
 | [],k=>k cells
 |(off,sz,x)::r,k=>match Wv (st.opd x).cells sz,Xz (st.opd x).cells,T4 cells (off+sz) with
  |true,true,true=>Acx st (G6 cells off ((st.opd x).cells.map PV.view)) r k
  |_,_,_=>False
def Aa6(st:St)(sz:Nat):List Operand→(List (List PV)→Prop)→Prop
 | [],k=>k []
 |x::r,k=>match Wv (st.opd x).cells sz,Xz (st.opd x).cells with
  |true,true=>Aa6 st sz r fun l=>k ((st.opd x).cells.map PV.view::l)
  |_,_=>False
def Z0(st:St):List Operand→Bool
 | []=>true
 |x::r=>match st.opd x with
  | .val _=>Z0 st r
  |_=>false
def St.valOf(st:St)(x:Operand):Value:=match st.opd x with
 | .val v=>v
 |_=>undef
def Aqn(P:Program)(st:St)(o:Oper)(d:Option Nat)(k:Cy→Prop):Prop:=
 match Z0 st o.op.operands.toList with
 |true=>Afk P (execOp st.valOf o) fun n=>match n with
  | .value v=>match Ahd v with
   |true=>k (dput d (.val v))
   |false=>False
  |_=>False
 |false=>False
def Adl:List (Nat×Nat)→List PV→List PV→Option Bool
 | [],_,_=>some true
 |(tag,o)::r,xs,ys=>match Adl r xs ys with
  |none=>none
  |some t=>match tag,Sq xs o,Sq ys o with
   |0,.val (.bool a),.val (.bool b)=>some ((a == b) && t)
   |1,.val (.int k a),.val (.int k' b)=>match decide (k=k') with
    |true=>some ((a == b) && t)
    |false=>none
   |2,.val (.string a),.val (.string b)=>some ((a == b) && t)
   |_,_,_=>none
def C6:Option UInt8→Int
 |some b=>(b.toNat:Int)
 |none=>0
def bin2(tag:Nat)(x y:Value):Option (Bool×Value):=match tag,x,y with
 |0,.int k a,.int k' b=>match decide (k=k') with
  |true=>some (!decide (b=0),.int k (k.wrap (a.tdiv b)))
  |false=>none
 |1,.int k a,.int k' b=>match decide (k=k') with
  |true=>some (!decide (b=0),.int k (a.tmod b))
  |false=>none
 |2,.int k a,.int _ b=>some (!decide (b < 0),.int k (k.wrap (a*2 ^ (min b.toNat k.bits))))
 |3,.int k a,.int _ b=>some (!decide (b < 0),.int k (a.fdiv (2 ^ (min b.toNat k.bits))))
 |4,.string a,.string b=>some (!decide (((a.size+b.size:Nat):Int) > IntKind.i64.max),.string (a++b))
 |5,.string s,.int _ n=>some ((if 0≤n then s[n.toNat]? else none).isSome,.int .u8 (C6 (if 0≤n then s[n.toNat]? else none)))
 |_,_,_=>none
def Au1:Nat→PV→Bool
 |0,.val (.bool _)=>true
 |1,.val (.int _ _)=>true
 |2,.val (.string _)=>true
 |_,_=>false
def Vh:List (Nat×Nat)→List PV→Bool
 | [],[]=>true
 |(tag,_)::r,p::l=>match Au1 tag p with
  |true=>Vh r l
  |false=>false
 |_,_=>false
def Adq(gq:Bool)(ts:List (Nat×Nat))(p:PV):Option (List PV):=match gq,p with
 |true,.agg l=>match Vh ts l with
  |true=>some l
  |false=>none
 |true,_=>none
 |false,p=>match Vh ts [p] with
  |true=>some [p]
  |false=>none
def Aql:Bool→Bool→Bool
 |true,true=>true
 |false,false=>true
 |_,_=>false
def Au2(g:Bool)(p:PV):Option (List PV):=match g,p with
 |true,.agg l=>some (l.map PV.view)
 |true,_=>none
 |false,p=>match p.one with
  |true=>some [p.view]
  |false=>none
def Bn0:Operand→Bool
 | .const _=>true
 |_=>false
def St.bnd(st:St)(d:Int):Option Operand→Option Int
 |none=>some d
 |some x=>match st.opd x with
  | .val (.int _ n)=>some n
  |_=>none
def Bv(P:Program)(C:Bi)(X:Inl)(ban:List Nat)(o:K)(d:Option Nat)(st:St)(k:Cy→Prop):Prop:=
 match o with
 | .move x=>k (dput d (st.opd x).view)
 | .nilsl e=>match d,LX.nil e with
  |some d,some x=>k ⟨[(d,.lst true x)],[]⟩
  |_,_=>False
 | .take s=>match d with
  |some d=>k ⟨[(d,st.get s),(s,(st.get s).view)],[]⟩
  |none=>False
 | .pick c a b=>match st.opd c with
  | .val (.bool t)=>br t (k (dput d (st.opd a).view)) (k (dput d (st.opd b).view))
  |_=>False
 | .alloc z=>match d with
  |some s=>match B7 (st.base+s) (st.ob.map Prod.fst) with
   |true=>k ⟨[(s,.loc (st.base+s) 0)],[(st.base+s,z)]⟩
   |_=>False
  |none=>False
 | .box x=>match d with
  |some s=>match B7 (st.base+s) (st.ob.map Prod.fst),Xz (st.opd x).cells with
   |true,true=>k ⟨[(s,.loc (st.base+s) 0)],[(st.base+s,(st.opd x).cells.map PV.view)]⟩
   |_,_=>False
  |none=>False
 | .build z parts=>Acx st (z.map PV.view) parts fun l=>k (dput d (.agg l))
 | .bslice e sz parts=>Aa6 st sz parts fun l=>match LX.lit e l with
  |some x=>match Nat.beq x.sz sz with
   |true=>k (dput d (.lst true x))
   |false=>False
  |none=>k (dput d (.sl true e sz l))
 | .load agg sz x=>match st.opd x with
  | .loc b off=>match B7 b ban,T4 ((st.vobj b).drop off) sz,R4 (((st.vobj b).drop off).take sz) with
   |true,true,true=>k (dput d (mkP agg (((st.vobj b).drop off).take sz)))
   |_,_,_=>False
  | .ref l=>match T4 l sz with
   |true=>k (dput d (mkP agg (l.take sz)))
   |false=>False
  | .el b sz' i off=>match B7 b ban,st.vobj b with
   |true,[.arrO x]=>match Nat.beq sz' x.sz,T4 ((x.row i).drop off) sz with
    |true,true=>k (dput d (mkP agg (((x.row i).drop off).take sz)))
    |_,_=>False
   |_,_=>False
  |_=>False
 | .loadT x=>match st.opd x,d with
  | .loc b off,some d=>match B7 b ban,(Sq (st.obj b) off).one && R4 (st.obj b) with
   |true,true=>k ⟨[(d,Sq (st.obj b) off)],[(b,G6 (st.obj b) off [(Sq (st.obj b) off).view])]⟩
   |_,_=>False
  |_,_=>False
 | .store sz a x=>match st.opd a with
  | .loc b off=>match Wv (st.opd x).cells sz,Xz (st.opd x).cells,T4 (st.obj b) (off+sz) && R4 (st.obj b) with
   |true,true,true=>k ⟨[],[(b,G6 (st.obj b) off ((st.opd x).cells.map PV.view))]⟩
   |_,_,_=>False
  | .el b sz' i off=>match Wv (st.opd x).cells sz,Xz (st.opd x).cells,st.obj b with
   |true,true,[.arrO y]=>match Nat.beq sz' y.sz,LX.set y i off ((st.opd x).cells.map PV.view) with
    |true,some y'=>k ⟨[],[(b,[.arrO y'])]⟩
    |_,_=>False
   |_,_,_=>False
  |_=>False
 | .storeT a s=>match st.opd a with
  | .loc b off=>match (st.get s).one,T4 (st.obj b) (off+1) && R4 (st.obj b) with
   |true,true=>k ⟨[(s,(st.get s).view)],[(b,G6 (st.obj b) off [st.get s])]⟩
   |_,_=>False
  | .el b sz' i off=>match (st.get s).one,st.obj b with
   |true,[.arrO y]=>match Nat.beq sz' y.sz,LX.set y i off [(st.get s).view] with
    |true,some y'=>k ⟨[(s,(st.get s).view)],[(b,[.arrO y'])]⟩
    |_,_=>False
   |_,_=>False
  |_=>False
 | .scal o=>Aqn P st o d k
 | .bin2 tag x y=>match st.opd x,st.opd y with
  | .val u,.val v=>match bin2 tag u v with
   |some (c,r)=>br c (k (dput d (.val r))) False
   |none=>False
  |_,_=>False
 | .eqA neg ts x y=>match st.opd x,st.opd y with
  | .agg xs,.agg ys=>match Adl ts xs ys with
   |some t=>match neg with
    |true=>k (dput d (.val (.bool (!t))))
    |false=>k (dput d (.val (.bool t)))
   |none=>False
  |_,_=>False
 | .field off x=>match st.opd x with
  | .loc b o=>k (dput d (.loc b (o+off)))
  | .ref l=>k (dput d (.ref (l.drop off)))
  | .el b sz i o=>k (dput d (.el b sz i (o+off)))
  |_=>False
 | .index sz x i=>match st.opd x,st.opd i with
  | .vw c b e sz' m,.val (.int _ n)=>match Nat.beq sz sz',c with
   |true,false=>gd (0≤n) (gd (n < (m:Int)) (k (dput d (.el b sz n.toNat 0))))
   |true,true=>gd (0≤n) (gd (n < (m:Int)) (k (dput d (.loc b (n.toNat*sz)))))
   |_,_=>False
  |p,.val (.int _ n)=>match p.sv with
   |some s=>match Nat.beq sz s.sz with
    |true=>gd (0≤n) (gd (n < (s.n:Int)) (k (dput d (.ref (s.f n.toNat)))))
    |false=>False
   |none=>False
  |_,_=>False
 | .len x=>match st.opd x with
  | .vw _ _ _ _ m=>k (dput d (.val (.int .i64 m)))
  | .val (.slice _ n _)=>k (dput d (.val (.int .i64 n)))
  |p=>match p.sv with
   |some s=>k (dput d (.val (.int .i64 s.n)))
   |none=>False
 | .cap x=>match st.opd x with
  | .val (.slice _ _ c)=>k (dput d (.val (.int .i64 c)))
  |_=>False
 | .app e sz by_ s x=>match d with
  |some d=>match st.get s,st.opd x with
   | .lst true y,.lst _ z=>match Nat.beq e y.e,Nat.beq sz y.sz,LX.cat y z with
    |true,true,some r=>gd ((y.len+z.len)*by_≤140737488355328) (gd (y.len+z.len≤maxLen) (k ⟨[(d,.lst true r),(s,.lst false y)],[]⟩))
    |_,_,_=>False
   | .lst true y,.val (.slice none 0 0)=>match Nat.beq e y.e with
    |true=>k ⟨[(d,.lst true y),(s,.lst false y)],[]⟩
    |false=>False
   | .val (.slice none 0 0),.lst _ z=>match Nat.beq e z.e,Nat.beq sz z.sz with
    |true,true=>gd ((0+z.len)*by_≤140737488355328) (gd (0+z.len≤maxLen) (k ⟨[(d,.lst true z)],[]⟩))
    |_,_=>False
   |_,_=>False
  |none=>False
 | .call f args=>match W7 st ban args with
  |true=>C f (args.map fun x=>Aux st.obj (st.opd x)) fun r=>k (dput d r.view)
  |false=>False
 | .icall f args=>X f (args.map fun x=>(st.opd x).view) st.ob fun r o'=>k ⟨(dput d r).s,o'⟩
 | .callv x args=>match st.opd x with
  | .clo f n caps=>X f (caps.take n++((args.map fun x=>(st.opd x).view)++caps.drop n)) st.ob fun r o'=>k ⟨(dput d r).s,o'⟩
  |_=>False
 | .mkfn f n caps=>k (dput d (.clo f n (caps.map fun x=>(st.opd x).view)))
 | .extract x i=>match st.opd x with
  | .tup l=>match T4 l (i+1) with
   |true=>k (dput d (Sq l i).view)
   |false=>False
  |_=>False
 | .nil x=>match st.opd x with
  | .loc b off=>k (dput d (.loc b off))
  | .ref l=>k (dput d (.ref l))
  | .el b sz i off=>k (dput d (.el b sz i off))
  |_=>False
 | .mksl e sz by_ z n=>match d,st.opd n with
  |some s,.val (.int .i64 m)=>match Bn0 n with
   |true=>match decide (0≤m),B7 (st.base+s) (st.ob.map Prod.fst),Nat.ble (m.toNat*by_) 140737488355328 && Nat.ble m.toNat 16777216 with
    |true,true,true=>k ⟨[(s,.vw true (st.base+s) e sz m.toNat)],[(st.base+s,(List.replicate m.toNat z).flatten)]⟩
    |_,_,_=>False
   |false=>match B7 (st.base+s) (st.ob.map Prod.fst),LX.lit e [z.map PV.view] with
    |true,some y=>match Nat.beq y.sz sz with
     |true=>gd (0≤m) (gd (m*(by_:Int)≤140737488355328) (gd (m≤9223372036854775807) (k ⟨[(s,.vw false (st.base+s) e sz m.toNat)],[(st.base+s,[.arrO (y.rep m.toNat)])]⟩)))
     |false=>False
    |_,_=>False
  |_,_=>False
 | .mkcap e sz by_ n=>match d,st.opd n,LX.nil e with
  |some s,.val (.int .i64 m),some x=>match Nat.beq x.sz sz with
   |true=>gd (0≤m) (gd (m*(by_:Int)≤140737488355328) (gd (m≤(maxLen:Int)) (k ⟨[(s,.lst true x)],[]⟩)))
   |false=>False
  |_,_,_=>False
 | .slc sz x lo hi mx=>match st.opd x with
  | .lst _ y=>match Nat.beq sz y.sz,st.bnd y.len mx with
   |true,some m=>match st.bnd y.len hi with
    |some h=>match st.bnd 0 lo with
     |some l=>gd (0≤l) (gd (l≤h) (gd (h≤m) (gd (m≤(y.len:Int)) (k (dput d (.lst (mx.isSome && decide (m=0)) (y.sub l.toNat h.toNat)))))))
     |none=>False
    |none=>False
   |_,_=>False
  |_=>False
 | .sstr x lo hi=>match st.opd x with
  | .val (.string s)=>match st.bnd s.size hi with
   |some h=>match st.bnd 0 lo with
    |some l=>gd (0≤l) (gd (l≤h) (gd (h≤(s.size:Int)) (k (dput d (.val (.string (s.extract l.toNat h.toNat)))))))
    |none=>False
   |none=>False
  |_=>False
 | .mkmap gk gv ks vs=>match d with
  |some s=>match B7 (st.base+s) (st.ob.map Prod.fst) with
   |true=>k ⟨[(s,.mp (st.base+s))],[(st.base+s,[.mapO gk gv ks vs])]⟩
   |false=>False
  |none=>False
 | .lookup gq ts ok g z m q=>match st.opd m with
  | .mp b=>match B7 b ban,st.obj b,Adq gq ts (st.opd q) with
   |true,[.mapO gk gv ks vs],some c=>match Aql gq gk,LX.find ks c,Aql g gv with
    |true,some r,true=>fk r (fun i=>k (dput d (match ok with|true=> .tup [mkP gv (vs.row i),.val (.bool true)]|false=>mkP gv (vs.row i))))
      (k (dput d (match ok with|true=> .tup [mkP g (z.map PV.view),.val (.bool false)]|false=>mkP g (z.map PV.view))))
    |_,_,_=>False
   |_,_,_=>False
  |_=>False
 | .mapup gq ts m q v=>match st.opd m with
  | .mp b=>match st.obj b,Adq gq ts (st.opd q) with
   | [.mapO gk gv ks vs],some ck=>match Aql gq gk,LX.find ks ck,Au2 gv (st.opd v) with
    |true,some r,some c=>fk r (fun i=>match Nat.beq c.length vs.sz,LX.set vs i 0 c with
      |true,some vs'=>k ⟨[],[(b,[.mapO gk gv ks vs'])]⟩
      |_,_=>False)
     (match LX.push ks ck,LX.push vs c with
      |some ks',some vs'=>k ⟨[],[(b,[.mapO gk gv ks' vs'])]⟩
      |_,_=>False)
    |_,_,_=>False
   |_,_=>False
  |_=>False
 | .del m q=>False
 | .aidx off sz g x=>match st.opd x with
  | .agg l=>match T4 l (off+sz) with
   |true=>k (dput d (mkP g ((l.drop off).take sz)))
   |false=>False
  |_=>False
 | .stop=>False
def S4(P:Program)(C:Bi)(X:Inl)(ban:List Nat):List Jv→St→(St→Prop)→Prop
 | [],st,k=>k st
 |o::r,st,k=>match o.g with
  |none=>Bv P C X ban o.k o.dst st fun δ =>S4 P C X ban r (st.app δ) k
  |some (s,want)=>match st.get s with
   | .val (.bool t)=>
    br t
    (match want with
     |true=>Bv P C X ban o.k o.dst (st.put s (.val (.bool true))) fun δ =>S4 P C X ban r ((st.put s (.val (.bool true))).app δ) k
     |false=>S4 P C X ban r ((st.put s (.val (.bool true))).app (dput o.dst (.tup []))) k)
    (match want with
     |false=>Bv P C X ban o.k o.dst (st.put s (.val (.bool false))) fun δ =>S4 P C X ban r ((st.put s (.val (.bool false))).app δ) k
     |true=>S4 P C X ban r ((st.put s (.val (.bool false))).app (dput o.dst (.tup []))) k)
   | .tup []=>S4 P C X ban r (st.app (dput o.dst (.tup []))) k
   |_=>False
def K.quiet:K→Bool
 | .move _| .scal _| .field .. | .load .. | .len _| .cap _| .bin2 .. | .eqA .. | .index .. | .extract .. | .nil _| .call .. | .pick .. | .sstr .. | .lookup .. =>true
 |_=>false
def Ad2(s:Nat):List Jv→Option (List Jv×Nat×List Jv)
 | []=>none
 |eo::r=>match eo.k.quiet,eo.g with
  |true,some _=>match Ad2 s r with
   |some (B,pd,r')=>some (eo::B,pd,r')
   |none=>none
  |true,none=>match eo.k,eo.dst with
   | .pick (.tmp c) _ _,some pd=>match Nat.beq c s with
    |true=>some ([eo],pd,r)
    |false=>none
   |_,_=>none
  |false,_=>none
def Aob:List Jv→List (Nat×PV)
 | []=> []
 |eo::r=>match eo.dst with
  |some d=>(d,.any)::Aob r
  |none=>Aob r
def stJ(st:St)(B:List Jv)(pd:Nat)(b:Bool):St:=st.app ⟨(pd,.val (.bool b))::Aob B,[]⟩
def jn{σ :Type}(X:(σ→Prop)→Prop)(j: σ→Prop):Prop:=X j
def Ah3(pd:Nat)(j:Bool→Prop)(st:St):Prop:=match st.get pd with
 | .val (.bool b)=>j b
 |_=>False
def S5(P:Program)(C:Bi)(X:Inl):Nat→List Jv→St→(St→Prop)→Prop
 |_,[],st,k=>k st
 |0,_::_,_,_=>False
 |n+1,o::r,st,k=>match o.g with
  |none=>Bv P C X [] o.k o.dst st fun δ =>S5 P C X n r (st.app δ) k
  |some (s,want)=>match st.get s with
   | .val (.bool t)=>match Ad2 s (o::r) with
    |some (B,pd,r')=>jn (fun j=>br t (S4 P C X [] B (st.put s (.val (.bool true))) (Ah3 pd j)) (S4 P C X [] B (st.put s (.val (.bool false))) (Ah3 pd j)))
      (fun b=>S5 P C X n r' (stJ st B pd b) k)
    |none=>br t
     (match want with
      |true=>Bv P C X [] o.k o.dst (st.put s (.val (.bool true))) fun δ =>S5 P C X n r ((st.put s (.val (.bool true))).app δ) k
      |false=>S5 P C X n r ((st.put s (.val (.bool true))).app (dput o.dst (.tup []))) k)
     (match want with
      |false=>Bv P C X [] o.k o.dst (st.put s (.val (.bool false))) fun δ =>S5 P C X n r ((st.put s (.val (.bool false))).app δ) k
      |true=>S5 P C X n r ((st.put s (.val (.bool false))).app (dput o.dst (.tup []))) k)
   | .tup []=>S5 P C X n r (st.app (dput o.dst (.tup []))) k
   |_=>False
def PV.safe0(D:Nat→Bool):PV→Bool
 | .any=>true
 | .val _=>true
 | .lst _ _=>true
 | .loc d _=> !(D d)
 | .el d _ _ _=> !(D d)
 | .vw _ d _ _ _=> !(D d)
 | .mp d=> !(D d)
 | .arrO _=>true
 | .mapO _ _ _ _=>true
 |_=>false
def Ac5(s:PV→Bool):List PV→Bool
 | []=>true
 |p::r=>match s p with
  |true=>Ac5 s r
  |false=>false
def At5(s:PV→Bool):List (List PV)→Bool
 | []=>true
 |p::r=>match Ac5 s p with
  |true=>At5 s r
  |false=>false
def PV.safeUp(s:PV→Bool):PV→Bool
 | .agg l=>Ac5 s l
 | .tup l=>Ac5 s l
 | .ref l=>Ac5 s l
 | .clo _ _ l=>Ac5 s l
 | .sl _ _ _ es=>At5 s es
 |p=>s p
def PV.safe(D:Nat→Bool)(p:PV):Bool:=PV.safeUp (PV.safeUp (PV.safeUp (PV.safe0 D))) p
def PV.clean(D:Nat→Bool)(p:PV):PV:=match p.safe D with
 |true=>p
 |false=> .any
def A3y(d:Nat):List Nat→List Nat
 | []=> [d]
 |b::r=>match Nat.blt d b,Nat.beq d b with
  |true,_=>d::b::r
  |false,true=>b::r
  |false,false=>b::A3y d r
def Any:List Nat→List Nat
 | []=> []
 |d::r=>A3y d (Any r)
def Aaa(l:List (Nat×List PV)):List (Nat×List PV):=(Any (l.map Prod.fst)).map fun d=>(d,Hr [] l d)
def Ww(st:St):List Nat:=Any (st.ob.map Prod.fst)
def keep(keys live:List Nat)(st:St):St:=
 { fr:=keys.map fun s=>(s,(st.get s).clean fun d=>B7 d live),ob:=live.map fun d=>(d,(st.obj d).map fun p=>p.clean fun d=>B7 d live),base:=st.base }
def frF(st:St)(live:List Nat):List Nat→List (Nat×PV)
 | []=> []
 |s::r=>match (st.get s).clean fun d=>B7 d live with
  | .any=>frF st live r
  |p=>(s,p)::frF st live r
def Bax(keys live:List Nat)(st:St):St:=
 { fr:=frF st live keys,ob:=live.map fun d=>(d,(st.obj d).map fun p=>p.clean fun d=>B7 d live),base:=st.base }
def A4g(f:St→(Ex→St→Prop)→Prop)(keys live:List Nat)(k:Ex→St→Prop):Ex→St→Prop:=fun e st'=>match e with
 | .normal=>f (keep keys live st') k
 | .exit i=>k (.exit i) (keep keys live st')
 | .ret=>k .ret (keep keys live st')
def Bl(body:St→(Ex→St→Prop)→Prop)(keys live:List Nat):Nat→St→(Ex→St→Prop)→Prop
 |0,_,_=>False
 |n+1,st,k=>body st (A4g (Bl body keys live n) keys live k)
def o0(st:St):List (Nat×Nat)→Bool
 | []=>true
 |(a,b)::r=>match st.get a,st.get b with
  | .loc d _,.loc d' _=>match Nat.beq d d' with
   |true=>false
   |false=>o0 st r
  |_,_=>false
def Dl(f:St→(Ex→St→Prop)→Prop)(k:Ex→St→Prop):Ex→St→Prop:=fun e st'=>match e with
 | .normal=>f st' k
 | .exit i=>k (.exit i) st'
 | .ret=>k .ret st'
def Ca(id:Nat)(k:Ex→St→Prop):Ex→St→Prop:=fun e st'=>match e with
 | .exit i=>match Nat.beq i id with
  |true=>k .normal st'
  |false=>k (.exit i) st'
 | .normal=>k .normal st'
 | .ret=>k .ret st'
def evC(P:Program)(C:Bi)(X:Inl)(L:Nat):EC→St→(Ex→St→Prop)→Prop
 | .skip,st,k=>k .normal st
 | .region ban ap l,st,k=>match o0 st ap with
  |true=>S4 P C X (ban.map (st.base+ ·)) l st fun st'=>k .normal st'
  |false=>False
 | .regS l,st,k=>S5 P C X l.length l st fun st'=>k .normal st'
 | .seq a b,st,k=>evC P C X L a st (Dl (evC P C X L b) k)
 | .cond c a b,st,k=>match st.opd c with
  | .val (.bool t)=>br t (evC P C X L a st k) (evC P C X L b st k)
  |_=>False
 | .block id b,st,k=>evC P C X L b st (Ca id k)
 | .loop keys b,st,k=>Bl (evC P C X L b) keys (Ww st) L (keep keys (Ww st) st) k
 | .exit id,st,k=>k (.exit id) st
 | .ret,st,k=>k .ret st
 | .kp keys,st,k=>k .normal (Bax keys (Ww st) st)
 | .stop,_,_=>False
def Iy(P:Program)(t:Nat):Bool:=match P.underlying t with
 |some (.struct _)|some (.array _ _)=>true
 |_=>false
def Zw(P:Program)(t:Nat):Bool:=match P.underlying t with
 |some (.slice _)=>true
 |_=>false
def szT(P:Program)(t:Nat):Option Nat:=(P.info? t).map (·.size)
def Aqy(P:Program)(t:Nat):Option (List Value):=((P.info? t).bind (·.zero)).map fun v=>v.cells.toList
def Azt(P:Program)(t:Nat):Option (List (Nat×Nat)):=match P.underlying t with
 |some (.struct fs)=>fs.toList.mapM fun f=>(P.info? f.type).map fun i=>(f.offset,i.size)
 |some (.array n e)=>(P.info? e).map fun i=>(List.range n).map fun k=>(k*i.size,i.size)
 |_=>none
def Baf(P:Program):Nat→Nat→List (Option Nat)
 |0,_=> [none]
 |n+1,t=>match P.underlying t with
  |some (.slice e)=> [some e]
  |some (.struct fs)=>fs.toList.flatMap fun f=>Baf P n f.type
  |some (.array k e)=>(List.replicate k (Baf P n e)).flatten
  |_=> [none]
def A03:Option Nat→Value→PV
 |some e,.slice none 0 0=>match LX.nil e with
  |some x=> .lst true x
  |none=> .val (.slice none 0 0)
 |_,v=> .val v
def Ajx:List (Option Nat)→List Value→List PV
 |_,[]=> []
 | [],v::vs=> .val v::Ajx [] vs
 |o::os,v::vs=>A03 o v::Ajx os vs
def Agi:List Value→Bool
 | []=>true
 |v::r=>match Ahd v with
  |true=>Agi r
  |false=>false
def Af9(P:Program)(t:Nat):Option (List PV):=match Aqy P t with
 |some z=>match Agi z with
  |true=>some (Ajx (Baf P 8 t) z)
  |false=>none
 |none=>none
def A62(P:Program)(t:Nat)(g:Bool):Bool:=match (P.info? t).bind (·.zero) with
 |some (.agg _)=>g
 |some (.tuple _)=>false
 |some _=> !g
 |none=>false
def Ahg(fs:List (Nat×Nat)):List (Nat×Operand)→Option (List (Nat×Nat×Operand))
 | []=>some []
 |(i,x)::r=>match fs[i]?,Ahg fs r with
  |some (off,sz),some l=>some ((off,sz,x)::l)
  |_,_=>none
def Aa3(i:Nat):List (Nat×Operand)→Option (List Operand)
 | []=>some []
 |(j,x)::r=>match Nat.beq i j,Aa3 (i+1) r with
  |true,some l=>some (x::l)
  |_,_=>none
def Acw(P:Program)(t:Nat):Option Nat:=match P.underlying t with
 |some .bool=>some 0
 |some (.int _)=>some 1
 |some .string=>some 2
 |_=>none
def Adm(P:Program):List Field→Option (List (Nat×Nat))
 | []=>some []
 |f::r=>match f.name == "_",Acw P f.type,Adm P r with
  |false,some tag,some l=>some ((tag,f.offset)::l)
  |_,_,_=>none
def Am2:Nat→List (Nat×Nat)→Bool
 |_,[]=>true
 |k,(_,o)::r=>match Nat.beq o k with
  |true=>Am2 (k+1) r
  |false=>false
def Ahu(tag:Nat):List Nat→List (Nat×Nat)
 | []=> []
 |k::r=>(tag,k)::Ahu tag r
def t7(P:Program)(t:Nat):Option (List (Nat×Nat)):=match P.underlying t with
 |some (.struct fs)=>match P.stoodInHeld t,P.eqGuardType P.depth t with
  |false,false=>Adm P fs.toList
  |_,_=>none
 |some (.array n e)=>match Acw P e,Nat.beq (P.cellsOf e) 1 && (P.info? e).isSome,P.eqGuardType P.depth t with
  |some tag,true,false=>some (Ahu tag (List.range n))
  |_,_,_=>none
 |_=>none
def Acd(P:Program)(t:Nat):Option (Bool×List (Nat×Nat)):=match Acw P t with
 |some tag=>some (false,[(tag,0)])
 |none=>match t7 P t with
  |some (x::r)=>match Am2 0 (x::r) with
   |true=>some (true,x::r)
   |false=>none
  |_=>none
def Qd(P:Program)(f:Nat):Bool:=match P.funcs[f]? with
 |some fn=> !(fn.name == "runtime.NumGoroutine") && fn.body.isSome
 |none=>false
def Aye:Operand→Bool
 | .const (.slice none 0 0)=>true
 |_=>false
def Boy(P:Program)(t:Nat):Option Nat:=match P.underlying t with
 |some (.slice e)=>match LX.nil e with
  |some _=>some e
  |none=>none
 |_=>none
def A28(s:Nat):List Operand→Nat
 | []=>0
 | .tmp t::r=>match Nat.beq s t with
  |true=>1+A28 s r
  |false=>A28 s r
 |_::r=>A28 s r
def A29(s:Nat):List Oper→Nat
 | []=>0
 |o::r=>A28 s o.op.operands.toList+A29 s r
def Axz(s:Nat):Code→Nat
 | .region _ os _=>A29 s os.toList
 | .seq a b=>Axz s a+Axz s b
 | .cond c a b=>A28 s [c]+Axz s a+Axz s b
 | .block _ b=>Axz s b
 | .loop b=>Axz s b
 | .skip=>0
 | .exit _=>0
 | .ret=>0
 |_=>2
def Ar3(s:Nat):List Oper→Bool
 | []=>false
 |o::r=>match o.op with
  | .call { callee:= .builtin .append,args,argTypes:=_ } =>match args.toList with
   | .tmp t::_=>match Nat.beq s t with
    |true=>true
    |false=>Ar3 s r
   |_=>Ar3 s r
  |_=>Ar3 s r
def Axw(s:Nat):Code→Bool
 | .region _ os _=>Ar3 s os.toList
 | .seq a b=>match Axw s a with
  |true=>true
  |false=>Axw s b
 | .cond _ a b=>match Axw s a with
  |true=>true
  |false=>Axw s b
 | .block _ b=>Axw s b
 | .loop b=>Axw s b
 |_=>false
def Ba6(c:Code):Nat→Nat
 |0=>0
 |n+1=>(match Nat.beq (Axz n c) 1,Axw n c with
  |true,true=>(1 <<< (2*n)) ||| (1 <<< (2*n+1))
  |true,false=>1 <<< (2*n)
  |_,_=>0) ||| Ba6 c n
def At6:Operand→Operand→Bool
 | .tmp a,.tmp b=>Nat.beq a b
 | .const (.int .i64 a),.const (.int .i64 b)=>decide (a=b)
 |_,_=>false
def Au4:Operand→Bool
 | .const (.int .i64 a)=>decide (a=0)
 |_=>false
def A2a(P:Program)(x:Operand)(ty:Nat)(k:K):K:=match Aye x,Boy P ty with
 |true,some e=> .nilsl e
 |_,_=>k
def Aqv(P:Program)(ty:Nat)(x:Operand):K:=match Zw P ty,x with
 |true,.tmp s=> .take s
 |_,x=> .move x
def Ap9(P:Program)(once ty:Nat)(dst:Option Nat)(x:Operand):K:=match Zw P ty,x,dst with
 |true,.tmp s,some d=>match Nat.testBit once (2*d+1) with
  |true=> .take s
  |false=> .move (.tmp s)
 |_,x,_=> .move x
def Awo(P:Program)(once t:Nat)(dst:Option Nat)(g:Bool)(sz:Nat)(x:Operand):K:=match Zw P t,dst with
 |true,some s=>match Nat.testBit once (2*s+1) with
  |true=> .loadT x
  |false=> .load g sz x
 |_,_=> .load g sz x
def Ay1(P:Program)(once t sz:Nat)(a x:Operand):K:=match Zw P t,x with
 |true,.tmp s=>match Nat.testBit once (2*s),Nat.beq sz 1 with
  |true,true=> .storeT a s
  |_,_=> .store sz a x
 |_,_=> .store sz a x
def cOp(P:Program)(inl:Nat→Bool)(once:Nat)(o:Oper):K:=
 match o.op with
 | .move x=>A2a P x o.type (Ap9 P once o.type o.dst x)
 | .assign x=>A2a P x o.type (Aqv P o.type x)
 | .pick c a b=> .pick c a b
 | .alloc t=>match Af9 P t with
  |some z=> .alloc z
  |none=> .stop
 | .box _ x=> .box x
 | .build t parts=>match Af9 P t,Azt P t with
  |some z,some fs=>match Ahg fs parts.toList with
   |some l=> .build z l
   |none=> .stop
  |_,_=> .stop
 | .buildSlice t n parts=>match P.underlying t with
  |some (.slice e)=>match szT P e,Aqy P e,Aa3 0 parts.toList with
   |some sz,some z,some l=>match Nat.beq l.length n,Nat.ble (n*sz) 16777216,Nat.beq z.length sz,Nat.ble 1 sz with
    |true,true,true,true=> .bslice e sz l
    |_,_,_,_=> .stop
   |_,_,_=> .stop
  |_=> .stop
 | .load t x=>match P.underlying t,szT P t with
  |some _,some sz=>match Iy P t,Nat.beq sz 1 with
   |false,false=> .stop
   |false,true=>Awo P once t o.dst false sz x
   |true,_=>Awo P once t o.dst true sz x
  |_,_=> .stop
 | .store t a x=>match o.dst,szT P t with
  |none,some sz=>Ay1 P once t sz a x
  |_,_=> .stop
 | .fieldAddr t x f=>match P.underlying t with
  |some (.struct fs)=>match fs[f]? with
   |some fd=>match szT P fd.type with
    |some (_+1)=> .field fd.offset x
    |_=> .stop
   |none=> .stop
  |_=> .stop
 | .indexAddr t x i=>match P.underlying t with
  |some (.slice e)=>match szT P e with
   |some sz=> .index sz x i
   |none=> .stop
  |_=> .stop
 | .extract x i=> .extract x i
 | .nilCheck x=> .nil x
 | .makeFunc (.func f) first caps=>match Qd P f with
  |true=> .mkfn f first.size (first.toList++caps.toList)
  |false=> .stop
 | .makeSlice t l c=>match P.underlying t with
  |some (.slice e)=>match P.info? e,szT P e,Af9 P e with
   |some i,some sz,some z=>match Nat.beq z.length sz,Nat.ble 1 sz,At6 l c,Au4 l with
    |true,true,true,_=> .mksl e sz i.bytes z l
    |true,true,false,true=> .mkcap e sz i.bytes c
    |_,_,_,_=> .stop
   |_,_,_=> .stop
  |_=> .stop
 | .slice t x lo hi mx=>match P.underlying t with
  |some .string=>match mx with
   |none=> .sstr x lo hi
   |some _=> .stop
  |some (.slice e)=>match szT P e,(match mx,hi with|some _,none=>false|_,_=>true) with
   |some sz,true=> .slc sz x lo hi mx
   |_,_=> .stop
  |_=> .stop
 | .makeMap t none=>match P.underlying t with
  |some (.map ek ev)=>match LX.nil ek,LX.nil ev with
   |some x,some y=> .mkmap (Iy P ek) (Iy P ev) x y
   |_,_=> .stop
  |_=> .stop
 | .lookup t m q ok=>match P.underlying t with
  |some (.map ek ev)=>match Acd P ek,Af9 P ev with
   |some (gq,ts),some z=>match A62 P ev (Iy P ev) with
    |true=> .lookup gq ts ok (Iy P ev) z m q
    |false=> .stop
   |_,_=> .stop
  |_=> .stop
 | .mapUpdate t m q v=>match P.underlying t,o.dst with
  |some (.map ek ev),none=>match Acd P ek with
   |some (gq,ts)=> .mapup gq ts m q v
   |none=> .stop
  |_,_=> .stop
 | .call { callee:= .value (.func f),args,argTypes:=_ } =>match Qd P f with
  |true=>match inl f with
   |true=> .icall f args.toList
   |false=> .call f args.toList
  |false=> .stop
 | .call { callee:= .value (.tmp x),args,argTypes:=_ } => .callv (.tmp x) args.toList
 | .call { callee:= .builtin .len,args,argTypes } =>match args.toList,argTypes.toList with
  | [x],[t]=>match Zw P t with
   |true=> .len x
   |false=> .scal o
  |_,_=> .stop
 | .call { callee:= .builtin .cap,args,argTypes } =>match args.toList,argTypes.toList with
  | [x],[t]=>match Zw P t with
   |true=> .cap x
   |false=> .stop
  |_,_=> .stop
 | .call { callee:= .builtin .append,args,argTypes } =>match args.toList,argTypes.toList with
  | [.tmp s,x],[t,t']=>match Nat.beq t t',P.underlying t with
   |true,some (.slice e)=>match P.info? e with
    |some i=>match i.zero with
     |some z=>match Nat.beq z.cells.size i.size,Nat.ble 1 i.size with
      |true,true=> .app e i.size i.bytes s x
      |_,_=> .stop
     |none=> .stop
    |none=> .stop
   |_,_=> .stop
  |_,_=> .stop
 | .call { callee:= .builtin .min,args:=_,argTypes:=_ } | .call { callee:= .builtin .max,args:=_,argTypes:=_ } => .scal o
 | .binOp b t x y _=>match Iy P t with
  |false=>match b,P.underlying t with
   | .quo,some (.int _)=> .bin2 0 x y
   | .rem,some (.int _)=> .bin2 1 x y
   | .shl,some (.int _)=> .bin2 2 x y
   | .shr,some (.int _)=> .bin2 3 x y
   | .add,some .string=> .bin2 4 x y
   |_,_=> .scal o
  |true=>match b,t7 P t with
   | .eql,some ts=> .eqA false ts x y
   | .neq,some ts=> .eqA true ts x y
   |_,_=> .stop
 | .unOp .. | .convert .. => .scal o
 | .index t x i=>match P.underlying t with
  |some .string=> .bin2 5 x i
  |_=> .stop
 |_=> .stop
def Adb(os:Array Oper):Option (Nat×Bool)→Option (Option (Nat×Bool))
 |none=>some none
 |some (j,w)=>match (os[j]?).bind (·.dst) with
  |some s=>some (some (s,w))
  |none=>none
def Avl(P:Program)(inl:Nat→Bool)(once:Nat)(os:Array Oper):List Oper→Option (List Jv)
 | []=>some []
 |o::r=>match Adb os o.guard,Avl P inl once os r with
  |some g,some l=>some (⟨o.dst,g,cOp P inl once o⟩::l)
  |_,_=>none
def K.heapy:K→Bool
 | .alloc _| .box _| .load .. | .loadT .. | .store .. | .storeT .. | .call .. | .icall .. | .callv .. | .mksl .. | .mkmap .. | .lookup .. | .mapup .. | .del .. =>true
 |_=>false
def K.isStore:K→Bool
 | .store .. | .storeT .. | .loadT .. | .icall .. | .callv .. | .mapup .. | .del .. =>true
 |_=>false
def K.wild:K→Bool
 | .icall .. | .callv .. =>true
 |_=>false
def K.makes:K→Bool
 | .alloc _| .box _| .mksl .. | .mkmap .. =>true
 |_=>false
def f8:List Operand→List Nat
 | []=> []
 | .tmp t::r=>t::f8 r
 |_::r=>f8 r
def Ayk:Option Operand→List Operand
 |some x=> [x]
 |none=> []
def K.opds:K→List Operand
 | .move x| .box x| .load _ _ x| .loadT x| .field _ x| .len x| .cap x| .extract x _| .nil x| .aidx _ _ _ x=> [x]
 | .take s=> [.tmp s]
 | .pick c a b=> [c,a,b]
 | .alloc _| .nilsl _| .mkmap .. | .stop=> []
 | .build _ ps=>ps.map fun p=>p.2.2
 | .bslice _ _ ps=>ps
 | .store _ a x| .index _ a x| .eqA _ _ a x| .bin2 _ a x| .del a x| .lookup _ _ _ _ _ a x=> [a,x]
 | .storeT a s=> [a,.tmp s]
 | .mapup _ _ m q v=> [m,q,v]
 | .scal o=>o.op.operands.toList
 | .app _ _ _ s x=> [.tmp s,x]
 | .call _ args| .icall _ args| .mkfn _ _ args=>args
 | .callv x args=>x::args
 | .mksl _ _ _ _ n| .mkcap _ _ _ n=> [n]
 | .slc _ x lo hi mx=>x::(Ayk lo++Ayk hi++Ayk mx)
 | .sstr x lo hi=>x::(Ayk lo++Ayk hi)
def Jv.reads(o:Jv):List Nat:=f8 o.k.opds++(match o.g with|some (s,_)=> [s]|none=> [])
def Jv.writes(o:Jv):List Nat:=(match o.dst with|some d=> [d]|none=> [])++(match o.k with| .take s=> [s]| .app _ _ _ s _=> [s]| .storeT _ s=> [s]|_=> [])
def Abf(a b:List Nat):Bool:=a.any fun x=>b.any fun y=>Nat.beq x y
def K.addr:K→Option Nat
 | .load _ _ (.tmp a)=>some a
 | .loadT (.tmp a)=>some a
 | .store _ (.tmp a) _=>some a
 | .storeT (.tmp a) _=>some a
 |_=>none
def Zv(a b:Nat):List (Nat×Nat)→Bool
 | []=>false
 |(c,d)::r=>(Nat.beq a c && Nat.beq b d) || (Nat.beq a d && Nat.beq b c) || Zv a b r
def U8(ap:List (Nat×Nat))(x y:Jv):Bool:=match x.k.addr,y.k.addr with
 |some a,some b=>Zv a b ap
 |_,_=>false
def K.isLoad:K→Bool
 | .load .. =>true
 |_=>false
def K.isTake:K→Bool
 | .loadT _=>true
 |_=>false
def Ak5(fx:Bool)(x:K)(fy:Bool)(y:K):Bool:=((x.isTake || fx) && y.isLoad) || (x.isLoad && (y.isTake || fy))
def T3(ap:List (Nat×Nat))(fx:Bool)(x:Jv)(fy:Bool)(y:Jv):Bool:=
 Abf x.writes y.reads || Abf x.writes y.writes || Abf x.reads y.writes || (((x.k.isStore && y.k.heapy) || (x.k.heapy && y.k.isStore)) && !U8 ap x y && !Ak5 fx x.k fy y.k)
def Si(a:Nat):List Jv→Bool
 | []=>true
 |e::r=>match B7 a e.writes with
  |true=>Si a r
  |false=>false
def Ar1:List Jv→List Nat
 | []=> []
 |e::r=>match e.k.addr with
  |some a=>a::Ar1 r
  |none=>Ar1 r
def Ahe(l:List Jv)(a:Nat):List Nat→List (Nat×Nat)
 | []=> []
 |b::r=>match Nat.beq a b,Si b l with
  |false,true=>(a,b)::Ahe l a r
  |_,_=>Ahe l a r
def Ahr(l:List Jv):List Jv→List (Nat×Nat)
 | []=> []
 |e::r=>match e.k.isStore,e.k.addr with
  |true,some a=>match Si a l with
   |true=>Ahe l a (Ar1 l)++Ahr l r
   |false=>Ahr l r
  |_,_=>Ahr l r
def Zo(l:List Jv):List (Nat×Nat)→Bool
 | []=>true
 |(a,b)::r=>Si a l && Si b l && Zo l r
def Xt(o:Oper):List Nat:=(o.after.toList.filter fun e=>Region.binds .any e).map (·.on)
def Al5(acc:List Nat):List Nat→Nat
 | []=>0
 |e::r=>(1 <<< e) ||| (acc.getD e 0) ||| Al5 acc r
def A7b:List Oper→List Nat→List Nat
 | [],acc=>acc
 |o::r,acc=>A7b r (acc++ [Al5 acc (Xt o)])
def below(n:Nat)(p:Nat→Bool):Bool:=match n with
 |0=>true
 |n+1=>match p n with
  |true=>below n p
  |false=>false
def Jv.mkAt(a:Nat)(e:Jv):Bool:=match e.k,e.g,e.dst with
 | .alloc _,none,some d=>Nat.beq d a
 | .box _,none,some d=>Nat.beq d a
 |_,_,_=>false
def Bq1(l:List Jv)(a k:Nat):Bool:=below l.length fun j=>Nat.beq j k || (match l[j]? with|some e=>B7 a e.writes|none=>true)
def De(l:List Jv)(j:Nat):Bool:=match l[j]? with
 |some e=>e.k.isStore && !e.k.isTake && (match e.k.addr with
  |some a=> !(below j fun k=> !(match l[k]? with|some e'=>e'.mkAt a && Bq1 l a k|none=>false))
  |none=>false)
 |none=>false
def A59(ap:List (Nat×Nat))(l:List Jv)(A:List Nat)(i j:Nat):Bool:=match l[i]?,l[j]? with
 |some x,some y=>match T3 ap (De l i) x (De l j) y with
  |true=>Nat.testBit (A.getD j 0) i
  |false=>true
 |_,_=>true
def t6(j:Nat):List Nat→Bool
 | []=>true
 |e::r=>match Nat.blt e j with
  |true=>t6 j r
  |false=>false
def Adk(ap:List (Nat×Nat))(os:List Oper)(l:List Jv):Bool:=
 Zo l ap && below os.length fun j=>below j (fun i=>A59 ap l (A7b os []) i j) && (match os[j]? with|some o=>t6 j (Xt o)|none=>true)
def Aa5(nt:Nat):List Jv→Bool
 | []=>true
 |o::r=>match o.dst with
  |some d=>match Nat.blt d nt with
   |true=>Aa5 nt r
   |false=>false
  |none=>Aa5 nt r
def Bd8(d:Nat)(l:List Nat):List Nat:=match B7 d l with
 |true=>l++ [d]
 |false=>l
def A01:List Oper→List Nat→List Nat
 | [],l=>l
 |o::r,l=>A01 r (match o.op,o.dst with
  | .assign _,some d=>Bd8 d l
  | .alloc _,some d=>Bd8 d l
  | .box _ _,some d=>Bd8 d l
  |_,_=>l)
def Yz:Code→List Nat→List Nat
 | .region _ os _,l=>A01 os.toList l
 | .seq a b,l=>Yz b (Yz a l)
 | .cond _ a b,l=>Yz b (Yz a l)
 | .block _ b,l=>Yz b l
 | .loop b,l=>Yz b l
 |_,l=>l
def Al7:List Oper→List Nat
 | []=> []
 |o::r=>match o.op,o.dst with
  | .move _,some d=>d::Al7 r
  |_,_=>Al7 r
def Vs:Code→List Nat
 | .region _ os _=>Al7 os.toList
 | .seq a b=>Vs a++Vs b
 | .cond _ a b=>Vs a++Vs b
 | .block _ b=>Vs b
 | .loop b=>Vs b
 |_=> []
def Ax1:List Nat→List Nat
 | []=> []
 |d::r=>match B7 d r with
  |true=>Ax1 r
  |false=>d::Ax1 r
def W8:List Jv→List Nat
 | []=> []
 |o::r=>match o.k.makes,o.dst with
  |true,some d=>d::W8 r
  |_,_=>W8 r
def Ap8:List Nat→Nat
 | []=>0
 |s::r=>(1 <<< s) ||| Ap8 r
def Ba0:List Oper→Nat
 | []=>0
 |o::r=>Ap8 (f8 o.op.operands.toList) ||| (match o.dst with|some d=>1 <<< d|none=>0) ||| Ba0 r
def Vm:Code→Nat
 | .region _ os _=>Ba0 os.toList
 | .seq a b=>Vm a ||| Vm b
 | .cond c a b=>Ap8 (f8 [c]) ||| Vm a ||| Vm b
 | .block _ b=>Vm b
 | .loop b=>Vm b
 |_=>0
def A0v:List ResultVar→Nat
 | []=>0
 | .tmp t::r=>(1 <<< t) ||| A0v r
 | .cell t _::r=>(1 <<< t) ||| A0v r
def Ayu:List ResultVar→List Nat
 | []=> []
 | .tmp t::r=>t::Ayu r
 | .cell t _::r=>t::Ayu r
def Aln(nt:Nat)(V:List Nat)(out body:Nat):List Nat:=
 (List.range nt).filter fun s=>Nat.testBit out s && (Nat.testBit body s || !(B7 s V))
def A0y:Code→Bool
 | .exit _=>true
 | .ret=>true
 | .skip=>true
 |_=>false
def Boc(nt m:Nat):List Nat:=(List.range nt).filter fun s=>Nat.testBit m s
def Zq(P:Program)(inl:Nat→Bool)(once nt:Nat)(V:List Nat)(out lt:Nat):Code→EC
 | .skip=> .skip
 | .region _ os d=>match Avl P inl once os os.toList with
  |some l=>match Aa5 nt l with
   |true=>match d with
    |true=>match Adk [] os.toList l with
     |true=> .region (W8 l) [] l
     |false=>match Adk (Ahr l l) os.toList l with
      |true=> .region (W8 l) (Ahr l l) l
      |false=> .stop
    |false=> .regS l
   |false=> .stop
  |none=> .stop
 | .seq a b=> .seq (Zq P inl once nt V (out ||| Vm b) (lt ||| Vm b) a) (match A0y b with
  |true=>Zq P inl once nt V (out ||| Vm a) lt b
  |false=> .seq (.kp (Boc nt (lt ||| Vm b))) (Zq P inl once nt V (out ||| Vm a) lt b))
 | .cond c a b=> .cond c (Zq P inl once nt V (out ||| Vm b ||| Ap8 (f8 [c])) lt a) (Zq P inl once nt V (out ||| Vm a ||| Ap8 (f8 [c])) lt b)
 | .block id b=> .block id (Zq P inl once nt V out lt b)
 | .loop b=> .loop (Aln nt V out (Vm b)) (Zq P inl once nt (V++Aln nt V out (Vm b)) out (lt ||| Vm b) b)
 | .exit id=> .exit id
 | .ret=> .ret
 |_=> .stop
def C4(P:Program)(inl:Nat→Bool)(fn:Func):Option EC:=match fn.body with
 |some c=>some (Zq P inl (Ba6 c fn.ntmps) fn.ntmps (Yz c (List.range fn.params.size++Ayu fn.results.toList++Ax1 (Vs c))) (Ap8 (List.range fn.params.size) ||| A0v fn.results.toList) (A0v fn.results.toList) c)
 |none=>none
def Ahj(sz:Nat):Nat→List PV→List (List PV)
 |0,_=> []
 |n+1,l=>l.take sz::Ahj sz n (l.drop sz)
def PV.fin1(O:Nat→List PV)(p:PV):PV:=match p with
 | .vw c d e sz n=>match c,O d with
  |false,[.arrO x]=>match Nat.beq sz x.sz with
   |true=> .lst false x
   |false=> .any
  |true,cs=>match LX.lit e (Ahj sz n (cs.map PV.pure0)),Wv cs (n*sz) && R4 cs with
   |some x,true=>match Nat.beq sz x.sz with
    |true=> .lst false x
    |false=> .any
   |_,_=> .any
  |_,_=> .any
 |p=>p.pure0
def PV.fin(O:Nat→List PV):PV→PV
 | .agg l=> .agg (l.map (PV.fin1 O))
 | .tup l=> .tup (l.map (PV.fin1 O))
 | .sl _ e sz es=> .sl false e sz (es.map fun r=>r.map PV.pure0)
 |p=>p.fin1 O
def Tr(P:Program)(st:St):List ResultVar→(List PV→Prop)→Prop
 | [],k=>k []
 | .tmp t::r,k=>Tr P st r fun l=>k (st.get t::l)
 | .cell a t::r,k=>match st.get a,szT P t,P.underlying t with
  | .loc b off,some sz,some _=>match Iy P t,Nat.beq sz 1,T4 ((st.obj b).drop off) sz && R4 (((st.obj b).drop off).take sz) with
   |true,_,true=>Tr P st r fun l=>k (.agg (((st.obj b).drop off).take sz)::l)
   |false,true,true=>Tr P st r fun l=>k (mkP false (((st.obj b).drop off).take sz)::l)
   |_,_,_=>False
  |_,_,_=>False
def Z3(i:Nat):List PV→List (Nat×PV)
 | []=> []
 |p::r=>(i,p.view)::Z3 (i+1) r
def Aa9(O:Nat→List PV)(k:PV→Prop):List PV→Prop
 | [r]=>k (r.fin O)
 |l=>k (.tup (l.map (PV.fin O)))
def Dx(P:Program)(rs:List ResultVar)(k:PV→Prop):Ex→St→Prop:=fun e st=>match e with
 | .exit _=>False
 | .normal=>Tr P st rs (Aa9 st.obj k)
 | .ret=>Tr P st rs (Aa9 st.obj k)
def Asp(ob:List (Nat×List PV))(k:PV→List (Nat×List PV)→Prop):List PV→Prop
 | [r]=>k r ob
 |l=>k (.tup (l.map PV.view)) ob
def Acy(P:Program)(rs:List ResultVar)(k:PV→List (Nat×List PV)→Prop):Ex→St→Prop:=fun e st=>match e with
 | .exit _=>False
 | .normal=>Tr P st rs (Asp (Aaa st.ob) k)
 | .ret=>Tr P st rs (Asp (Aaa st.ob) k)
def Atb:List (Nat×List PV)→Nat
 | []=>0
 |(d,_)::r=>match Nat.ble (Atb r) d with
  |true=>d+1
  |false=>Atb r
def Bav(e b:Nat)(args:List PV)(k:PV→List (Nat×List PV)→Prop):Prop:=match args,LX.nil e with
 | [.val (.slice none 0 0),.val (.int .i64 m)],some x=>gd (0≤m) (gd (m*(b:Int)≤140737488355328) (gd (m≤(4611686018427387904:Int)) (k (.lst true x) [])))
 |_,_=>False
def evB(P:Program)(inl:Nat→Bool)(G:Nat→Option (Nat×Nat))(C:Bi)(L:Nat)(X:Inl):Inl:=fun f args ob k=>match G f with
  |some (e,b)=>Bav e b args k
  |none=>match inl f with
  |true=>match P.funcs[f]? with
   |some fn=>match C4 P inl fn,Nat.ble args.length fn.ntmps,Qd P f with
    |some ec,true,true=>evC P C X L ec { fr:=Z3 0 args,ob:=ob,base:=Atb ob } (Acy P fn.results.toList k)
    |_,_,_=>False
   |none=>False
  |false=>match Qd P f with
   |true=>C f (args.map (Aux (Hr [] ob))) fun r=>k r.view []
   |false=>False
def Av6(P:Program)(inl:Nat→Bool)(G:Nat→Option (Nat×Nat))(C:Bi)(L:Nat):Nat→Inl
 |0,_,_,_,_=>False
 |n+1,f,args,ob,k=>evB P inl G C L (Av6 P inl G C L n) f args ob k
noncomputable def YoS(P:Program)(inl:Nat→Bool)(G:Nat→Option (Nat×Nat))(C:Bi)(L:Nat): { Y:Nat→Inl // Y=Av6 P inl G C L } :=Classical.choice ⟨⟨Av6 P inl G C L,rfl⟩⟩
noncomputable def Yo(P:Program)(inl:Nat→Bool)(G:Nat→Option (Nat×Nat))(C:Bi)(L:Nat):Nat→Inl:=(YoS P inl G C L).1
noncomputable def evI(P:Program)(inl:Nat→Bool)(G:Nat→Option (Nat×Nat))(J:Nat→Bool)(C:Bi)(L:Nat):Nat→Inl
 |0,_,_,_,_=>False
 |n+1,f,args,ob,k=>match J f with
  |true=>Yo P inl G C L (n+1) f args ob k
  |false=>evB P inl G C L (evI P inl G J C L n) f args ob k
theorem Bap(P:Program)(inl:Nat→Bool)(G:Nat→Option (Nat×Nat))(C:Bi)(L:Nat):Yo P inl G C L=Av6 P inl G C L:=(YoS P inl G C L).2
theorem Ax5(P:Program)(inl:Nat→Bool)(G:Nat→Option (Nat×Nat))(J:Nat→Bool)(C:Bi)(L:Nat):∀n,evI P inl G J C L n=Av6 P inl G C L n
 |0=>rfl
 |n+1=>by
  funext f args ob k
  simp only [evI,Av6,Bap,Ax5 P inl G J C L n]
  cases J f<;>rfl
theorem Zn(P:Program)(inl:Nat→Bool)(G:Nat→Option (Nat×Nat))(J:Nat→Bool)(C:Bi)(L n f:Nat)(args:List PV)(ob:List (Nat×List PV))(k:PV→List (Nat×List PV)→Prop):
  Yo P inl G C L (n+1) f args ob k=evB P inl G C L (evI P inl G J C L n) f args ob k:=by
 rw [Bap,Ax5];rfl
def A71(P:Program)(C:Bi)(X:Inl)(L:Nat)(rs:List ResultVar)(ec:EC)(args:List PV)(k:PV→Prop):Prop:=
 evC P C X L ec { fr:=Z3 0 args,ob:= [],base:=0 } (Dx P rs k)
end Go.Proofs.YtcbandfdmbkokaaGreat.Ev
