/-  An evaluator of translated code on data without memory: definitions. -/
import Derived.Test.YtgacplpjamkieaaGreatZFA
set_option linter.unusedVariables false
set_option linter.unusedSimpArgs false
set_option linter.unnecessarySimpa false
namespace Go.Proofs.YtgacplpjamkieaaGreat.Ev
open Go
structure SV where
 own:Bool
 e:Nat
 sz:Nat
 n:Nat
 f:Nat->List PV
def PV.sv:PV->Option SV
 | .sl own e sz es=>some ⟨own,e,sz,es.length,λi=>es.getD i []⟩
 | .aV own x=>some ⟨own,x.e,x.sz,x.len,x.row⟩
 |_=>none
def PV.eG:PV->Option SV
 | .bI (p::_)=>p.sv
 |p=>p.sv
def ohd:PV->Value->Value
 | .bI _,v=>match v with
  | .tuple cs=>cs.getD 0 undef
  |v=>v
 |_,v=>v
def Bbb:List PV->List PV
 | []=> []
 |p::r=>p::r.map PV.view
structure St where
 fr:List (Nat×PV)
 ob:List (Nat×List PV)
 base:Nat
structure Cy where
 s:List (Nat×PV)
 o:List (Nat×List PV)
def C1{α :Type}(d: α):List (Nat×α)->Nat->α
 | [],_=>d
 |(a,x)::r,s=>match Nat.beq a s with
  |true=>x
  |false=>C1 d r s
def Aw(d:Nat):List Nat->Bool
 | []=>true
 |a::r=>match Nat.beq a d with
  |true=>false
  |false=>Aw d r
def rem(K:List Nat):List (Nat×List PV)->List (Nat×List PV)
 | []=> []
 |(d,l)::r=>match Aw d K with
  |true=>(d,l)::rem K r
  |false=>rem K r
def A0m(o:List (Nat×List PV))(l:List (Nat×List PV)):List (Nat×List PV):=match o with
 | []=>l
 | [x]=>x::l
 |x::y::r=>(x::y::r)++rem ((x::y::r).map Prod.fst) l
def St.app(st:St)(δ :Cy):St:= { fr:= δ.s++st.fr,ob:=A0m δ.o st.ob,base:=st.base }
def St.get(st:St)(s:Nat):PV:=C1 .any st.fr s
def St.put(st:St)(s:Nat)(p:PV):St:= { st with fr:=(s,p)::st.fr }
def St.obj(st:St)(d:Nat):List PV:=C1 [] st.ob d
def St.vobj(st:St)(d:Nat):List PV:=(st.obj d).map PV.view
def Arq:Value->Bool
 | .agg _| .tuple _=>false
 |_=>true
def Ayi:List (Nat×LX)->Nat->Option LX
 | [],_=>none
 |(a,x)::r,g=>match Nat.beq a g with
  |true=>some x
  |false=>Ayi r g
def St.aQ(st:St):Operand->PV
 | .tmp t=>st.get t
 | .global g=>match Ayi GL g with
  |some x=>.ref [.aV false x]
  |none=>.any
 | .const v=>match Arq v with
  |true=>.val v
  |false=>.any
 | .func f=>.bK f 0 []
def PV.cells:PV->List PV
 | .agg l=>l
 |p=> [p]
def PV.one:PV->Bool
 | .val v=>Arq v
 | .sl _ _ _ _=>true
 | .aV _ _=>true
 | .loc _ _=>true
 | .el _ _ _ _=>true
 | .vw _ _ _ _ _=>true
 | .mp _=>true
 | .bK _ _ _=>true
 |_=>false
def Zt:List PV->Bool
 | []=>true
 |p::r=>match p.one with
  |true=>Zt r
  |false=>false
inductive K where
 |move (x:Operand)
 |fT (e:Nat)
 |take (x:Nat)
 |pick (c a b:Operand)
 |alloc (zero:List PV)
 |box (x:Operand)
 |build (zero:List PV) (parts:List (Nat×Nat×Operand))
 |eX (e sz:Nat) (parts:List Operand)
 |load (agg:Bool) (sz:Nat) (x:Operand)
 |loadT (x:Operand)
 |store (sz:Nat) (a x:Operand)
 |storeT (a:Operand) (s:Nat)
 |dP (o:Oper)
 |gW (neg:Bool) (ts:List (Nat×Nat)) (x y:Operand)
 |dJ (tag:Nat) (x y:Operand)
 |field (off:Nat) (x:Operand)
 |index (sz:Nat) (x i:Operand)
 |len (x:Operand)
 |cap (x:Operand)
 |app (e sz by_:Nat) (s:Nat) (x:Operand)
 |clone (cm:Bool) (e sz by_:Nat) (s:Nat) (x:Operand)
 |call (f:Nat) (args:List Operand)
 |fJ (f:Nat) (args:List Operand)
 |fI (x:Operand) (args:List Operand)
 |gQ (f n:Nat) (caps:List Operand)
 |extract (x:Operand) (i:Nat)
 |nil (x:Operand)
 |gH (e sz by_:Nat) (z:List PV) (n:Operand)
 |fZ (e sz by_:Nat) (n:Operand)
 |iA (sz:Nat) (x:Operand) (lo hi mx:Option Operand)
 |gN (x:Operand) (lo hi:Option Operand)
 |fP (gk gv:Bool) (ks vs:LX)
 |lookup (gq:Bool) (ts:List (Nat×Nat)) (ok g:Bool) (z:List PV) (m k:Operand)
 |fH (gq:Bool) (ts:List (Nat×Nat)) (m k v:Operand)
 |del (gq:Bool) (ts:List (Nat×Nat)) (m k:Operand)
 |gT (off sz:Nat) (g:Bool) (x:Operand)
 |ext (sub:Bool) (x y c:Operand)
 |fQ (f:Nat) (args:List Operand)
 |dZ (f:Nat) (args:List Operand) (s:Nat)
 |gL (x:Operand)
 |fG (f:Nat) (args:List Operand)
 |dU (s:Nat)
 |fC (near:Bool) (r:Nat) (agg:Bool) (sz:Nat) (x:Operand)
 |eT (r sz:Nat) (a x:Operand)
 |gG (cm:Bool) (e sz:Nat) (parts:List Operand)
 |gF (cm:Bool) (e sz by_:Nat) (s:Nat) (x:Operand)
 |stop
structure Ht where
 dst:Option Nat
 g:Option (Nat×Bool)
 k:K
inductive EC where
 |skip
 |region (ban:List Nat) (ap:List (Nat×Nat)) (ops:List Ht)
 |gP (ops:List Ht)
 |seq (a b:EC)
 |cond (c:Operand) (a b:EC)
 |block (id:Nat) (b:EC)
 |loop (keys:List Nat) (b:EC)
 |exit (id:Nat)
 |ret
 |kp (keys:List Nat)
 |iD (ts:List Nat)
 |fV (keys:List Nat) (b:EC)
 |iC (ts:List Nat)
 |iB (pre:List Ht) (m:Operand) (it nx more pair:Nat) (keys:List Nat) (asg:List Ht) (b:EC) (n:Nat)
 |stop
inductive Ex where
 |normal|exit (id:Nat)|ret
def Apd{α :Type}(P:Program):Sem α->(α->Prop)->Prop
 | .pure a,k=>k a
 | .program f,k=>Apd P (f P) k
 |_,_=>False
abbrev Bj:=Nat->List PV->(PV->Prop)->Prop
abbrev Inl:=Nat->List PV->List (Nat×List PV)->(PV->List (Nat×List PV)->Prop)->Prop
def gd(p:Prop) [d:Decidable p](k:Prop):Prop:=match d with
 | .isTrue _=>k
 | .isFalse _=>False
theorem Ax(p:Prop) [d:Decidable p](k:Prop):gd p k=(p/\k):=by
 unfold gd;cases d with
 |isTrue h=>exact propext ⟨λhk=>⟨h,hk⟩,λhk=>hk.2⟩
 |isFalse h=>exact propext ⟨λhk=>hk.elim,λhk=>h hk.1⟩
def Bfq(b:Bool)(p:Prop) [Decidable p](k:Prop):Prop:=match b with
 |true=>gd p k
 |false=>k
theorem Aoh(b:Bool)(p:Prop) [Decidable p](k:Prop):Bfq b p k=((b=true->p)/\k):=by
 cases b with
 |true=>simp only[Bfq,Ax,forall_const]
 |false=>simp[Bfq]
def br(t:Bool)(A B:Prop):Prop:=match t with
 |true=>A
 |false=>B
def fk(r:Option Nat)(A:Nat->Prop)(B:Prop):Prop:=match r with
 |some i=>A i
 |none=>B
def Sm(l:List PV)(off:Nat):PV:=match l,off with
 | [],_=>.any
 |p::_,0=>p
 |_::r,n+1=>Sm r n
def X4(l:List PV)(n:Nat):Bool:=match l,n with
 | [],0=>true
 |_::r,n+1=>X4 r n
 |_,_=>false
def Th(l:List PV)(n:Nat):Bool:=match l,n with
 |_,0=>true
 |_::r,n+1=>Th r n
 |_,_=>false
def mkP(agg:Bool)(l:List PV):PV:=match agg,l with
 |true,l=>.agg l
 |false,[p]=>p.view
 |false,_=>.any
def dput(d:Option Nat)(p:PV):Cy:=match d with
 |some s=>⟨[(s,p)],[]⟩
 |none=>⟨[],[]⟩
def Ia:List PV->Bool
 | []=>true
 | .bU _::_=>false
 | .aP _ _ _ _::_=>false
 | .dB _ _ _ _ _ _::_=>false
 |_::r=>Ia r
def A0u:List PV->Bool
 | []=>false
 |p::r=>Ia (p::r)
theorem A3e{l:List PV}(h:A0u l=true):Ia l=true/\l≠ []:=by
 cases l with
 |nil=>cases h
 |cons p r=>exact⟨h,by simp⟩
def PV.pure0(p:PV):PV:=match p.flat with
 |true=>p.view
 |false=>.any
def Aly(O:Nat->List PV):PV->PV
 | .loc d off=>match Ia ((O d).drop off) with
  |true=>.ref (((O d).drop off).map PV.pure0)
  |false=>.any
 | .agg l=>.agg (l.map PV.pure0)
 | .ref l=>.ref (l.map PV.pure0)
 |p=>p.pure0
def Abw(st:St)(ban:List Nat):List Operand->Bool
 | []=>true
 |x::r=>match ban,st.aQ x with
  | [],_=>true
  |ban,.loc b _=>match Aw b ban with
   |true=>Abw st ban r
   |false=>false
  |ban,_=>Abw st ban r
def Al9(st:St)(cells:List PV):List (Nat×Nat×Operand)->(List PV->Prop)->Prop
 | [],k=>k cells
 |(off,sz,x)::r,k=>match X4 (st.aQ x).cells sz,Zt (st.aQ x).cells,Th cells (off+sz) with
  |true,true,true=>Al9 st (Lx cells off ((st.aQ x).cells.map PV.view)) r k
  |_,_,_=>False
def Acd(st:St)(sz:Nat):List Operand->(List (List PV)->Prop)->Prop
 | [],k=>k []
 |x::r,k=>match X4 (st.aQ x).cells sz,Zt (st.aQ x).cells with
  |true,true=>Acd st sz r λl=>k ((st.aQ x).cells.map PV.view::l)
  |_,_=>False
def Afd(st:St):List Operand->Bool
 | []=>true
 |x::r=>match st.aQ x with
  | .val _=>Afd st r
  |_=>false
def St.valOf(st:St)(x:Operand):Value:=match st.aQ x with
 | .val v=>v
 |_=>undef
def Ay1(P:Program)(st:St)(o:Oper)(d:Option Nat)(k:Cy->Prop):Prop:=
 match Afd st o.op.operands.toList with
 |true=>Apd P (execOp st.valOf o) λn=>match n with
  | .value v=>match Arq v with
   |true=>k (dput d (.val v))
   |false=>False
  |_=>False
 |false=>False
def Amv:List (Nat×Nat)->List PV->List PV->Option Bool
 | [],_,_=>some true
 |(tag,o)::r,xs,ys=>match Amv r xs ys with
  |none=>none
  |some t=>match tag,Sm xs o,Sm ys o with
   |0,.val (.bool a),.val (.bool b)=>some ((a == b) && t)
   |1,.val (.int k a),.val (.int k' b)=>match decide (k=k') with
    |true=>some ((a == b) && t)
    |false=>none
   |2,.val (.string a),.val (.string b)=>some ((a == b) && t)
   |_,_,_=>none
def Ni:Option UInt8->Int
 |some b=>(b.toNat:Int)
 |none=>0
def Bwd(a b c:Int):Int:=Int.ofNat ((a.toNat+b.toNat+c.toNat) % 18446744073709551616)
def Bwc(a b c:Int):Int:=Int.ofNat ((a.toNat+b.toNat+c.toNat)/18446744073709551616)
def Bxf(a b c:Int):Int:=Int.ofNat ((a.toNat+18446744073709551616-b.toNat-c.toNat) % 18446744073709551616)
def Bua(a b c:Int):Int:=match Nat.blt a.toNat (b.toNat+c.toNat) with
 |true=>1
 |false=>0
def Blk(sub:Bool)(a b c:Int):PV:=match sub with
 |false=>.bI [.val (.int .u64 (Bwd a b c)),.val (.int .u64 (Bwc a b c))]
 |true=>.bI [.val (.int .u64 (Bxf a b c)),.val (.int .u64 (Bua a b c))]
def dJ(tag:Nat)(x y:Value):Option (Bool×Value):=match tag,x,y with
 |0,.int k a,.int k' b=>match decide (k=k') with
  |true=>some (!decide (b=0),.int k (k.wrap (a.tdiv b)))
  |false=>none
 |1,.int k a,.int k' b=>match decide (k=k') with
  |true=>some (!decide (b=0),.int k (a.tmod b))
  |false=>none
 |2,.int k a,.int _ b=>some (!decide (b<0),.int k (k.wrap (a*2 ^ (min b.toNat k.bits))))
 |3,.int k a,.int _ b=>some (!decide (b<0),.int k (a.fdiv (2 ^ (min b.toNat k.bits))))
 |4,.string a,.string b=>some (!decide (((a.size+b.size:Nat):Int)>IntKind.i64.max),.string (a++b))
 |5,.string s,.int _ n=>some ((if 0<=n then s[n.toNat]? else none).isSome,.int .u8 (Ni (if 0<=n then s[n.toNat]? else none)))
 |_,_,_=>none
def A1f:Nat->PV->Bool
 |0,.val (.bool _)=>true
 |1,.val (.int _ _)=>true
 |2,.val (.string _)=>true
 |_,_=>false
def Zh:List (Nat×Nat)->List PV->Bool
 | [],[]=>true
 |(tag,_)::r,p::l=>match A1f tag p with
  |true=>Zh r l
  |false=>false
 |_,_=>false
def Aih(gq:Bool)(ts:List (Nat×Nat))(p:PV):Option (List PV):=match gq,p with
 |true,.agg l=>match Zh ts l with
  |true=>some l
  |false=>none
 |true,_=>none
 |false,p=>match Zh ts [p] with
  |true=>some [p]
  |false=>none
def As0:Bool->Bool->Bool
 |true,true=>true
 |false,false=>true
 |_,_=>false
def A1m(g:Bool)(p:PV):Option (List PV):=match g,p with
 |true,.agg l=>some (l.map PV.view)
 |true,_=>none
 |false,p=>match p.one with
  |true=>some [p.view]
  |false=>none
def Bs4:Operand->Bool
 | .const _=>true
 |_=>false
def St.bnd(st:St)(d:Int):Option Operand->Option Int
 |none=>some d
 |some x=>match st.aQ x with
  | .val (.int _ n)=>some n
  |_=>none
def Arg(st:St)(x:Operand)(v:Value)(tag:Nat)(d:Option Nat)(k:Cy->Prop):Prop:=match v,(st.aQ x).sv with
 | .slice none 0 0,some s=>match tag with
  |6=>gd (0<s.n) (k (dput d (.val (.bool false))))
  |7=>gd (0<s.n) (k (dput d (.val (.bool true))))
  |_=>False
 |_,_=>False
def PV.bare(e sz:Nat):PV->Bool
 | .val (.slice none 0 0)=>true
 | .aV true y=>match Nat.beq y.len 0,Nat.beq e y.e,Nat.beq sz y.sz with
  |true,true,true=>true
  |_,_,_=>false
 |_=>false
def A66:PV->PV->PV
 | .aV true y,.val (.slice none 0 0)=>match Nat.beq y.len 0 with
  |true=>.aV true y
  |false=>.val (.slice none 0 0)
 |_,p=>p
def Adu:List PV->List PV->List PV
 |_,[]=> []
 | [],p::ps=>p::ps
 |o::os,p::ps=>A66 o p::Adu os ps
def LX.flat(z:LX):List PV:=(((List.range z.len).map z.row).flatten).map PV.view
def LX.cut(x:LX)(i:Nat):Option LX:=LX.cat (x.sub 0 i) (x.sub (i+1) x.len)
def St.argT(st:St)(s:Nat):Operand->PV
 | .tmp t=>match Nat.beq t s with
  |true=>st.get t
  |false=>(st.get t).view
 |x=>(st.aQ x).view
def noO(s:Nat):List Operand->Bool
 | []=>true
 | .tmp t::r=>match Nat.beq t s with
  |true=>false
  |false=>noO s r
 |_::r=>noO s r
def Apb(s:Nat):List Operand->Bool
 | []=>false
 | .tmp t::r=>match Nat.beq t s with
  |true=>noO s r
  |false=>Apb s r
 |_::r=>Apb s r
def Yv(st:St):List Operand->Bool
 | []=>true
 |x::r=>match (st.aQ x).view.flat with
  |true=>Yv st r
  |false=>false
def A84(r:PV)(o':List (Nat×List PV))(p:Prop):Prop:=match o',r.flat with
 | [],true=>p
 |_,_=>False
def A7b:List PV->Option (Bool×Bool×LX×LX)
 | [.aP gk gv ks vs]=>some (gk,gv,ks,vs)
 | [.dB _ _ gk gv ks vs]=>some (gk,gv,ks,vs)
 |_=>none
def H8(P:Program)(f:Nat):Bool:=match P.funcs[f]? with
 |some fn=> !(fn.name == "runtime.NumGoroutine") && fn.body.isSome
 |none=>false
def As7(f:PV->Bool):List PV->Bool
 | []=>true
 |p::r=>match f p with
  |true=>As7 f r
  |false=>false
def PV.gY:PV->Bool
 | .agg l=>As7 PV.flat l
 |p=>p.flat
def PV.fx:PV->Bool
 | .bI l=>As7 PV.gY l
 |p=>p.gY
def PV.cross:PV->PV
 | .agg l=>.agg (l.map PV.pure0)
 |p=>p.pure0
def PV.gK:PV->Bool
 | .any=>true
 | .val _=>true
 | .aV false _=>true
 |_=>false
def okC(l:List PV):Bool:=As7 PV.gK l
def PV.gB:PV->Bool
 | .any=>true
 | .val _=>true
 | .aV _ _=>true
 |_=>false
def okD(l:List PV):Bool:=As7 PV.gB l
def okE:List PV->Bool
 | []=>false
 |p::r=>okD (p::r)
theorem Avq{l:List PV}(h:okE l=true):okD l=true/\l≠ []:=by
 cases l with
 |nil=>cases h
 |cons p r=>exact⟨h,by simp⟩
def stK(P:Program)(C:Bj)(f:Nat)(args:List PV)(ob:List (Nat×List PV))(k:PV->List (Nat×List PV)->Prop):Prop:=match args with
 | .loc d 0::ps=>match Aw d (ob.map Prod.fst),okE (C1 [] ob d),H8 P f with
  |false,true,true=>C f (.bI (C1 [] ob d)::ps.map PV.cross) λr=>match r with
   | .bI [r0,.agg l]=>k r0 [(d,l)]
   |_=>False
  |_,_,_=>False
 |_=>False
def Bll(bs:Nat):PV->Bool
 | .loc d 0=>Nat.blt d bs
 |_=>false
def Ayb(l:List (List PV)):List PV:=l.flatten.map PV.view
def Ay(P:Program)(C:Bj)(X:Inl)(ban:List Nat)(o:K)(d:Option Nat)(st:St)(k:Cy->Prop):Prop:=
 match o with
 | .move x=>k (dput d (st.aQ x).view)
 | .fT e=>match d,LX.nil e with
  |some d,some x=>k ⟨[(d,.aV true x)],[]⟩
  |_,_=>False
 | .take s=>match d with
  |some d=>k ⟨[(d,st.get s),(s,(st.get s).view)],[]⟩
  |none=>False
 | .pick c a b=>match st.aQ c with
  | .val (.bool t)=>br t (k (dput d (st.aQ a).view)) (k (dput d (st.aQ b).view))
  |_=>False
 | .alloc z=>match d with
  |some s=>match Aw (st.base+s) (st.ob.map Prod.fst) with
   |true=>k ⟨[(s,.loc (st.base+s) 0)],[(st.base+s,z)]⟩
   |_=>False
  |none=>False
 | .box x=>match d with
  |some s=>match Aw (st.base+s) (st.ob.map Prod.fst),Zt (st.aQ x).cells with
   |true,true=>k ⟨[(s,.loc (st.base+s) 0)],[(st.base+s,(st.aQ x).cells.map PV.view)]⟩
   |_,_=>False
  |none=>False
 | .build z parts=>Al9 st (z.map PV.view) parts λl=>k (dput d (.agg l))
 | .eX e sz parts=>Acd st sz parts λl=>match LX.lit e l with
  |some x=>match Nat.beq x.sz sz with
   |true=>k (dput d (.aV true x))
   |false=>False
  |none=>k (dput d (.sl true e sz l))
 | .load agg sz x=>match st.aQ x with
  | .loc b off=>match Aw b ban,Th ((st.vobj b).drop off) sz,Ia (((st.vobj b).drop off).take sz) with
   |true,true,true=>k (dput d (mkP agg (((st.vobj b).drop off).take sz)))
   |_,_,_=>False
  | .ref l=>match Th l sz with
   |true=>k (dput d (mkP agg (l.take sz)))
   |false=>False
  | .el b sz' i off=>match Aw b ban,st.vobj b with
   |true,[.bU x]=>match Nat.beq sz' x.sz,Th ((x.row i).drop off) sz with
    |true,true=>k (dput d (mkP agg (((x.row i).drop off).take sz)))
    |_,_=>False
   |_,_=>False
  |_=>False
 | .loadT x=>match st.aQ x,d with
  | .loc b off,some d=>match Aw b ban,(Sm (st.obj b) off).one && Ia (st.obj b) with
   |true,true=>k ⟨[(d,Sm (st.obj b) off)],[(b,Lx (st.obj b) off [(Sm (st.obj b) off).view])]⟩
   |_,_=>False
  |_,_=>False
 | .store sz a x=>match st.aQ a with
  | .loc b off=>match X4 (st.aQ x).cells sz,Zt (st.aQ x).cells,Th (st.obj b) (off+sz) && A0u (st.obj b) with
   |true,true,true=>k ⟨[],[(b,Lx (st.obj b) off (Adu ((st.obj b).drop off) ((st.aQ x).cells.map PV.view)))]⟩
   |_,_,_=>False
  | .el b sz' i off=>match X4 (st.aQ x).cells sz,Zt (st.aQ x).cells,st.obj b with
   |true,true,[.bU y]=>match Nat.beq sz' y.sz,LX.set y i off ((st.aQ x).cells.map PV.view) with
    |true,some y'=>k ⟨[],[(b,[.bU y'])]⟩
    |_,_=>False
   |_,_,_=>False
  |_=>False
 | .storeT a s=>match st.aQ a with
  | .loc b off=>match (st.get s).one,Th (st.obj b) (off+1) && Ia (st.obj b) with
   |true,true=>k ⟨[(s,(st.get s).view)],[(b,Lx (st.obj b) off [st.get s])]⟩
   |_,_=>False
  | .el b sz' i off=>match (st.get s).one,st.obj b with
   |true,[.bU y]=>match Nat.beq sz' y.sz,LX.set y i off [(st.get s).view] with
    |true,some y'=>k ⟨[(s,(st.get s).view)],[(b,[.bU y'])]⟩
    |_,_=>False
   |_,_=>False
  |_=>False
 | .dP o=>Ay1 P st o d k
 | .dJ tag x y=>match st.aQ x,st.aQ y with
  | .val u,.val v=>match dJ tag u v with
   |some (c,r)=>br c (k (dput d (.val r))) False
   |none=>False
  |_,.val v=>Arg st x v tag d k
  |_,_=>False
 | .gW neg ts x y=>match st.aQ x,st.aQ y with
  | .agg xs,.agg ys=>match Amv ts xs ys with
   |some t=>match neg with
    |true=>k (dput d (.val (.bool (!t))))
    |false=>k (dput d (.val (.bool t)))
   |none=>False
  |_,_=>False
 | .field off x=>match st.aQ x with
  | .loc b o=>k (dput d (.loc b (o+off)))
  | .ref l=>k (dput d (.ref (l.drop off)))
  | .el b sz i o=>k (dput d (.el b sz i (o+off)))
  |_=>False
 | .index sz x i=>match st.aQ x,st.aQ i with
  | .vw c b e sz' m,.val (.int _ n)=>match Nat.beq sz sz',c with
   |true,false=>gd (0<=n) (gd (n<(m:Int)) (k (dput d (.el b sz n.toNat 0))))
   |true,true=>gd (0<=n) (gd (n<(m:Int)) (k (dput d (.loc b (n.toNat*sz)))))
   |_,_=>False
  |p,.val (.int _ n)=>match p.sv with
   |some s=>match Nat.beq sz s.sz with
    |true=>gd (0<=n) (gd (n<(s.n:Int)) (k (dput d (.ref (s.f n.toNat)))))
    |false=>False
   |none=>False
  |_,_=>False
 | .len x=>match st.aQ x with
  | .vw _ _ _ _ m=>k (dput d (.val (.int .i64 m)))
  | .val (.slice _ n _)=>k (dput d (.val (.int .i64 n)))
  |p=>match p.sv with
   |some s=>k (dput d (.val (.int .i64 s.n)))
   |none=>False
 | .cap x=>match st.aQ x with
  | .val (.slice _ _ c)=>k (dput d (.val (.int .i64 c)))
  |_=>False
 | .app e sz by_ s x=>match d with
  |some d=>match st.get s,st.aQ x with
   | .aV true y,.aV _ z=>match Nat.beq e y.e,Nat.beq sz y.sz,LX.cat y z with
    |true,true,some r=>gd ((y.len+z.len)*by_<=140737488355328) (gd (y.len+z.len<=maxLen) (k ⟨[(d,.aV true r),(s,.aV false y)],[]⟩))
    |_,_,_=>False
   | .aV true y,.val (.slice none 0 0)=>match Nat.beq e y.e with
    |true=>k ⟨[(d,.aV true y),(s,.aV false y)],[]⟩
    |false=>False
   | .val (.slice none 0 0),.aV _ z=>match Nat.beq e z.e,Nat.beq sz z.sz with
    |true,true=>gd ((0+z.len)*by_<=140737488355328) (gd (0+z.len<=maxLen) (k ⟨[(d,.aV true z)],[]⟩))
    |_,_=>False
   |_,_=>False
  |none=>False
 | .clone cm e sz by_ s x=>match d,LX.nil e with
  |some d,some n=>match Aw (st.base+d) (st.ob.map Prod.fst),(st.get s).bare e sz && Nat.beq e n.e && Nat.beq sz n.sz with
   |true,true=>match st.aQ x with
    | .aV _ z=>match Nat.beq e z.e,Nat.beq sz z.sz with
     |true,true=>br (Nat.beq z.len 0) (k ⟨[(d,.aV true n),(s,(st.get s).view)],[]⟩)
      (gd (z.len*by_<=140737488355328) (gd (z.len<=maxLen) (k ⟨[(d,.vw cm (st.base+d) e sz z.len),(s,(st.get s).view)],[(st.base+d,match cm with|true=>z.flat|false=> [.bU z])]⟩)))
     |_,_=>False
    |_=>False
   |_,_=>False
  |_,_=>False
 | .call f args=>match Abw st ban args with
  |true=>C f (args.map λx=>Aly st.obj (st.aQ x)) λr=>k (dput d r.view)
  |false=>False
 | .fJ f args=>X f (args.map λx=>(st.aQ x).view) st.ob λr o'=>k ⟨(dput d r).s,o'⟩
 | .fI x args=>match st.aQ x with
  | .bK f n caps=>X f ((caps.take n++((args.map λx=>(st.aQ x).view)++caps.drop n)).map PV.view) st.ob λr o'=>k ⟨(dput d r).s,o'⟩
  |_=>False
 | .gQ f n caps=>k (dput d (.bK f n (caps.map λx=>(st.aQ x).view)))
 | .extract x i=>match st.aQ x with
  | .bI l=>match Th l (i+1) with
   |true=>k (dput d (Sm l i).view)
   |false=>False
  |_=>False
 | .dU s=>match d,st.get s with
  |some d,.bI (.aV true x::r)=>k ⟨[(d,.aV true x),(s,.bI (.aV false x::r))],[]⟩
  |some d,.bI (p::_)=>k (dput (some d) p.view)
  |_,_=>False
 | .nil x=>match st.aQ x with
  | .loc b off=>k (dput d (.loc b off))
  | .ref l=>k (dput d (.ref l))
  | .el b sz i off=>k (dput d (.el b sz i off))
  |_=>False
 | .gH e sz by_ z n=>match d,st.aQ n with
  |some s,.val (.int .i64 m)=>match Bs4 n with
   |true=>match decide (0<=m),Aw (st.base+s) (st.ob.map Prod.fst),Nat.ble (m.toNat*by_) 140737488355328 && Nat.ble m.toNat 16777216 with
    |true,true,true=>k ⟨[(s,.vw true (st.base+s) e sz m.toNat)],[(st.base+s,(List.replicate m.toNat z).flatten)]⟩
    |_,_,_=>False
   |false=>match Aw (st.base+s) (st.ob.map Prod.fst),LX.lit e [z.map PV.view] with
    |true,some y=>match Nat.beq y.sz sz with
     |true=>gd (0<=m) (gd (m*(by_:Int)<=140737488355328) (gd (m<=9223372036854775807) (k ⟨[(s,.vw false (st.base+s) e sz m.toNat)],[(st.base+s,[.bU (y.rep m.toNat)])]⟩)))
     |false=>False
    |_,_=>False
  |_,_=>False
 | .fZ e sz by_ n=>match d,st.aQ n,LX.nil e with
  |some s,.val (.int .i64 m),some x=>match Nat.beq x.sz sz with
   |true=>gd (0<=m) (gd (m*(by_:Int)<=140737488355328) (gd (m<=(maxLen:Int)) (k ⟨[(s,.aV true x)],[]⟩)))
   |false=>False
  |_,_,_=>False
 | .iA sz x lo hi mx=>match st.aQ x with
  | .aV _ y=>match Nat.beq sz y.sz,st.bnd y.len mx with
   |true,some m=>match st.bnd y.len hi with
    |some h=>match st.bnd 0 lo with
     |some l=>gd (0<=l) (gd (l<=h) (gd (h<=m) (gd (m<=(y.len:Int)) (Bfq mx.isSome (m<=h) (k (dput d (.aV mx.isSome (y.sub l.toNat h.toNat))))))))
     |none=>False
    |none=>False
   |_,_=>False
  |_=>False
 | .gN x lo hi=>match st.aQ x with
  | .val (.string s)=>match st.bnd s.size hi with
   |some h=>match st.bnd 0 lo with
    |some l=>gd (0<=l) (gd (l<=h) (gd (h<=(s.size:Int)) (k (dput d (.val (.string (s.extract l.toNat h.toNat)))))))
    |none=>False
   |none=>False
  |_=>False
 | .fP gk gv ks vs=>match d with
  |some s=>match Aw (st.base+s) (st.ob.map Prod.fst) with
   |true=>k ⟨[(s,.mp (st.base+s))],[(st.base+s,[.aP gk gv ks vs])]⟩
   |false=>False
  |none=>False
 | .lookup gq ts ok g z m q=>match st.aQ m with
  | .mp b=>match Aw b ban,A7b (st.obj b),Aih gq ts (st.aQ q) with
   |true,some (gk,gv,ks,vs),some c=>match As0 gq gk,LX.find ks c,As0 g gv with
    |true,some r,true=>fk r (λi=>k (dput d (match ok with|true=>.bI [mkP gv (vs.row i),.val (.bool true)]|false=>mkP gv (vs.row i))))
      (k (dput d (match ok with|true=>.bI [mkP g (z.map PV.view),.val (.bool false)]|false=>mkP g (z.map PV.view))))
    |_,_,_=>False
   |_,_,_=>False
  |_=>False
 | .fH gq ts m q v=>match st.aQ m with
  | .mp b=>match st.obj b,Aih gq ts (st.aQ q) with
   | [.aP gk gv ks vs],some ck=>match As0 gq gk,LX.find ks ck,A1m gv (st.aQ v) with
    |true,some r,some c=>fk r (λi=>match Nat.beq c.length vs.sz,LX.set vs i 0 c with
      |true,some vs'=>k ⟨[],[(b,[.aP gk gv ks vs'])]⟩
      |_,_=>False)
     (match LX.push ks ck,LX.push vs c with
      |some ks',some vs'=>k ⟨[],[(b,[.aP gk gv ks' vs'])]⟩
      |_,_=>False)
    |_,_,_=>False
   |_,_=>False
  |_=>False
 | .del gq ts m q=>match st.aQ m with
  | .mp b=>match st.obj b,Aih gq ts (st.aQ q) with
   | [.aP gk gv ks vs],some ck=>match As0 gq gk,LX.find ks ck with
    |true,some r=>fk r (λi=>match LX.cut ks i,LX.cut vs i with
      |some ks',some vs'=>k ⟨[],[(b,[.aP gk gv ks' vs'])]⟩
      |_,_=>False)
     (k ⟨[],[]⟩)
    |_,_=>False
   |_,_=>False
  |_=>False
 | .fQ f args=>match Yv st args with
  |true=>X f (args.map λx=>(st.aQ x).view) [] λr o'=>A84 r o' (k (dput d r))
  |false=>False
 | .gL x=>match st.aQ x with
  | .aV _ y=>match y.str with
   |some s=>k (dput d (.val (.string s)))
   |none=>False
  | .val (.slice none 0 0)=>k (dput d (.val (.string ByteArray.empty)))
  |_=>False
 | .dZ f args s=>match Apb s args with
  |true=>X f (args.map λx=>st.argT s x) st.ob λr o'=>k ⟨(dput d r).s++ [(s,(st.get s).view)],o'⟩
  |false=>False
 | .fG f args=>match args with
  | .tmp s::_=>match Bll st.base (st.get s) with
   |true=>stK P C f (args.map λx=>(st.aQ x).view) st.ob λr o'=>k ⟨(dput d r).s,o'⟩
   |false=>False
  |_=>False
 | .fC near r agg sz x=>match st.aQ x,st.get r with
  | .loc b off,.loc b' _=>match Aw b ban && (Nat.beq b b' && (!near || Nat.ble st.base b)),Th ((st.vobj b).drop off) sz,Ia (((st.vobj b).drop off).take sz) with
   |true,true,true=>k (dput d (mkP agg (((st.vobj b).drop off).take sz)))
   |_,_,_=>False
  |_,_=>False
 | .eT r sz a x=>match st.aQ a,st.get r with
  | .loc b off,.loc b' _=>match Nat.beq b b',X4 (st.aQ x).cells sz,Zt (st.aQ x).cells,Th (st.obj b) (off+sz) && A0u (st.obj b) with
   |true,true,true,true=>k ⟨[],[(b,Lx (st.obj b) off (Adu ((st.obj b).drop off) ((st.aQ x).cells.map PV.view)))]⟩
   |_,_,_,_=>False
  |_,_=>False
 | .gG cm e sz parts=>match d with
  |some d=>match Aw (st.base+d) (st.ob.map Prod.fst) with
   |true=>Acd st sz parts λl=>match cm with
    |true=>k ⟨[(d,.vw true (st.base+d) e sz l.length)],[(st.base+d,Ayb l)]⟩
    |false=>match LX.lit e l with
     |some x=>match Nat.beq x.sz sz with
      |true=>k ⟨[(d,.vw false (st.base+d) e sz x.len)],[(st.base+d,[.bU x])]⟩
      |false=>False
     |none=>False
   |false=>False
  |none=>False
 | .gF cm e sz by_ s x=>match d with
  |some d=>match Aw (st.base+d) (st.ob.map Prod.fst),st.get s,st.aQ x with
   |true,.vw false b _ sz' _,.aV _ z=>match st.obj b with
    | [.bU y]=>match Nat.beq sz sz',Nat.beq sz y.sz,LX.cat y z with
     |true,true,some r=>gd ((y.len+z.len)*by_<=140737488355328) (gd (y.len+z.len<=maxLen) (k ⟨[(d,.vw false (st.base+d) e sz r.len)],[(st.base+d,[.bU r]),(b,[])]⟩))
     |_,_,_=>False
    |_=>False
   |_,_,_=>False
  |none=>False
 | .ext sub x y c=>match st.aQ x,st.aQ y,st.aQ c with
  | .val (.int _ a),.val (.int _ b),.val (.int _ n)=>gd (n<=1) (k (dput d (Blk sub a b n)))
  |_,_,_=>False
 | .gT off sz g x=>match st.aQ x with
  | .agg l=>match Th l (off+sz) with
   |true=>k (dput d (mkP g ((l.drop off).take sz)))
   |false=>False
  |_=>False
 | .stop=>False
def T7(P:Program)(C:Bj)(X:Inl)(ban:List Nat):List Ht->St->(St->Prop)->Prop
 | [],st,k=>k st
 |o::r,st,k=>match o.g with
  |none=>Ay P C X ban o.k o.dst st λδ =>T7 P C X ban r (st.app δ) k
  |some (s,want)=>match st.get s with
   | .val (.bool t)=>
    br t
    (match want with
     |true=>Ay P C X ban o.k o.dst (st.put s (.val (.bool true))) λδ =>T7 P C X ban r ((st.put s (.val (.bool true))).app δ) k
     |false=>T7 P C X ban r ((st.put s (.val (.bool true))).app (dput o.dst (.bI []))) k)
    (match want with
     |false=>Ay P C X ban o.k o.dst (st.put s (.val (.bool false))) λδ =>T7 P C X ban r ((st.put s (.val (.bool false))).app δ) k
     |true=>T7 P C X ban r ((st.put s (.val (.bool false))).app (dput o.dst (.bI []))) k)
   | .bI []=>T7 P C X ban r (st.app (dput o.dst (.bI []))) k
   |_=>False
def K.quiet:K->Bool
 | .fC .. | .move _| .dP _| .field .. | .load .. | .len _| .cap _| .dJ .. | .gW .. | .index .. | .extract .. | .nil _| .call .. | .pick .. | .gN .. | .lookup .. | .ext .. | .fQ .. | .gL .. =>true
 |_=>false
def Ann(s:Nat):List Ht->Option (List Ht×Nat×List Ht)
 | []=>none
 |eo::r=>match eo.k.quiet,eo.g with
  |true,some _=>match Ann s r with
   |some (B,pd,r')=>some (eo::B,pd,r')
   |none=>none
  |true,none=>match eo.k,eo.dst with
   | .pick (.tmp c) _ _,some pd=>match Nat.beq c s with
    |true=>some ([eo],pd,r)
    |false=>none
   |_,_=>none
  |false,_=>none
def Aw3:List Ht->List (Nat×PV)
 | []=> []
 |eo::r=>match eo.dst with
  |some d=>(d,.any)::Aw3 r
  |none=>Aw3 r
def stJ(st:St)(B:List Ht)(pd:Nat)(b:Bool):St:=st.app ⟨(pd,.val (.bool b))::Aw3 B,[]⟩
def jn{σ :Type}(X:(σ->Prop)->Prop)(j: σ->Prop):Prop:=X j
def Ass(pd:Nat)(j:Bool->Prop)(st:St):Prop:=match st.get pd with
 | .val (.bool b)=>j b
 |_=>False
def No(P:Program)(C:Bj)(X:Inl):Nat->List Ht->St->(St->Prop)->Prop
 |_,[],st,k=>k st
 |0,_::_,_,_=>False
 |n+1,o::r,st,k=>match o.g with
  |none=>Ay P C X [] o.k o.dst st λδ =>No P C X n r (st.app δ) k
  |some (s,want)=>match st.get s with
   | .val (.bool t)=>match Ann s (o::r) with
    |some (B,pd,r')=>jn (λj=>br t (T7 P C X [] B (st.put s (.val (.bool true))) (Ass pd j)) (T7 P C X [] B (st.put s (.val (.bool false))) (Ass pd j)))
      (λb=>No P C X n r' (stJ st B pd b) k)
    |none=>br t
     (match want with
      |true=>Ay P C X [] o.k o.dst (st.put s (.val (.bool true))) λδ =>No P C X n r ((st.put s (.val (.bool true))).app δ) k
      |false=>No P C X n r ((st.put s (.val (.bool true))).app (dput o.dst (.bI []))) k)
     (match want with
      |false=>Ay P C X [] o.k o.dst (st.put s (.val (.bool false))) λδ =>No P C X n r ((st.put s (.val (.bool false))).app δ) k
      |true=>No P C X n r ((st.put s (.val (.bool false))).app (dput o.dst (.bI []))) k)
   | .bI []=>No P C X n r (st.app (dput o.dst (.bI []))) k
   |_=>False
def PV.safe0(D:Nat->Bool):PV->Bool
 | .any=>true
 | .val _=>true
 | .aV _ _=>true
 | .loc d _=> !(D d)
 | .el d _ _ _=> !(D d)
 | .vw _ d _ _ _=> !(D d)
 | .mp d=> !(D d)
 | .bU _=>true
 | .aP _ _ _ _=>true
 | .dB _ _ _ _ _ _=>true
 |_=>false
def Ami(s:PV->Bool):List PV->Bool
 | []=>true
 |p::r=>match s p with
  |true=>Ami s r
  |false=>false
def A03(s:PV->Bool):List (List PV)->Bool
 | []=>true
 |p::r=>match Ami s p with
  |true=>A03 s r
  |false=>false
def PV.safeUp(s:PV->Bool):PV->Bool
 | .agg l=>Ami s l
 | .bI l=>Ami s l
 | .ref l=>Ami s l
 | .bK _ _ l=>Ami s l
 | .sl _ _ _ es=>A03 s es
 |p=>s p
def PV.safe(D:Nat->Bool)(p:PV):Bool:=PV.safeUp (PV.safeUp (PV.safeUp (PV.safe0 D))) p
def PV.clean(D:Nat->Bool)(p:PV):PV:=match p.safe D with
 |true=>p
 |false=>.any
def Bbl(d:Nat):List Nat->List Nat
 | []=> [d]
 |b::r=>match Nat.blt d b,Nat.beq d b with
  |true,_=>d::b::r
  |false,true=>b::r
  |false,false=>b::Bbl d r
def Awp:List Nat->List Nat
 | []=> []
 |d::r=>Bbl d (Awp r)
def Zy(l:List (Nat×List PV)):List (Nat×List PV):=(Awp (l.map Prod.fst)).map λd=>(d,C1 [] l d)
def C9(st:St):List Nat:=Awp (st.ob.map Prod.fst)
def keep(keys live:List Nat)(st:St):St:=
 { fr:=keys.map λs=>(s,(st.get s).clean λd=>Aw d live),ob:=live.map λd=>(d,(st.obj d).map λp=>p.clean λd=>Aw d live),base:=st.base }
def frF(st:St)(live:List Nat):List Nat->List (Nat×PV)
 | []=> []
 |s::r=>match (st.get s).clean λd=>Aw d live with
  | .any=>frF st live r
  |p=>(s,p)::frF st live r
def Akp(keys live:List Nat)(st:St):St:=
 { fr:=frF st live keys,ob:=live.map λd=>(d,(st.obj d).map λp=>p.clean λd=>Aw d live),base:=st.base }
def PV.id0:PV->List Nat
 | .loc d _=> [d]
 | .el d _ _ _=> [d]
 | .vw _ d _ _ _=> [d]
 | .mp d=> [d]
 |_=> []
def Aw7(f:PV->List Nat):List PV->List Nat
 | []=> []
 |p::r=>f p++Aw7 f r
def PV.idUp(f:PV->List Nat):PV->List Nat
 | .agg l=>Aw7 f l
 | .bI l=>Aw7 f l
 | .ref l=>Aw7 f l
 | .bK _ _ l=>Aw7 f l
 | .sl _ _ _ es=>Aw7 f es.flatten
 |p=>f p
def PV.ids(p:PV):List Nat:=PV.idUp (PV.idUp (PV.idUp PV.id0)) p
def Bfn(st:St):Nat->List Nat->List Nat->List Nat
 |0,_,seen=>seen
 |_+1,[],seen=>seen
 |n+1,d::todo,seen=>match Aw d seen with
  |true=>Bfn st n (Aw7 PV.ids (st.obj d)++todo) (d::seen)
  |false=>Bfn st n todo seen
def A0b:Nat->List Nat->Bool
 |_,[]=>false
 |0,_::_=>true
 |n+1,_::r=>A0b n r
def gcF(b:Nat)(seen:List Nat):List Nat->List Nat
 | []=> []
 |d::r=>match Nat.blt d b,Aw d seen with
  |false,true=>gcF b seen r
  |_,_=>d::gcF b seen r
def A0c(st:St):List Nat->List Nat
 | []=> []
 |d::r=>match Nat.blt d st.base with
  |true=>Aw7 PV.ids (st.obj d)++A0c st r
  |false=>A0c st r
def gcK(keys:List Nat)(st:St):List Nat:=match A0b 7 (C9 st) with
 |false=>C9 st
 |true=>gcF st.base (Bfn st 200 (Aw7 PV.ids (keys.map st.get)++A0c st (C9 st)) []) (C9 st)
theorem Az1{b:Nat}{seen:List Nat} :∀ {l:List Nat} {d:Nat},d∈l->d<b->d∈gcF b seen l
 |x::l,d,h,hb=>by
  unfold gcF;rcases List.mem_cons.1 h with rfl|h
  ·have:Nat.blt d b=true:=Nat.ble_eq_true_of_le hb;rw[this];exact List.mem_cons_self
  ·have ih:=Az1 (seen:=seen) h hb;split
   ·exact ih
   ·exact List.mem_cons_of_mem _ ih
theorem Bfo{keys:List Nat}{st:St}{d:Nat}(h:d∈C9 st)(hb:d<st.base):d∈gcK keys st:=by
 unfold gcK;split
 ·exact h
 ·exact Az1 h hb
def gcU(keys:List Nat)(st:St):List Nat:=gcF st.base (Bfn st 200 (Aw7 PV.ids (keys.map st.get)++A0c st (C9 st)) []) (C9 st)
def Uf(b:Nat):List Nat->List Nat
 | []=> []
 |a::r=>match Nat.beq a b with
  |true=>Uf b r
  |false=>a::Uf b r
def U3(st:St):List Nat->List Nat
 | []=> []
 |a::r=>match st.obj a with
  | []=>U3 st r
  |_::_=>a::U3 st r
theorem Apk(st:St)(x:Nat):∀l:List Nat,x∈U3 st l↔x∈l/\st.obj x≠ []
 | []=>by simp[U3]
 |a::r=>by
  have ih:=Apk st x r;cases h:st.obj a with
  |nil=>
   simp only[U3,h,List.mem_cons];rw[ih];exact⟨λq=>⟨.inr q.1,q.2⟩,λq=>⟨q.1.elim (λe=>absurd (by rw[e];exact h) q.2) id,q.2⟩⟩
  |cons p k=>
   simp only[U3,h,List.mem_cons];rw[ih];exact⟨λq=>q.elim (λe=>⟨.inl e,by rw[e,h];simp⟩) (λq=>⟨.inr q.1,q.2⟩),λq=>q.1.elim .inl (λe=>.inr ⟨e,q.2⟩)⟩
def Akw(bs:Nat):List (Nat×List PV)->Bool
 | []=>true
 |(d,[])::r=>match Nat.ble bs d with
  |true=>Akw bs r
  |false=>false
 |(_,_::_)::r=>Akw bs r
theorem Asu{bs x:Nat} :∀ {ob:List (Nat×List PV)},Akw bs ob=true->Aw x (ob.map Prod.fst)=false->C1 [] ob x= []->bs<=x
 | [],_,h,_=>by cases h
 |(d,l)::r,h1,h2,h3=>by
  simp only[C1]at h3;simp only[List.map_cons,Aw]at h2;cases hb:Nat.beq d x with
  |true=>
   rw[hb]at h3;simp only at h3;subst h3;simp only[Akw]at h1;cases hc:Nat.ble bs d with
   |true=>have:=Nat.le_of_ble_eq_true hc;have:=Nat.eq_of_beq_eq_true hb;omega
   |false=>rw[hc]at h1;cases h1
  |false=>
   rw[hb]at h3 h2;refine Asu (ob:=r) ?_ h2 h3;cases l with
   |cons p k=>exact h1
   |nil=>
    simp only[Akw]at h1;cases hc:Nat.ble bs d with
    |true=>rw[hc]at h1;exact h1
    |false=>rw[hc]at h1;cases h1
def St.frz0(st:St)(t:Nat):St:=match st.get t with
 | .vw false b _ _ _=>match st.obj b,Nat.ble st.base b with
  | [.bU y],true=>match Akw st.base st.ob with
   |true=>(Akp (st.fr.map Prod.fst) (U3 st (Uf b (C9 st))) st).app ⟨[(t,.aV false y)],[]⟩
   |false=>st
  |_,_=>st
 |_=>st
def St.setC(st:St)(d i:Nat)(p:PV):St:=st.app ⟨[],[(d,Lx (st.obj d) i [p])]⟩
def St.frzC1(st:St)(s i:Nat):St:=match st.get s with
 | .loc d 0=>match Sm (st.obj d) i with
  | .vw false b _ _ _=>match st.obj b,Nat.ble st.base b,Ia (st.obj d) with
   | [.bU y],true,true=>match Akw st.base st.ob with
    |true=>(Akp (st.fr.map Prod.fst) (U3 st (Uf b (C9 st))) st).setC d i (.aV false y)
    |false=>st
   |_,_,_=>st
  |_=>st
 |_=>st
def St.frzCL(st:St)(s:Nat):List Nat->St
 | []=>st
 |i::r=>St.frzCL (st.frzC1 s i) s r
def St.frz1(st:St)(t:Nat):St:=match Nat.ble 1000000 t with
 |true=>match st.get (t-1000000) with
  | .loc d 0=>st.frzCL (t-1000000) (List.range (st.obj d).length)
  |_=>st
 |false=>st.frz0 t
def St.frzL(st:St):List Nat->St
 | []=>st
 |t::r=>St.frzL (st.frz1 t) r
def St.vwL(st:St):List Nat->St
 | []=>st
 |t::r=>St.vwL (st.app ⟨[(t,(st.get t).view)],[]⟩) r
def Jz(f:St->(Ex->St->Prop)->Prop)(keys live:List Nat)(k:Ex->St->Prop):Ex->St->Prop:=λe st'=>match e with
 | .normal=>f (keep keys live st') k
 | .exit i=>k (.exit i) (keep keys live st')
 | .ret=>k .ret (keep keys live st')
def M8(body:St->(Ex->St->Prop)->Prop)(keys live:List Nat):Nat->St->(Ex->St->Prop)->Prop
 |0,_,_=>False
 |n+1,st,k=>body st (Jz (M8 body keys live n) keys live k)
def Bgj(f:St->(Ex->St->Prop)->Prop)(keys:List Nat)(k:Ex->St->Prop):Ex->St->Prop:=λe st'=>match e with
 | .normal=>f (Akp keys (gcU keys st') st') k
 | .exit i=>k (.exit i) st'
 | .ret=>k .ret st'
def Avj(body:St->(Ex->St->Prop)->Prop)(keys:List Nat):Nat->St->(Ex->St->Prop)->Prop
 |0,_,_=>False
 |n+1,st,k=>body st (Bgj (Avj body keys n) keys k)
def Ah2(st:St):List (Nat×Nat)->Bool
 | []=>true
 |(a,b)::r=>match st.get a,st.get b with
  | .loc d _,.loc d' _=>match Nat.beq d d' with
   |true=>false
   |false=>Ah2 st r
  |_,_=>false
def Pt(f:St->(Ex->St->Prop)->Prop)(k:Ex->St->Prop):Ex->St->Prop:=λe st'=>match e with
 | .normal=>f st' k
 | .exit i=>k (.exit i) st'
 | .ret=>k .ret st'
def Gc(id:Nat)(k:Ex->St->Prop):Ex->St->Prop:=λe st'=>match e with
 | .exit i=>match Nat.beq i id with
  |true=>k .normal st'
  |false=>k (.exit i) st'
 | .normal=>k .normal st'
 | .ret=>k .ret st'
def Ast:List (Nat×List PV)->Nat
 | []=>0
 |(d,_)::r=>match Nat.ble (Ast r) d with
  |true=>d+1
  |false=>Ast r
def Abz(l:List (Nat×List PV)):Nat:=Ast l+1000
def Bcd(f:St->(Ex->St->Prop)->Prop)(n d:Nat)(O:List PV)(V:PV)(gk gv:Bool)(ks vs:LX)(it nx more pair:Nat)(keys live:List Nat):Nat->List Nat->St->(St->Prop)->Prop
 |0,_,_,_=>False
 |L+1,S,st,k=>((∀i,i<ks.len->i∈S)->k (st.app ⟨[(more,.val (.bool false)),(nx,.any)],[]⟩))/\
  ∀i,i<ks.len->i∉S->f (st.app ⟨[(pair,.bI [mkP gk (ks.row i),mkP gv (vs.row i)]),(more,.val (.bool true)),(nx,.any)],[]⟩)
   λe st'=>(e=.normal\/e=.exit n)/\st'.obj d=O/\st'.get it=V/\Bcd f n d O V gk gv ks vs it nx more pair keys live L (i::S) (keep keys live st') k
def Btq(st:St)(d it:Nat)(O:List PV)(V:PV)(keys:List Nat):St:= { keep keys (C9 st) (st.app ⟨[(it,V)],[(d,O)]⟩)with base:=Abz st.ob }
def Btr(st:St)(d it base:Nat)(keys live:List Nat)(O:List PV):St:= { keep keys live (st.app ⟨[(it,.any)],[(d,O)]⟩)with base:=base }
def Bwu(f:St->(Ex->St->Prop)->Prop)(n d:Nat)(gk gv:Bool)(ks vs:LX)(it nx more pair:Nat)(keys:List Nat)(L:Nat)(st:St)(k:St->Prop):Prop:=
 ∃stF,(∀es clock r,Bcd f n d [.dB es clock gk gv ks vs] (.val (.pointer (some ⟨r,0,none⟩))) gk gv ks vs it nx more pair keys (C9 st) L []
  (Btq st d it [.dB es clock gk gv ks vs] (.val (.pointer (some ⟨r,0,none⟩))) keys) (λst'=>Btr st' d it st.base keys (C9 st) [.aP gk gv ks vs]=stF))/\k stF
def A5p(f:St->(Ex->St->Prop)->Prop)(n:Nat)(m:Operand)(it nx more pair:Nat)(keys:List Nat)(L:Nat)(st:St)(k:St->Prop):Prop:=match st.aQ m with
 | .mp d=>match st.obj d with
  | [.aP gk gv ks vs]=>Bwu f n d gk gv ks vs it nx more pair keys L st k
  |_=>False
 |_=>False
def evC(P:Program)(C:Bj)(X:Inl)(L:Nat):EC->St->(Ex->St->Prop)->Prop
 | .skip,st,k=>k .normal st
 | .region ban ap l,st,k=>match Ah2 st ap with
  |true=>T7 P C X (ban.map (st.base+ ·)) l st λst'=>k .normal st'
  |false=>False
 | .gP l,st,k=>No P C X l.length l st λst'=>k .normal st'
 | .seq a b,st,k=>evC P C X L a st (Pt (evC P C X L b) k)
 | .cond c a b,st,k=>match st.aQ c with
  | .val (.bool t)=>br t (evC P C X L a st k) (evC P C X L b st k)
  |_=>False
 | .block id b,st,k=>evC P C X L b st (Gc id k)
 | .loop keys b,st,k=>M8 (evC P C X L b) keys (gcK keys st) L (keep keys (gcK keys st) st) k
 | .fV keys b,st,k=>Avj (evC P C X L b) keys L st k
 | .exit id,st,k=>k (.exit id) st
 | .ret,st,k=>k .ret st
 | .kp keys,st,k=>k .normal (Akp keys (C9 st) st)
 | .iD ts,st,k=>k .normal (st.frzL ts)
 | .iC ts,st,k=>k .normal (st.vwL ts)
 | .iB pre m it nx more pair keys asg b n,st,k=>No P C X pre.length pre st λst1=>A5p (λst k=>No P C X asg.length asg st λst'=>evC P C X L b st' k) n m it nx more pair keys L st1 λst'=>k .normal st'
 | .stop,_,_=>False
def Io(P:Program)(t:Nat):Bool:=match P.underlying t with
 |some (.struct _)|some (.array _ _)=>true
 |_=>false
def Aep(P:Program)(t:Nat):Bool:=match P.underlying t with
 |some (.slice _)=>true
 |_=>false
def szT(P:Program)(t:Nat):Option Nat:=(P.info? t).map (·.size)
def Apy(P:Program)(t:Nat):Option (List Value):=((P.info? t).bind (·.zero)).map λv=>v.cells.toList
def A6y(P:Program)(t:Nat):Option (List (Nat×Nat)):=match P.underlying t with
 |some (.struct fs)=>fs.toList.mapM λf=>(P.info? f.type).map λi=>(f.offset,i.size)
 |some (.array n e)=>(P.info? e).map λi=>(List.range n).map λk=>(k*i.size,i.size)
 |_=>none
def Bik(P:Program):Nat->Nat->List (Option Nat)
 |0,_=> [none]
 |n+1,t=>match P.underlying t with
  |some (.slice e)=> [some e]
  |some (.struct fs)=>fs.toList.flatMap λf=>Bik P n f.type
  |some (.array k e)=>(List.replicate k (Bik P n e)).flatten
  |_=> [none]
def A7w:Option Nat->Value->PV
 |some e,.slice none 0 0=>match LX.nil e with
  |some x=>.aV true x
  |none=>.val (.slice none 0 0)
 |_,v=>.val v
def Ar7:List (Option Nat)->List Value->List PV
 |_,[]=> []
 | [],v::vs=>.val v::Ar7 [] vs
 |o::os,v::vs=>A7w o v::Ar7 os vs
def Aj9:List Value->Bool
 | []=>true
 |v::r=>match Arq v with
  |true=>Aj9 r
  |false=>false
def Apx(P:Program)(t:Nat):Option (List PV):=match Apy P t with
 |some z=>match Aj9 z with
  |true=>some (Ar7 (Bik P 8 t) z)
  |false=>none
 |none=>none
def Bdj(b:Bool)(P:Program)(t:Nat):Option (List PV):=match b with
 |false=>Apx P t
 |true=>match Apy P t with
  |some z=>match Aj9 z with
   |true=>some (Ar7 [] z)
   |false=>none
  |none=>none
def Bdi(P:Program)(t:Nat)(g:Bool):Bool:=match (P.info? t).bind (·.zero) with
 |some (.agg _)=>g
 |some (.tuple _)=>false
 |some _=> !g
 |none=>false
def Ars(fs:List (Nat×Nat)):List (Nat×Operand)->Option (List (Nat×Nat×Operand))
 | []=>some []
 |(i,x)::r=>match fs[i]?,Ars fs r with
  |some (off,sz),some l=>some ((off,sz,x)::l)
  |_,_=>none
def Akh(i:Nat):List (Nat×Operand)->Option (List Operand)
 | []=>some []
 |(j,x)::r=>match Nat.beq i j,Akh (i+1) r with
  |true,some l=>some (x::l)
  |_,_=>none
def Alz(P:Program)(t:Nat):Option Nat:=match P.underlying t with
 |some .bool=>some 0
 |some (.int _)=>some 1
 |some .string=>some 2
 |_=>none
def Amw(P:Program):List Field->Option (List (Nat×Nat))
 | []=>some []
 |f::r=>match f.name == "_",Alz P f.type,Amw P r with
  |false,some tag,some l=>some ((tag,f.offset)::l)
  |_,_,_=>none
def Awo:Nat->List (Nat×Nat)->Bool
 |_,[]=>true
 |k,(_,o)::r=>match Nat.beq o k with
  |true=>Awo (k+1) r
  |false=>false
def Ase(tag:Nat):List Nat->List (Nat×Nat)
 | []=> []
 |k::r=>(tag,k)::Ase tag r
def Aid(P:Program)(t:Nat):Option (List (Nat×Nat)):=match P.underlying t with
 |some (.struct fs)=>match P.stoodInHeld t,P.eqGuardType P.depth t with
  |false,false=>Amw P fs.toList
  |_,_=>none
 |some (.array n e)=>match Alz P e,Nat.beq (P.cellsOf e) 1 && (P.info? e).isSome,P.eqGuardType P.depth t with
  |some tag,true,false=>some (Ase tag (List.range n))
  |_,_,_=>none
 |_=>none
def Acr(P:Program)(t:Nat):Option (Bool×List (Nat×Nat)):=match Alz P t with
 |some tag=>some (false,[(tag,0)])
 |none=>match Aid P t with
  |some (x::r)=>match Awo 0 (x::r) with
   |true=>some (true,x::r)
   |false=>none
  |_=>none
def Ba4(P:Program)(f:Nat):Option Bool:=match P.funcs[f]? with
 |some fn=>match fn.body.isNone && decide (fn.origin= ""),decide (fn.name= "math/bits.Add64"),decide (fn.name= "math/bits.Sub64") with
  |true,true,_=>some false
  |true,false,true=>some true
  |_,_,_=>none
 |none=>none
def A47:Operand->Bool
 | .const (.slice none 0 0)=>true
 |_=>false
def Bta(P:Program)(t:Nat):Option Nat:=match P.underlying t with
 |some (.slice e)=>match LX.nil e with
  |some _=>some e
  |none=>none
 |_=>none
def A5h:List Operand->Nat
 | []=>0
 | .tmp t::r=>(1 <<< t) ||| A5h r
 |_::r=>A5h r
def Bp1:List Operand->Nat
 | []=>0
 | .tmp t::r=>((1 <<< t) &&& A5h r) ||| Bp1 r
 |_::r=>Bp1 r
def Bob:List Oper->Nat
 | []=>0
 |o::r=>A5h o.op.operands.toList ||| Bob r
def Bud:List Oper->Nat
 | []=>0
 |o::r=>(A5h o.op.operands.toList &&& Bob r) ||| (Bp1 o.op.operands.toList ||| Bud r)
def Apc:Code->Nat
 | .region _ os _=>Bob os.toList
 | .seq a b=>Apc a ||| Apc b
 | .cond c a b=>A5h [c] ||| (Apc a ||| Apc b)
 | .block _ b=>Apc b
 | .loop b=>Apc b
 |_=>0
def A6d:Code->Nat
 | .region _ os _=>Bud os.toList
 | .seq a b=>(Apc a &&& Apc b) ||| (A6d a ||| A6d b)
 | .cond c a b=>(A5h [c] &&& (Apc a ||| Apc b)) ||| ((Apc a &&& Apc b) ||| (A6d a ||| A6d b))
 | .block _ b=>A6d b
 | .loop b=>A6d b
 |_=>0
def Bey:List Oper->Nat
 | []=>0
 |o::r=>match o.op with
  | .call { callee:=.builtin .append,args,argTypes:=_ } =>match args.toList with
   | .tmp t::_=>(1 <<< t) ||| Bey r
   |_=>Bey r
  |_=>Bey r
def A4j:Code->Nat
 | .region _ os _=>Bey os.toList
 | .seq a b=>A4j a ||| A4j b
 | .cond _ a b=>A4j a ||| A4j b
 | .block _ b=>A4j b
 | .loop b=>A4j b
 |_=>0
def Bt8(o a:Nat):Nat->Nat
 |0=>0
 |n+1=>(match Nat.testBit o n,Nat.testBit a n with
  |true,true=>3 <<< (2*n)
  |true,false=>1 <<< (2*n)
  |_,_=>0) ||| Bt8 o a n
def Btf(c:Code)(n:Nat):Nat:=Bt8 (Apc c ^^^ (Apc c &&& A6d c)) (A4j c) n
def A04:Operand->Operand->Bool
 | .tmp a,.tmp b=>Nat.beq a b
 | .const (.int .i64 a),.const (.int .i64 b)=>decide (a=b)
 |_,_=>false
def A1n:Operand->Bool
 | .const (.int .i64 a)=>decide (a=0)
 |_=>false
def A8z(P:Program)(x:Operand)(ty:Nat)(k:K):K:=match A47 x,Bta P ty with
 |true,some e=>.fT e
 |_,_=>k
def Ay9(P:Program)(ty:Nat)(x:Operand):K:=match Aep P ty,x with
 |true,.tmp s=>.take s
 |_,x=>.move x
def mvB(once d:Nat):Bool:=match Nat.testBit once (2*d+1) with
 |true=>true
 |false=>Nat.testBit once 40006 && Nat.testBit once (2*d)
def Avm(P:Program)(once ty:Nat)(dst:Option Nat)(x:Operand):K:=match Aep P ty,x,dst with
 |true,.tmp s,some d=>match mvB once d with
  |true=>.take s
  |false=>.move (.tmp s)
 |_,x,_=>.move x
def Bmp(P:Program)(t:Nat):Bool:=match P.underlying t with
 |some (.tuple _)=>true
 |_=>false
def Ayk(P:Program)(once ty:Nat)(dst:Option Nat)(x:Operand):K:=match Nat.testBit once 40012 && Bmp P ty,x,dst with
 |true,.tmp s,some _=>.take s
 |_,_,_=>Avm P once ty dst x
def Bce(once a:Nat):Nat:=(once >>> (60000+9*a)) % 512
def A3a(once:Nat)(g:Bool)(sz:Nat)(x:Operand):K:=match x with
 | .tmp a=>match Nat.testBit once 40010 && Nat.testBit once (50000+a) with
  |true=>.fC (!Nat.testBit once (41000+Bce once a)) (Bce once a) g sz (.tmp a)
  |false=>.load g sz (.tmp a)
 |x=>.load g sz x
def Baz(a:Nat):List Oper->Option Op
 | []=>none
 |o::r=>match o.dst with
  |some d=>match Nat.beq d a with
   |true=>some o.op
   |false=>Baz a r
  |none=>Baz a r
def A7m(os:List Oper):Nat->Nat->Option Nat
 |0,_=>none
 |n+1,a=>match Baz a os with
  |none=>match Nat.blt a 512 with
   |true=>some a
   |false=>none
  |some (.fieldAddr _ (.tmp x) _)=>A7m os n x
  |some (.nilCheck (.tmp x))=>A7m os n x
  |some (.move (.tmp x))=>A7m os n x
  |some _=>none
def A7d(all:List Oper):List Oper->Nat
 | []=>0
 |o::r=>match o.op with
  | .load _ (.tmp a)| .store _ (.tmp a) _=>match A7m all 20 a with
   |some s=>(1 <<< (50000+a)) ||| (s <<< (60000+9*a)) ||| A7d all r
   |none=>A7d all r
  |_=>A7d all r
def Bb0(once:Nat)(os:List Oper):Nat:=match Nat.testBit once 40010 with
 |true=>once ||| A7d os os
 |false=>once
def A23(P:Program)(once t:Nat)(dst:Option Nat)(g:Bool)(sz:Nat)(x:Operand):K:=match Aep P t,dst with
 |true,some s=>match Nat.testBit once (2*s+1) || Nat.testBit once 40008 with
  |true=>.loadT x
  |false=>A3a once g sz x
 |_,_=>A3a once g sz x
def Awu(once sz:Nat)(a x:Operand):K:=match a with
 | .tmp b=>match Nat.testBit once 40010 && Nat.testBit once (50000+b) with
  |true=>.eT (Bce once b) sz (.tmp b) x
  |false=>.store sz (.tmp b) x
 |a=>.store sz a x
def A58(P:Program)(once t sz:Nat)(a x:Operand):K:=match Aep P t,x with
 |true,.tmp s=>match Nat.testBit once (2*s),Nat.beq sz 1 with
  |true,true=>.storeT a s
  |_,_=>Awu once sz a x
 |_,_=>Awu once sz a x
def Bau(once:Nat)(d:Option Nat):Bool:=Nat.testBit once 40001 && !(match d with|some d=>Nat.testBit once (2*d+1)|none=>false)
def Bje(once:Nat)(d:Option Nat):Bool:=match Nat.testBit once 40009,d with
 |true,some d=>Nat.testBit once (2*d+1)
 |_,_=>false
def Ba5(once:Nat)(x:Operand)(i:Nat):K:=match Nat.testBit once 40012,x,i with
 |true,.tmp s,0=>.dU s
 |_,x,i=>.extract x i
def cOp(P:Program)(inl:Nat->Bool)(once:Nat)(o:Oper):K:=
 match o.op with
 | .move x=>A8z P x o.type (Ayk P once o.type o.dst x)
 | .assign x=>A8z P x o.type (Ay9 P o.type x)
 | .pick c a b=>.pick c a b
 | .alloc t=>match Apx P t with
  |some z=>.alloc z
  |none=>.stop
 | .box _ x=>.box x
 | .build t parts=>match Bdj (Nat.testBit once 40005) P t,A6y P t with
  |some z,some fs=>match Ars fs parts.toList with
   |some l=>.build z l
   |none=>.stop
  |_,_=>.stop
 | .buildSlice t n parts=>match P.underlying t with
  |some (.slice e)=>match szT P e,Apy P e,Akh 0 parts.toList with
   |some sz,some z,some l=>match Nat.beq l.length n,Nat.ble (n*sz) 16777216,Nat.beq z.length sz,Nat.ble 1 sz with
    |true,true,true,true=>match Bje once o.dst with
     |true=>.gG (Nat.testBit once 40002) e sz l
     |false=>.eX e sz l
    |_,_,_,_=>.stop
   |_,_,_=>.stop
  |_=>.stop
 | .load t x=>match P.underlying t,szT P t with
  |some _,some sz=>match Io P t,Nat.beq sz 1 with
   |false,false=>.stop
   |false,true=>A23 P once t o.dst false sz x
   |true,_=>A23 P once t o.dst true sz x
  |_,_=>.stop
 | .store t a x=>match o.dst,szT P t with
  |none,some sz=>A58 P once t sz a x
  |_,_=>.stop
 | .fieldAddr t x f=>match P.underlying t with
  |some (.struct fs)=>match fs[f]? with
   |some fd=>match szT P fd.type with
    |some (_+1)=>.field fd.offset x
    |_=>.stop
   |none=>.stop
  |_=>.stop
 | .indexAddr t x i=>match P.underlying t with
  |some (.slice e)=>match szT P e with
   |some sz=>.index sz x i
   |none=>.stop
  |some (.array n e)=>match szT P e,i with
   |some sz,.const (.int .i64 k)=>match decide (0<=k) && decide (k<(n:Int)) with
    |true=>.field (k.toNat*sz) x
    |false=>.stop
   |_,_=>.stop
  |_=>.stop
 | .extract x i=>Ba5 once x i
 | .nilCheck x=>.nil x
 | .makeFunc (.func f) first caps=>match H8 P f with
  |true=>.gQ f first.size (first.toList++caps.toList)
  |false=>.stop
 | .makeSlice t l c=>match P.underlying t with
  |some (.slice e)=>match P.info? e,szT P e,Apx P e with
   |some i,some sz,some z=>match Nat.beq z.length sz,Nat.ble 1 sz,A04 l c,A1n l with
    |true,true,true,_=>.gH e sz i.bytes z l
    |true,true,false,true=>.fZ e sz i.bytes c
    |_,_,_,_=>.stop
   |_,_,_=>.stop
  |_=>.stop
 | .slice t x lo hi mx=>match P.underlying t with
  |some .string=>match mx with
   |none=>.gN x lo hi
   |some _=>.stop
  |some (.slice e)=>match szT P e,(match mx,hi with|some _,none=>false|_,_=>true) with
   |some sz,true=>.iA sz x lo hi mx
   |_,_=>.stop
  |_=>.stop
 | .makeMap t none=>match P.underlying t with
  |some (.map ek ev)=>match LX.nil ek,LX.nil ev with
   |some x,some y=>.fP (Io P ek) (Io P ev) x y
   |_,_=>.stop
  |_=>.stop
 | .lookup t m q ok=>match P.underlying t with
  |some (.map ek ev)=>match Acr P ek,Apx P ev with
   |some (gq,ts),some z=>match Bdi P ev (Io P ev) with
    |true=>.lookup gq ts ok (Io P ev) z m q
    |false=>.stop
   |_,_=>.stop
  |_=>.stop
 | .mapUpdate t m q v=>match P.underlying t,o.dst with
  |some (.map ek ev),none=>match Acr P ek with
   |some (gq,ts)=>.fH gq ts m q v
   |none=>.stop
  |_,_=>.stop
 | .call { callee:=.value (.func f),args,argTypes:=_ } =>match H8 P f with
  |true=>match inl f with
   |true=>match inl (4398046511104+f) with
    |true=>.fQ f args.toList
    |false=>match Nat.testBit once 40011 && inl (35184372088832+f) with
    |true=>.fG f args.toList
    |false=>match inl (8796093022208+f),args.toList with
     |true,.tmp s::r=>.dZ f (.tmp s::r) s
     |_,l=>.fJ f l
   |false=>.call f args.toList
  |false=>match Ba4 P f,args.toList with
   |some b,[x,y,c]=>.ext b x y c
   |_,_=>.stop
 | .call { callee:=.builtin .delete,args,argTypes } =>match o.dst,args.toList,argTypes.toList with
  |none,[m,q],t::_=>match P.underlying t with
   |some (.map ek _)=>match Acr P ek with
    |some (gq,ts)=>.del gq ts m q
    |none=>.stop
   |_=>.stop
  |_,_,_=>.stop
 | .call { callee:=.value (.tmp x),args,argTypes:=_ } =>.fI (.tmp x) args.toList
 | .call { callee:=.builtin .len,args,argTypes } =>match args.toList,argTypes.toList with
  | [x],[t]=>match Aep P t with
   |true=>.len x
   |false=>.dP o
  |_,_=>.stop
 | .call { callee:=.builtin .cap,args,argTypes } =>match args.toList,argTypes.toList with
  | [x],[t]=>match Aep P t with
   |true=>.cap x
   |false=>.stop
  |_,_=>.stop
 | .call { callee:=.builtin .append,args,argTypes } =>match args.toList,argTypes.toList with
  | [.tmp s,x],[t,t']=>match Nat.beq t t',P.underlying t with
   |true,some (.slice e)=>match P.info? e with
    |some i=>match i.zero with
     |some z=>match Nat.beq z.cells.size i.size,Nat.ble 1 i.size with
      |true,true=>match Nat.testBit once 40009 with
       |true=>.gF (Nat.testBit once 40002) e i.size i.bytes s x
       |false=>match Bau once o.dst && !(inl (2199023255552+e)) with
       |true=>.clone (Nat.testBit once 40002) e i.size i.bytes s x
       |false=>.app e i.size i.bytes s x
      |_,_=>.stop
     |none=>.stop
    |none=>.stop
   |_,_=>.stop
  |_,_=>.stop
 | .call { callee:=.builtin .min,args:=_,argTypes:=_ } | .call { callee:=.builtin .max,args:=_,argTypes:=_ } =>.dP o
 | .binOp b t x y _=>match Io P t with
  |false=>match b,P.underlying t with
   | .quo,some (.int _)=>.dJ 0 x y
   | .rem,some (.int _)=>.dJ 1 x y
   | .shl,some (.int _)=>.dJ 2 x y
   | .shr,some (.int _)=>.dJ 3 x y
   | .add,some .string=>.dJ 4 x y
   | .eql,some (.slice _)=>.dJ 6 x y
   | .neq,some (.slice _)=>.dJ 7 x y
   |_,_=>.dP o
  |true=>match b,Aid P t with
   | .eql,some ts=>.gW false ts x y
   | .neq,some ts=>.gW true ts x y
   |_,_=>.stop
 | .convert b t x=>match P.underlying b,P.underlying t with
  |some (.slice e),some .string=>match P.underlying e with
   |some (.int .u8)=>.gL x
   |_=>.stop
  |_,_=>.dP o
 | .unOp .. =>.dP o
 | .index t x i=>match P.underlying t with
  |some .string=>.dJ 5 x i
  |_=>.stop
 |_=>.stop
def Ams(os:Array Oper):Option (Nat×Bool)->Option (Option (Nat×Bool))
 |none=>some none
 |some (j,w)=>match (os[j]?).bind (·.dst) with
  |some s=>some (some (s,w))
  |none=>none
def Aoc(P:Program)(inl:Nat->Bool)(once:Nat)(os:Array Oper):List Oper->Option (List Ht)
 | []=>some []
 |o::r=>match Ams os o.guard,Aoc P inl once os r with
  |some g,some l=>some (⟨o.dst,g,cOp P inl once o⟩::l)
  |_,_=>none
def K.eU:K->Bool
 | .eT .. | .fC .. | .alloc _| .box _| .load .. | .loadT .. | .store .. | .storeT .. | .call .. | .fJ .. | .dZ .. | .fI .. | .gH .. | .clone .. | .fP .. | .lookup .. | .fH .. | .del .. | .fG .. | .gG .. | .gF .. =>true
 |_=>false
def K.bS:K->Bool
 | .eT .. | .fG .. | .gF .. | .store .. | .storeT .. | .loadT .. | .fJ .. | .dZ .. | .fI .. | .fH .. | .del .. =>true
 |_=>false
def K.gJ:K->Bool
 | .fJ .. | .dZ .. | .fI .. =>true
 |_=>false
def K.makes:K->Bool
 | .alloc _| .box _| .gH .. | .clone .. | .fP .. | .gG .. | .gF .. =>true
 |_=>false
def K.fF:K->Bool
 | .fG .. =>true
 |_=>false
def K.near:K->Bool
 | .fC near _ _ _ _=>near
 |_=>false
def K.mk0(k:K):Bool:=k.makes && !k.bS || k.near
def scm(x y:K):Bool:=(x.fF && y.mk0) || (y.fF && x.mk0)
def w5:List Operand->List Nat
 | []=> []
 | .tmp t::r=>t::w5 r
 |_::r=>w5 r
def A5i:Option Operand->List Operand
 |some x=> [x]
 |none=> []
def K.bQ:K->List Operand
 | .fC _ r _ _ x=> [x,.tmp r]
 | .eT r _ a x=> [a,x,.tmp r]
 | .move x| .gL x| .box x| .load _ _ x| .loadT x| .field _ x| .len x| .cap x| .extract x _| .nil x| .gT _ _ _ x=> [x]
 | .take s| .dU s=> [.tmp s]
 | .pick c a b=> [c,a,b]
 | .alloc _| .fT _| .fP .. | .stop=> []
 | .build _ ps=>ps.map λp=>p.2.2
 | .eX _ _ ps=>ps
 | .store _ a x| .index _ a x| .gW _ _ a x| .dJ _ a x| .del _ _ a x| .lookup _ _ _ _ _ a x=> [a,x]
 | .storeT a s=> [a,.tmp s]
 | .fH _ _ m q v=> [m,q,v]
 | .ext _ x y c=> [x,y,c]
 | .dP o=>o.op.operands.toList
 | .app _ _ _ s x| .clone _ _ _ _ s x| .gF _ _ _ _ s x=> [.tmp s,x]
 | .gG _ _ _ ps=>ps
 | .call _ args| .fG _ args| .fJ _ args| .fQ _ args| .gQ _ _ args=>args
 | .dZ _ args s=>.tmp s::args
 | .fI x args=>x::args
 | .gH _ _ _ _ n| .fZ _ _ _ n=> [n]
 | .iA _ x lo hi mx=>x::(A5i lo++A5i hi++A5i mx)
 | .gN x lo hi=>x::(A5i lo++A5i hi)
def Ht.reads(o:Ht):List Nat:=w5 o.k.bQ++(match o.g with|some (s,_)=> [s]|none=> [])
def Ht.writes(o:Ht):List Nat:=(match o.dst with|some d=> [d]|none=> [])++(match o.k with| .take s=> [s]| .dU s=> [s]| .app _ _ _ s _=> [s]| .clone _ _ _ _ s _=> [s]| .storeT _ s=> [s]| .dZ _ _ s=> [s]|_=> [])
def Aku(a b:List Nat):Bool:=a.any λx=>b.any λy=>Nat.beq x y
def K.addr:K->Option Nat
 | .load _ _ (.tmp a)=>some a
 | .fC _ r _ _ _=>some r
 | .eT r _ _ _=>some r
 | .loadT (.tmp a)=>some a
 | .store _ (.tmp a) _=>some a
 | .storeT (.tmp a) _=>some a
 | .fG _ (.tmp a::_)=>some a
 |_=>none
def Aeo(a b:Nat):List (Nat×Nat)->Bool
 | []=>false
 |(c,d)::r=>(Nat.beq a c && Nat.beq b d) || (Nat.beq a d && Nat.beq b c) || Aeo a b r
def Yw(ap:List (Nat×Nat))(x y:Ht):Bool:=match x.k.addr,y.k.addr with
 |some a,some b=>Aeo a b ap
 |_,_=>false
def K.isLoad:K->Bool
 | .load .. =>true
 | .fC .. =>true
 | .call .. =>true
 |_=>false
def K.eH:K->Bool
 | .loadT _=>true
 |_=>false
def Auq(fx:Bool)(x:K)(fy:Bool)(y:K):Bool:=((x.eH || fx) && y.isLoad) || (x.isLoad && (y.eH || fy))
def Wf(ap:List (Nat×Nat))(fx:Bool)(x:Ht)(fy:Bool)(y:Ht):Bool:=
 Aku x.writes y.reads || Aku x.writes y.writes || Aku x.reads y.writes || (((x.k.bS && y.k.eU) || (x.k.eU && y.k.bS)) && !Yw ap x y && !Auq fx x.k fy y.k && !scm x.k y.k)
def Sx(a:Nat):List Ht->Bool
 | []=>true
 |e::r=>match Aw a e.writes with
  |true=>Sx a r
  |false=>false
def Azi:List Ht->List Nat
 | []=> []
 |e::r=>match e.k.addr with
  |some a=>a::Azi r
  |none=>Azi r
def Arr(l:List Ht)(a:Nat):List Nat->List (Nat×Nat)
 | []=> []
 |b::r=>match Nat.beq a b,Sx b l with
  |false,true=>(a,b)::Arr l a r
  |_,_=>Arr l a r
def Ar6(l:List Ht):List Ht->List (Nat×Nat)
 | []=> []
 |e::r=>match e.k.bS,e.k.addr with
  |true,some a=>match Sx a l with
   |true=>Arr l a (Azi l)++Ar6 l r
   |false=>Ar6 l r
  |_,_=>Ar6 l r
def Aei(l:List Ht):List (Nat×Nat)->Bool
 | []=>true
 |(a,b)::r=>Sx a l && Sx b l && Aei l r
def Aco(o:Oper):List Nat:=(o.after.toList.filter λe=>Region.binds .any e).map (·.on)
def Avk(acc:List Nat):List Nat->Nat
 | []=>0
 |e::r=>(1 <<< e) ||| (acc.getD e 0) ||| Avk acc r
def Bex:List Oper->List Nat->List Nat
 | [],acc=>acc
 |o::r,acc=>Bex r (acc++ [Avk acc (Aco o)])
def below(n:Nat)(p:Nat->Bool):Bool:=match n with
 |0=>true
 |n+1=>match p n with
  |true=>below n p
  |false=>false
def Ht.mkAt(a:Nat)(e:Ht):Bool:=match e.k,e.g,e.dst with
 | .alloc _,none,some d=>Nat.beq d a
 | .box _,none,some d=>Nat.beq d a
 |_,_,_=>false
def Bt7(l:List Ht)(a k:Nat):Bool:=below l.length λj=>Nat.beq j k || (match l[j]? with|some e=>Aw a e.writes|none=>true)
def Dg(l:List Ht)(j:Nat):Bool:=match l[j]? with
 |some e=>e.k.bS && !e.k.eH && (match e.k.addr with
  |some a=> !(below j λk=> !(match l[k]? with|some e'=>e'.mkAt a && Bt7 l a k|none=>false))
  |none=>false)
 |none=>false
def Bb5(ap:List (Nat×Nat))(l:List Ht)(A:List Nat)(i j:Nat):Bool:=match l[i]?,l[j]? with
 |some x,some y=>match Wf ap (Dg l i) x (Dg l j) y with
  |true=>Nat.testBit (A.getD j 0) i
  |false=>true
 |_,_=>true
def Aib(j:Nat):List Nat->Bool
 | []=>true
 |e::r=>match Nat.blt e j with
  |true=>Aib j r
  |false=>false
def Amt(ap:List (Nat×Nat))(os:List Oper)(l:List Ht):Bool:=
 Aei l ap && below os.length λj=>below j (λi=>Bb5 ap l (Bex os []) i j) && (match os[j]? with|some o=>Aib j (Aco o)|none=>true)
def Z7(nt:Nat):List Ht->Bool
 | []=>true
 |o::r=>match o.dst with
  |some d=>match Nat.blt d nt with
   |true=>Z7 nt r
   |false=>false
  |none=>Z7 nt r
def Bmo(d:Nat)(l:List Nat):List Nat:=match Aw d l with
 |true=>l++ [d]
 |false=>l
def A7u:List Oper->List Nat->List Nat
 | [],l=>l
 |o::r,l=>A7u r (match o.op,o.dst with
  | .assign _,some d=>Bmo d l
  | .alloc _,some d=>Bmo d l
  | .box _ _,some d=>Bmo d l
  |_,_=>l)
def Ad9:Code->List Nat->List Nat
 | .region _ os _,l=>A7u os.toList l
 | .seq a b,l=>Ad9 b (Ad9 a l)
 | .cond _ a b,l=>Ad9 b (Ad9 a l)
 | .block _ b,l=>Ad9 b l
 | .loop b,l=>Ad9 b l
 |_,l=>l
def Avn:List Oper->List Nat
 | []=> []
 |o::r=>match o.op,o.dst with
  | .move _,some d=>d::Avn r
  |_,_=>Avn r
def l8:Code->List Nat
 | .region _ os _=>Avn os.toList
 | .seq a b=>l8 a++l8 b
 | .cond _ a b=>l8 a++l8 b
 | .block _ b=>l8 b
 | .loop b=>l8 b
 |_=> []
def A4p:List Nat->List Nat
 | []=> []
 |d::r=>match Aw d r with
  |true=>A4p r
  |false=>d::A4p r
def l7:List Ht->List Nat
 | []=> []
 |o::r=>match o.k.makes,o.dst with
  |true,some d=>d::l7 r
  |_,_=>l7 r
def Ayj:List Nat->Nat
 | []=>0
 |s::r=>(1 <<< s) ||| Ayj r
def Bjg:List Oper->Nat
 | []=>0
 |o::r=>Ayj (w5 o.op.operands.toList) ||| (match o.dst with|some d=>1 <<< d|none=>0) ||| Bjg r
def Gt:Code->Nat
 | .region _ os _=>Bjg os.toList
 | .seq a b=>Gt a ||| Gt b
 | .cond c a b=>Ayj (w5 [c]) ||| Gt a ||| Gt b
 | .block _ b=>Gt b
 | .loop b=>Gt b
 |_=>0
def A25:List ResultVar->Nat
 | []=>0
 | .tmp t::r=>(1 <<< t) ||| A25 r
 | .cell t _::r=>(1 <<< t) ||| A25 r
def Ad4:List ResultVar->List Nat
 | []=> []
 | .tmp t::r=>t::Ad4 r
 | .cell t _::r=>t::Ad4 r
def J7(nt:Nat)(V:List Nat)(out body:Nat):List Nat:=
 (List.range nt).filter λs=>Nat.testBit out s && (Nat.testBit body s || !(Aw s V))
def Aiv:Code->Bool
 | .exit _=>true
 | .ret=>true
 | .skip=>true
 |_=>false
def Bjf(nt m:Nat):List Nat:=(List.range nt).filter λs=>Nat.testBit m s
def Bn5:List Ht->List Nat
 | []=> []
 |o::r=>match o.k with
  | .eX _ _ ps=>w5 ps++Bn5 r
  |_=>Bn5 r
def Be9(ps:List Nat):List Ht->List Nat
 | []=> []
 |o::r=>match o.k,o.dst with
  | .load true _ (.tmp a),some d=>match Aw d ps with
   |true=>Be9 ps r
   |false=>(1000000+a)::Be9 ps r
  |_,_=>Be9 ps r
def Bsn(once:Nat)(l:List Ht):List Nat:=match Nat.testBit once 40013 with
 |true=>Be9 (Bn5 l) l
 |false=> []
def Bba:List Ht->List Nat->List Nat
 | [],acc=>acc
 |o::r,acc=>Bba r (match o.k,o.dst with
  | .eX _ _ ps,_=>w5 ps++acc
  | .call _ args,_=>w5 args++acc
  | .move (.tmp s),some d=>match Aw d acc with
   |true=>acc
   |false=>s::Uf d acc
  | .take s,some d=>match Aw d acc with
   |true=>acc
   |false=>s::Uf d acc
  |_,_=>acc)
structure A4i where
 t:Nat
 os1:Array Oper
 pre:List Oper
 m:Operand
 it:Nat
 nx:Nat
 more:Nat
 pair:Nat
 n:Nat
 os3:Array Oper
 rest:List Oper
def A7l(os1 os2 os3:Array Oper)(mo n:Nat):Option A4i:=match os1.toList.reverse,os2.toList,os3.toList with
 |⟨some it,.range t m,_,_,_,none⟩::pre,[⟨some nx,.next (.tmp it') false,_,_,_,none⟩,⟨some mo',.extract (.tmp nx') 0,_,_,_,none⟩],⟨some pair,.entry (.tmp it''),_,_,_,none⟩::rest=>
  match Nat.beq it it' && Nat.beq it it'' && Nat.beq nx nx' && Nat.beq mo mo' && !Nat.beq it nx && !Nat.beq it mo with
  |true=>some ⟨t,os1,pre.reverse,m,it,nx,mo,pair,n,os3,rest⟩
  |false=>none
 |_,_,_=>none
def A3q:Code->Code->Option A4i
 | .region _ os1 false,.block o (.loop (.seq (.region _ os2 false) (.seq (.cond (.tmp mo) .skip (.exit o')) (.block n (.seq (.region _ os3 false) _)))))=>match Nat.beq o o' with
  |true=>A7l os1 os2 os3 mo n
  |false=>none
 |_,_=>none
def Ayr:EC->Option (List Nat×EC)
 | .block _ (.loop keys (.seq _ (.seq (.kp _) (.seq _ (.seq (.kp _) (.block _ (.seq _ v)))))))=>some (keys,v)
 |_=>none
def A46(P:Program)(t:Nat):Bool:=match P.underlying t with
 |some (.map _ _)=>true
 |_=>false
def A5o(P:Program)(inl:Nat->Bool)(once nt:Nat)(p:A4i):Option (List Nat×EC)->EC
 |some (keys,v)=>match Aoc P inl once p.os1 p.pre,Aoc P inl once p.os3 p.rest with
  |some l1,some l3=>match Z7 nt l1 && Z7 nt l3 && Nat.blt p.it nt && Nat.blt p.nx nt && Nat.blt p.more nt && Nat.blt p.pair nt && A46 P p.t && !Aw p.it keys with
   |true=>.iB l1 p.m p.it p.nx p.more p.pair keys l3 v p.n
   |false=>.stop
  |_,_=>.stop
 |none=>.stop
def Bsz(once:Nat)(V:List Nat):List Nat:=match Nat.testBit once 40007 with
 |true=>V
 |false=> []
def Aoq(once:Nat)(V:List Nat)(e:EC):EC:=match Nat.testBit once 40007 with
 |true=>.seq (.iC V) e
 |false=>e
def Bhp(once:Nat):List Nat->List Nat
 | []=> []
 |s::r=>match Nat.testBit once (42000+s) with
  |true=>s::Bhp once r
  |false=>Bhp once r
def Bhn(once:Nat)(V:List Nat)(l:List Ht):EC:=match Nat.testBit once 40007 with
 |true=>.seq (.gP l) (.iC V)
 |false=>match Nat.testBit once 40009 with
  |true=>.seq (.gP l) (.iD (Bhp once V))
  |false=>.gP l
def vwR(once:Nat)(V:List Nat)(st:St):St:=match Nat.testBit once 40007 with
 |true=>st.vwL V
 |false=>match Nat.testBit once 40009 with
  |true=>st.frzL (Bhp once V)
  |false=>st
def Lr(P:Program)(inl:Nat->Bool)(once nt:Nat)(V:List Nat)(out lt:Nat):Code->EC
 | .skip=>.skip
 | .region _ os d=>match Aoc P inl (Bb0 once os.toList) os os.toList with
  |some l=>match Z7 nt l with
   |true=>match d with
    |true=>match Amt [] os.toList l with
     |true=>.region (l7 l) [] l
     |false=>match Amt (Ar6 l l) os.toList l with
      |true=>.region (l7 l) (Ar6 l l) l
      |false=>.stop
    |false=>match Nat.testBit once 40003 with
     |true=>.seq (.iD (Bba l.reverse (Bsz once V)++Bsn once l)) (Bhn once V l)
     |false=>Bhn once V l
   |false=>.stop
  |none=>.stop
 | .seq a b=>match A3q a b with
  |some p=>A5o P inl once nt p (Ayr (Lr P inl once nt V (out ||| Gt a) lt b))
  |none=>.seq (Lr P inl once nt V (out ||| Gt b) (lt ||| Gt b) a) (match Aiv b with
  |true=>Lr P inl once nt V (out ||| Gt a) lt b
  |false=>.seq (.kp (Bjf nt (lt ||| Gt b))) (Lr P inl once nt V (out ||| Gt a) lt b))
 | .cond c a b=>.cond c (Lr P inl once nt V (out ||| Gt b ||| Ayj (w5 [c])) lt a) (Lr P inl once nt V (out ||| Gt a ||| Ayj (w5 [c])) lt b)
 | .block id b=>.block id (Lr P inl once nt V out lt b)
 | .loop b=>Aoq once V (match Nat.testBit once 40004 with
  |true=>.fV (J7 nt V out (Gt b)) (Lr P inl once nt (V++J7 nt V out (Gt b)) out (lt ||| Gt b) b)
  |false=>.loop (J7 nt V out (Gt b)) (Lr P inl once nt (V++J7 nt V out (Gt b)) out (lt ||| Gt b) b))
 | .exit id=>.exit id
 | .ret=>.ret
 |_=>.stop
def Aso(inl:Nat->Bool)(fn:Func)(j b:Nat):Nat:=match inl (1099511627776+((match fn.params.toList with|t::_=>t| []=>0)*16777216+fn.endLine*4096+fn.ntmps)*8+j) with
 |true=>1 <<< b
 |false=>0
def Bsu(inl:Nat->Bool)(fn:Func):Nat:=match inl (17592186044416+((match fn.params.toList with|t::_=>t| []=>0)*16777216+fn.endLine*4096+fn.ntmps)) with
 |true=>(1 <<< 40009) ||| (A25 fn.results.toList <<< 42000)
 |false=>0
def Bsv(inl:Nat->Bool)(fn:Func):Nat:=match inl (70368744177664+((match fn.params.toList with|t::_=>t| []=>0)*16777216+fn.endLine*4096+fn.ntmps)) with
 |true=>(1 <<< 40010) ||| (((1 <<< fn.params.size)-1) <<< 41000)
 |false=>0
def Bsw(inl:Nat->Bool)(fn:Func):Nat:=match inl (140737488355328+((match fn.params.toList with|t::_=>t| []=>0)*16777216+fn.endLine*4096+fn.ntmps)) with
 |true=>1 <<< 40011
 |false=>0
def Bsx(inl:Nat->Bool)(fn:Func):Nat:=match inl (281474976710656+((match fn.params.toList with|t::_=>t| []=>0)*16777216+fn.endLine*4096+fn.ntmps)) with
 |true=>1 <<< 40012
 |false=>0
def Bsy(inl:Nat->Bool)(fn:Func):Nat:=match inl (562949953421312+((match fn.params.toList with|t::_=>t| []=>0)*16777216+fn.endLine*4096+fn.ntmps)) with
 |true=>1 <<< 40013
 |false=>0
def cFn(P:Program)(inl:Nat->Bool)(fn:Func):Option EC:=match fn.body with
 |some c=>some (Lr P inl (Btf c fn.ntmps ||| Aso inl fn 0 40001 ||| Aso inl fn 1 40003 ||| Aso inl fn 2 40002 ||| Aso inl fn 3 40004 ||| Aso inl fn 4 40005 ||| Aso inl fn 5 40006 ||| Aso inl fn 6 40007 ||| Aso inl fn 7 40008 ||| Bsu inl fn ||| Bsv inl fn ||| Bsw inl fn ||| Bsx inl fn ||| Bsy inl fn) fn.ntmps (Ad9 c (List.range fn.params.size++Ad4 fn.results.toList++A4p (l8 c))) (Ayj (List.range fn.params.size) ||| A25 fn.results.toList) (A25 fn.results.toList) c)
 |none=>none
def Arx(sz:Nat):Nat->List PV->List (List PV)
 |0,_=> []
 |n+1,l=>l.take sz::Arx sz n (l.drop sz)
def PV.finN(O:Nat->List PV):Nat->PV->PV
 |0,p=>p.pure0
 |m+1,p=>match p with
 | .vw c d e sz n=>match c,O d with
  |false,[.bU x]=>match Nat.beq sz x.sz with
   |true=>.aV false x
   |false=>.any
  |true,cs=>match LX.lit e (Arx sz n (cs.map (PV.finN O m))),X4 cs (n*sz) && Ia cs with
   |some x,true=>match Nat.beq sz x.sz with
    |true=>.aV false x
    |false=>.any
   |_,_=>.any
  |_,_=>.any
 |p=>p.pure0
def PV.fin1(O:Nat->List PV)(p:PV):PV:=PV.finN O 3 p
def PV.fin(O:Nat->List PV):PV->PV
 | .agg l=>.agg (l.map (PV.fin1 O))
 | .bI l=>.bI (l.map (PV.fin1 O))
 | .sl _ e sz es=>.sl false e sz (es.map λr=>r.map PV.pure0)
 |p=>p.fin1 O
def Wh(P:Program)(st:St):List ResultVar->(List PV->Prop)->Prop
 | [],k=>k []
 | .tmp t::r,k=>Wh P st r λl=>k (st.get t::l)
 | .cell a t::r,k=>match st.get a,szT P t,P.underlying t with
  | .loc b off,some sz,some _=>match Io P t,Nat.beq sz 1,Th ((st.obj b).drop off) sz && Ia (((st.obj b).drop off).take sz) with
   |true,_,true=>Wh P st r λl=>k (.agg (((st.obj b).drop off).take sz)::l)
   |false,true,true=>Wh P st r λl=>k (mkP false (((st.obj b).drop off).take sz)::l)
   |_,_,_=>False
  |_,_,_=>False
def Aah(i:Nat):List PV->List (Nat×PV)
 | []=> []
 |p::r=>(i,p)::Aah (i+1) r
def Adp(i:Nat):List PV->List (Nat×PV)
 | []=> []
 |p::r=>(i,p.view)::Adp (i+1) r
def Akl(O:Nat->List PV)(k:PV->Prop):List PV->Prop
 | [r]=>k (r.fin O)
 |l=>k (.bI (l.map (PV.fin O)))
def Bbm(P:Program)(rs:List ResultVar)(k:PV->Prop):Ex->St->Prop:=λe st=>match e with
 | .exit _=>False
 | .normal=>Wh P st rs (Akl st.obj k)
 | .ret=>Wh P st rs (Akl st.obj k)
def Az0(ob:List (Nat×List PV))(k:PV->List (Nat×List PV)->Prop):List PV->Prop
 | [r]=>k r ob
 |l=>k (.bI (Bbb l)) ob
def St.endI(st:St)(rs:List ResultVar):St:=match rs with
 | []=>match A0b 7 (C9 st) with
  |false=>st
  |true=>Akp (Ad4 rs) (gcK (Ad4 rs) st) st
 |_::_=>st
def Ayf(P:Program)(rs:List ResultVar)(k:PV->List (Nat×List PV)->Prop):Ex->St->Prop:=λe st=>match e with
 | .exit _=>False
 | .normal=>Wh P (st.endI rs) rs (Az0 (Zy (st.endI rs).ob) k)
 | .ret=>Wh P (st.endI rs) rs (Az0 (Zy (st.endI rs).ob) k)
def Bth(P:Program)(C:Bj)(f:Nat)(args:List PV)(k:PV->List (Nat×List PV)->Prop):Prop:=match H8 P f,As7 PV.gY args with
 |true,true=>C f (.bI []::args) λr=>match r with
  | .aV false x=>k (.aV true x) []
  |_=>False
 |_,_=>False
def Bi9(e b:Nat)(args:List PV)(k:PV->List (Nat×List PV)->Prop):Prop:=match args,LX.nil e with
 | [.val (.slice none 0 0),.val (.int .i64 m)],some x=>gd (0<=m) (gd (m*(b:Int)<=140737488355328) (gd (m<=(4611686018427387904:Int)) (k (.aV true x) [])))
 |_,_=>False
def evJ(P:Program)(inl:Nat->Bool)(C:Bj)(L:Nat)(X:Inl):Inl:=λf args ob k=>match inl f with
  |true=>match P.funcs[f]? with
   |some fn=>match cFn P inl fn,Nat.ble args.length fn.ntmps,H8 P f with
    |some ec,true,true=>evC P C X L ec { fr:=Aah 0 args,ob:=ob,base:=Abz ob } (Ayf P fn.results.toList k)
    |_,_,_=>False
   |none=>False
  |false=>match H8 P f with
   |true=>C f (args.map (Aly (C1 [] ob))) λr=>k r.view []
   |false=>False
def Bav(e:Nat)(args:List PV)(k:PV->List (Nat×List PV)->Prop)(E:Prop):Prop:=match args,LX.nil e with
 | [.aV _ z],some n=>br (Nat.beq z.len 0) (k (.aV true n) []) E
 |_,_=>E
def evB(P:Program)(inl:Nat->Bool)(G:Nat->Option (Nat×Nat))(C:Bj)(L:Nat)(X:Inl):Inl:=λf args ob k=>match G f with
  |some (e,b)=>match Nat.beq b 0 with
   |true=>Bav e args k (evJ P inl C L X f args ob k)
   |false=>match Nat.beq b 2000000 with
    |true=>stK P C f args ob k
    |false=>match Nat.beq b 3000000 with
     |true=>Bth P C f args k
     |false=>Bi9 e b args k
  |none=>evJ P inl C L X f args ob k
def A2h(P:Program)(inl:Nat->Bool)(G:Nat->Option (Nat×Nat))(C:Bj)(L:Nat):Nat->Inl
 |0,_,_,_,_=>False
 |n+1,f,args,ob,k=>evB P inl G C L (A2h P inl G C L n) f args ob k
noncomputable def YoS(P:Program)(inl:Nat->Bool)(G:Nat->Option (Nat×Nat))(C:Bj)(L:Nat): { Y:Nat->Inl // Y=A2h P inl G C L } :=Classical.choice ⟨⟨A2h P inl G C L,rfl⟩⟩
noncomputable def Yo(P:Program)(inl:Nat->Bool)(G:Nat->Option (Nat×Nat))(C:Bj)(L:Nat):Nat->Inl:=(YoS P inl G C L).1
noncomputable def evI(P:Program)(inl:Nat->Bool)(G:Nat->Option (Nat×Nat))(J:Nat->Bool)(C:Bj)(L:Nat):Nat->Inl
 |0,_,_,_,_=>False
 |n+1,f,args,ob,k=>match J f with
  |true=>Yo P inl G C L (n+1) f args ob k
  |false=>evB P inl G C L (evI P inl G J C L n) f args ob k
theorem Bi3(P:Program)(inl:Nat->Bool)(G:Nat->Option (Nat×Nat))(C:Bj)(L:Nat):Yo P inl G C L=A2h P inl G C L:=(YoS P inl G C L).2
theorem A4u(P:Program)(inl:Nat->Bool)(G:Nat->Option (Nat×Nat))(J:Nat->Bool)(C:Bj)(L:Nat):∀n,evI P inl G J C L n=A2h P inl G C L n
 |0=>rfl
 |n+1=>by
  funext f args ob k
  simp only[evI,A2h,Bi3,A4u P inl G J C L n];cases J f<;>rfl
theorem Dj(P:Program)(inl:Nat->Bool)(G:Nat->Option (Nat×Nat))(J:Nat->Bool)(C:Bj)(L n f:Nat)(args:List PV)(ob:List (Nat×List PV))(k:PV->List (Nat×List PV)->Prop):
  Yo P inl G C L (n+1) f args ob k=evB P inl G C L (evI P inl G J C L n) f args ob k:=by
 rw[Bi3,A4u];rfl
def Ai4:List PV->Bool
 | .bI _::_=>true
 |_=>false
def A6g(o:Bool)(r:PV):PV:=match o with
 |true=>r
 |false=>r.view
def kSt(o0:Bool)(k:PV->Prop):PV->List (Nat×List PV)->Prop:=λr o=>match okE (C1 [] o 0),(A6g o0 r).fx with
 |true,true=>k (.bI [A6g o0 r,.agg (C1 [] o 0)])
 |_,_=>False
def A6u(P:Program)(C:Bj)(X:Inl)(L:Nat)(o0:Bool)(rs:List ResultVar)(ec:EC)(cells:List PV)(args:List PV)(k:PV->Prop):Prop:=
 evC P C X L ec { fr:=Adp 0 (.loc 0 0::args),ob:= [(0,cells)],base:=Abz [(0,cells)] } (Ayf P rs (kSt o0 k))
def A2g(P:Program)(C:Bj)(X:Inl)(L:Nat)(rs:List ResultVar)(ec:EC)(args:List PV)(k:PV->Prop):Prop:=match Ai4 args with
 |true=>False
 |false=>evC P C X L ec { fr:=Adp 0 args,ob:= [],base:=0 } (Bbm P rs k)
theorem Aqa{P:Program}{C:Bj}{X:Inl}{L:Nat}{rs:List ResultVar}{ec:EC}{args:List PV}{k:PV->Prop}(h:A2g P C X L rs ec args k):Ai4 args=false/\evC P C X L ec { fr:=Adp 0 args,ob:= [],base:=0 } (Bbm P rs k):=by
 unfold A2g at h;cases hh:Ai4 args with
 |true=>rw[hh]at h;exact h.elim
 |false=>rw[hh]at h;exact⟨rfl,h⟩
end Go.Proofs.YtgacplpjamkieaaGreat.Ev
namespace Go.Proofs.YtgacplpjamkieaaGreat.Ev
open Go Go.RowKit
abbrev Ro:=Nat->Option Nat
abbrev Qd:=Nat->Option (Nat×Nat)
def imm(M:Ro)(a:Addr):Prop:=∀n,M a.block=some n->a.off<n
def dR(w:World)(b:Nat):Nat:=match w.heap[b]? with
 |some (.cells cs _ _)=>cs.size
 |_=>0
theorem A16{w w':World}{b:Nat}(h:w'.heap[b]? =w.heap[b]?):dR w b<=dR w' b:=by unfold dR;rw[h];exact Nat.le_refl _
theorem Abj{w:World}{b:Nat}{cs:Array Value}{t:Nat}{f:Nat×Nat}(h:w.heap[b]? =some (.cells cs t f)):dR w b=cs.size:=by unfold dR;rw[h]
theorem Z3{w w':World}(h:Below w.heap.size w w')(b:Nat):dR w b<=dR w' b:=by
 rcases Nat.lt_or_ge b w.heap.size with hb|hb
 ·exact A16 (h.block b hb)
 ·unfold dR;rw[Array.getElem?_eq_none hb];exact Nat.zero_le _
theorem Aob{w w':World}{g:Nat}(hoth:∀k,k≠g->w'.heap[k]? =w.heap[k]?)(hg:dR w g<=dR w' g)(b:Nat):dR w b<=dR w' b:=by
 by_cases e:b=g
 ·subst e;exact hg
 ·exact A16 (hoth b e)
structure He where
 w:World
 old:Nat->Prop
 lt:∀b,old b->b<w.heap.size
structure Bel (B:He) (w:World):Prop where
 os:w.os=B.w.os
 tape:w.tape=B.w.tape
 output:w.output=B.w.output
 size:B.w.heap.size<=w.heap.size
 block:∀k,B.old k->w.heap[k]? =B.w.heap[k]?
 dR:∀k,dR B.w k<=dR w k
inductive B5 (w:World) (M:Ro) (β :Qd) (B:Nat->Prop):PV->Value->Prop
 |any (v:Value):B5 w M β B .any v
 |val (v:Value) (h:v.oneCell'=true):B5 w M β B (.val v) v
 |agg (l:List PV) (cs:List Value) (hl:l.length=cs.length) (h1:∀v∈cs,v.oneCell'=true)
   (hr:∀(i:Nat) (p:PV) (v:Value),l[i]? =some p->cs[i]? =some v->B5 w M β B p v):B5 w M β B (.agg l) (.agg cs.toArray)
 |bI (l:List PV) (cs:List Value) (hl:l.length=cs.length)
   (hr:∀(i:Nat) (p:PV) (v:Value),l[i]? =some p->cs[i]? =some v->B5 w M β B p v):B5 w M β B (.bI l) (.tuple cs.toArray)
 |row (p:PV) (s:SV) (hs:p.sv=some s) (a:Option Addr) (c:Nat) (vs:Nat->Nat->Value)
   (hc:s.n<=c)(hsz:∀(i:Nat),i<s.n->(s.f i).length=s.sz)(ha:∀(i:Nat),i<s.n->∃ad,a=some ad)
   (hm:∀(ad:Addr) (i:Nat) (j:Nat) (p:PV),a=some ad->i<s.n->(s.f i)[j]? =some p->imm M (ad.add (i*s.sz+j))/\w.cell? (ad.add (i*s.sz+j))=some (vs i j)/\(vs i j).oneCell'=true)
   (hr:∀(i:Nat) (j:Nat) (p:PV),i<s.n->(s.f i)[j]? =some p->B5 w M β B p (vs i j)):B5 w M β B p (.slice a s.n c)
 |loc (d off b n:Nat) (h: β d=some (b,n)):B5 w M β B (.loc d off) (.pointer (some ⟨b,off,none⟩))
 |el (d sz i off b n:Nat) (h: β d=some (b,n)) (hi:i<n):B5 w M β B (.el d sz i off) (.pointer (some ⟨b,i*sz+off,none⟩))
 |vw (cf:Bool) (d e sz n b c:Nat) (h: β d=some (b,n)) (hc:n<=c) (hz:c*sz<=dR w b):B5 w M β B (.vw cf d e sz n) (.slice (some ⟨b,0,none⟩) n c)
 |mp (d b n:Nat) (h: β d=some (b,n)):B5 w M β B (.mp d) (.map (some b))
 |bK (f n:Nat) (l:List PV) (cs:List Value) (hl:l.length=cs.length)
   (hr:∀(i:Nat) (p:PV) (v:Value),l[i]? =some p->cs[i]? =some v->B5 w M β B p v):B5 w M β B (.bK f n l) (.func (.func f) (cs.take n).toArray (cs.drop n).toArray)
 |ref (l:List PV) (ad:Addr) (vs:Nat->Value) (hm:∀(i:Nat) (p:PV),l[i]? =some p->(B ad.block\/Ev.imm M (ad.add i))/\w.cell? (ad.add i)=some (vs i)/\(vs i).oneCell'=true)
   (hr:∀(i:Nat) (p:PV),l[i]? =some p->B5 w M β B p (vs i)):B5 w M β B (.ref l) (.pointer (some ad))
def Ext(w:World)(M:Ro)(w':World)(M':Ro):Prop:=∀a v,imm M a->w.cell? a=some v->imm M' a/\w'.cell? a=some v
theorem Ext.refl(w:World)(M:Ro):Ext w M w M:=λ_ _ h h'=>⟨h,h'⟩
theorem Ext.trans{w w' w'':World}{M M' M'':Ro}(h:Ext w M w' M')(h':Ext w' M' w'' M''):Ext w M w'' M'':=
 λa v hi hc=>let ⟨h1,h2⟩:=h a v hi hc;h' a v h1 h2
theorem Ald(a:Addr)(n:Nat):(a.add n).block=a.block:=by unfold Addr.add;split<;>rfl
theorem At5(a:Addr)(i j:Nat):(a.add i).add j=a.add (i+j):=by
 unfold Addr.add;by_cases hi:i=0<;>by_cases hj:j=0<;>simp[hi,hj,Nat.add_assoc]
theorem add_lit(g k:Nat):(⟨g,0,none⟩:Addr).add k=⟨g,k,none⟩:=by unfold Addr.add;split<;>simp_all
theorem Afw(g o k:Nat):(⟨g,o,none⟩:Addr).add k=⟨g,o+k,none⟩:=by unfold Addr.add;split<;>simp_all
section
variable {w w':World} {M M':Ro} {β β':Qd} {B:Nat->Prop}
theorem B5.ext1(h:∀a v,v.oneCell'=true->imm M a->w.cell? a=some v->imm M' a/\w'.cell? a=some v)(hB:∀a:Addr,B a.block->w'.cell? a=w.cell? a)(hβ :∀d x,β d=some x->β' d=some x)(hz:∀d b n,β d=some (b,n)->dR w b<=dR w' b){p:PV}{v:Value}(hr:B5 w M β B p v):B5 w' M' β' B p v:=by
 induction hr with
 |any v=>exact .any v
 |val v h=>exact .val v h
 |agg l cs hl h1 _ ih=>exact .agg l cs hl h1 ih
 |bI l cs hl _ ih=>exact .bI l cs hl ih
 |row p s hs a c vs hc hsz ha hm _ ih=>
  exact .row p s hs a c vs hc hsz ha (λad i j p h1 h2 h3=>let ⟨g1,g2,g3⟩:=hm ad i j p h1 h2 h3;let ⟨k1,k2⟩:=h _ _ g3 g1 g2;⟨k1,k2,g3⟩) ih
 |loc d off b n h=>exact .loc d off b n (hβ _ _ h)
 |el d sz i off b n h hi=>exact .el d sz i off b n (hβ _ _ h) hi
 |vw cf d e sz n b c h hc h2=>exact .vw cf d e sz n b c (hβ _ _ h) hc (Nat.le_trans h2 (hz _ _ _ h))
 |mp d b n h=>exact .mp d b n (hβ _ _ h)
 |bK f n l cs hl _ ih=>exact .bK f n l cs hl ih
 |ref l ad vs hm _ ih=>
  refine .ref l ad vs (λi p hp=>?_) ih;obtain⟨g1,g2,g3⟩:=hm i p hp;rcases g1 with g1|g1
  ·exact⟨.inl g1,by rw[hB _ (by rw[Ald];exact g1)];exact g2,g3⟩
  ·obtain⟨k1,k2⟩:=h _ _ g3 g1 g2;exact⟨.inr k1,k2,g3⟩
theorem B5.ext(h:Ext w M w' M')(hB:∀a:Addr,B a.block->w'.cell? a=w.cell? a)(hβ :∀d x,β d=some x->β' d=some x)(hz:∀d b n,β d=some (b,n)->dR w b<=dR w' b){p:PV}{v:Value}(hr:B5 w M β B p v):B5 w' M' β' B p v:=
 hr.ext1 (λa v _ hi hc=>h a v hi hc) hB hβ hz
theorem Ahc{p:PV}{s:SV}(h:p.view.sv=some s):s.own=false:=by
 cases p with
 |bI l=>cases l<;>cases h
 |_=>simp only[PV.view,PV.sv]at h;first|(injection h with h;subst h;rfl)|cases h
theorem Bde{p:PV}{s:SV}(h:p.sv=some s):p.dQ.sv=some { s with own:=false } :=by
 cases p<;>simp only[PV.sv]at h<;>first|(injection h with h;subst h;rfl)|cases h
theorem A9s{p:PV}{s:SV}(h:p.dQ.sv=some s):s.own=false:=by
 cases p<;>simp only[PV.dQ,PV.sv]at h<;>first|(injection h with h;subst h;rfl)|cases h
theorem Ow{p:PV}{s:SV}(h:p.view.eG=some s):s.own=false:=by
 cases p with
 |bI l=>
  cases l with
  |nil=>cases h
  |cons q r=>exact A9s h
 |aV o x=>injection h with h;subst h;rfl
 |sl o e sz es=>injection h with h;subst h;rfl
 |_=>cases h
theorem Ud{p:PV}{s:SV}(h:p.sv=some s):p.eG=some s/\∀v,ohd p v=v:=by
 cases p<;>simp only[PV.sv]at h<;>first|(injection h with h;subst h;exact⟨rfl,λ_=>rfl⟩)|cases h
theorem A7i{p:PV}(h:p.one=true):p.eG=p.sv/\∀v,ohd p v=v:=by
 cases p<;>first|exact⟨rfl,λ_=>rfl⟩|cases h
theorem A9t{p:PV}{x:LX}(h:p.view=.bU x):p=.bU x:=by
 cases p with
 |bI l=>cases l<;>cases h
 |_=>first|exact h|cases h
theorem A9v{p:PV}{a b:Bool}{c d:LX}(h:p.view=.aP a b c d):p=.aP a b c d:=by
 cases p with
 |bI l=>cases l<;>cases h
 |_=>first|exact h|cases h
theorem A9u{p:PV}{a:Array MapEntry}{b:Nat}{c d:Bool}{e f:LX}(h:p.view=.dB a b c d e f):p=.dB a b c d e f:=by
 cases p with
 |bI l=>cases l<;>cases h
 |_=>first|exact h|cases h
theorem Axv{p:PV}(h:p.sv=none):p.dQ=p:=by
 cases p<;>first|rfl|(simp only[PV.sv]at h;cases h)
theorem B5.dQ{p:PV}{v:Value}(h:B5 w M β B p v):B5 w M β B p.dQ v:=by
 cases hq:p.sv with
 |none=>rw[Axv hq];exact h
 |some s=>
  have key:∀(p q:PV) (s:SV),p.sv=some s->q.sv=some { s with own:=false } ->B5 w M β B p v->B5 w M β B q v:=by
   intro p q s hp hq hr;cases hr with
   |row p s' hs a c vs hc hsz ha hm hr=>
    rw[hp]at hs;injection hs with hs;subst hs
    exact .row q { s with own:=false } hq a c vs hc hsz ha hm hr
   |_=>simp only[PV.sv]at hp;cases hp
  exact key p p.dQ s hq (Bde hq) h
theorem B5.view{p:PV}{v:Value}(h:B5 w M β B p v):B5 w M β B p.view v:=by
 cases p with
 |bI l=>
  cases l with
  |nil=>exact h
  |cons q r=>
   cases h with
   |row p s hs=>cases hs
   |bI l cs hl hr=>
    refine .bI _ cs hl (λi p v hp hv=>?_);cases i with
    |zero=>injection hp with hp;subst hp;exact(hr 0 q v rfl hv).dQ
    |succ i=>exact hr (i+1) p v hp hv
 |_=>exact h.dQ
theorem A0t(v:Value):Arq v=v.oneCell':=by cases v<;>rfl
theorem B5.one{p:PV}{v:Value}(h:B5 w M β B p v)(h1:p.one=true):v.oneCell'=true:=by
 cases h with
 |any=>simp[PV.one]at h1
 |val v h=>exact h
 |agg=>simp[PV.one]at h1
 |bI=>simp[PV.one]at h1
 |_=>rfl
theorem Ba9{p:PV}{s:SV}(hf:p.flat=true)(hs:p.sv=some s):∀(i j:Nat) (q:PV),(s.f i)[j]? =some q->q.flat=true:=by
 intro i j q hq;cases p with
 |aV own x=>injection hs with hs;subst hs;exact LX.row_flat _ _ _ (List.mem_of_getElem? hq)
 |sl=>cases hf
 |_=>cases hs
theorem B5.flat{B':Nat->Prop}{p:PV}{v:Value}(h:B5 w M β B p v)(hf:p.flat=true):B5 w M β' B' p v:=by
 induction h with
 |any v=>exact .any v
 |val v h=>exact .val v h
 |row p s hs a c vs hc hsz ha hm hr ih=>
  exact .row p s hs a c vs hc hsz ha hm (λi j q hi hq=>ih i j q hi hq (Ba9 hf hs i j q hq))
 |_=>simp[PV.flat]at hf
theorem B5.pure0{B':Nat->Prop}{p:PV}{v:Value}(h:B5 w M β B p v):B5 w M β' B' p.pure0 v:=by
 unfold PV.pure0;cases hf:p.flat with
 |true=>exact(h.flat hf).view
 |false=>exact .any v
theorem B5.val_eq{v u:Value}(h:B5 w M β B (.val v) u):u=v:=by
 cases h with
 |val v h=>rfl
 |row p s hs=>cases hs
theorem B5.le{p q:PV}{v:Value}(hl:PV.Le p q)(h:B5 w M β B p v):B5 w M β B q v:=by
 cases hl with
 |view=>exact h.view
 |nil own y hy=>
  have:=h.val_eq;subst this;have:B5 w M β B (.aV own y) (.slice none (SV.mk own y.e y.sz y.len y.row).n 0):=
   .row _ ⟨own,y.e,y.sz,y.len,y.row⟩ rfl none 0 (λ_ _=>undef) (by simp[hy]) (λi hi=>by simp[hy]at hi) (λi hi=>by simp[hy]at hi) (λad i j p ha=>by cases ha) (λi j p hi=>by simp[hy]at hi)
  simpa[hy]using this
theorem Ac3{s:PV->Bool} :∀ {l:List PV},Ami s l=true->∀(i:Nat) (p:PV),l[i]? =some p->s p=true
 | [],_,i,p,h=>by simp at h
 |q::r,h,i,p,hp=>by
  simp only[Ami]at h;cases hq:s q with
  |false=>rw[hq]at h;cases h
  |true=>
   rw[hq]at h;cases i with
   |zero=>simp at hp;subst hp;exact hq
   |succ i=>exact Ac3 h i p (by simpa using hp)
theorem Awj{s:PV->Bool} :∀ {l:List (List PV)},A03 s l=true->∀(i:Nat),Ami s (l.getD i [])=true
 | [],_,i=>rfl
 |q::r,h,i=>by
  simp only[A03]at h;cases hq:Ami s q with
  |false=>rw[hq]at h;cases h
  |true=>
   rw[hq]at h;cases i with
   |zero=>exact hq
   |succ i=>exact Awj h i
def Qd.cut(β :Qd)(D:Nat->Bool):Qd:=λd=>if D d then none else β d
theorem Qd.cut_some{β :Qd}{D:Nat->Bool}{d:Nat}{x:Nat×Nat}(h: β.cut D d=some x): β d=some x/\D d=false:=by
 unfold Qd.cut at h;cases hd:D d with
 |true=>rw[hd]at h;simp at h
 |false=>rw[hd]at h;exact⟨by simpa using h,rfl⟩
theorem Qd.cut_eq{β :Qd}{D:Nat->Bool}{d:Nat}(h:D d=false): β.cut D d= β d:=by unfold Qd.cut;rw[h];rfl
theorem B5.safe0{D:Nat->Bool}{p:PV}{v:Value}(hs:p.safe0 D=true)(h:B5 w M β B p v):B5 w M (β.cut D) B p v:=by
 cases h with
 |any v=>exact .any v
 |val v h=>exact .val v h
 |row p s hsv a c vs hc hsz ha hm hr=>
  cases p with
  |sl=>simp[PV.safe0]at hs
  |aV own x=>exact(B5.row (β := β) (B:=B) _ s hsv a c vs hc hsz ha hm hr).flat rfl
  |_=>cases hsv
 |loc d off b n h=>exact .loc d off b n (by rw[Qd.cut_eq (by simpa[PV.safe0]using hs)];exact h)
 |el d sz i off b n h hi=>exact .el d sz i off b n (by rw[Qd.cut_eq (by simpa[PV.safe0]using hs)];exact h) hi
 |vw cf d e sz n b c h hc h2=>exact .vw cf d e sz n b c (by rw[Qd.cut_eq (by simpa[PV.safe0]using hs)];exact h) hc h2
 |mp d b n h=>exact .mp d b n (by rw[Qd.cut_eq (by simpa[PV.safe0]using hs)];exact h)
 |_=>simp[PV.safe0]at hs
theorem B5.safeUp{s:PV->Bool}(hs:∀p v,s p=true->B5 w M β B p v->B5 w M β' B p v){p:PV}{v:Value}(h1:p.safeUp s=true)(h:B5 w M β B p v):B5 w M β' B p v:=by
 cases h with
 |agg l cs hl h1' hr=>exact .agg l cs hl h1' (λi p v hp hv=>hs _ _ (Ac3 h1 i p hp) (hr i p v hp hv))
 |bI l cs hl hr=>exact .bI l cs hl (λi p v hp hv=>hs _ _ (Ac3 h1 i p hp) (hr i p v hp hv))
 |bK f n l cs hl hr=>exact .bK f n l cs hl (λi p v hp hv=>hs _ _ (Ac3 h1 i p hp) (hr i p v hp hv))
 |ref l ad vs hm hr=>exact .ref l ad vs hm (λi p hp=>hs _ _ (Ac3 h1 i p hp) (hr i p hp))
 |row p sv hsv a c vs hc hsz ha hm hr=>
  cases p with
  |sl own e sz es=>
   injection hsv with hsv;subst hsv
   exact .row _ _ rfl a c vs hc hsz ha hm (λi j q hi hq=>hs _ _ (Ac3 (Awj h1 i) j q hq) (hr i j q hi hq))
  |aV own x=>exact(B5.row (β := β) (B:=B) _ sv hsv a c vs hc hsz ha hm hr).flat rfl
  |_=>cases hsv
 |any v=>exact .any v
 |val v h=>exact .val v h
 |loc d off b n h=>exact hs _ _ h1 (.loc d off b n h)
 |el d sz i off b n h hi=>exact hs _ _ h1 (.el d sz i off b n h hi)
 |vw cf d e sz n b c h hc h2=>exact hs _ _ h1 (.vw cf d e sz n b c h hc h2)
 |mp d b n h=>exact hs _ _ h1 (.mp d b n h)
theorem B5.clean{D:Nat->Bool}{p:PV}{v:Value}(h:B5 w M β B p v):B5 w M (β.cut D) B (p.clean D) v:=by
 unfold PV.clean;cases hs:p.safe D with
 |false=>exact .any v
 |true=>
  refine B5.safeUp (s:=PV.safeUp (PV.safeUp (PV.safe0 D))) (λp v h1 h=>?_) hs h;refine B5.safeUp (s:=PV.safeUp (PV.safe0 D)) (λp v h1 h=>?_) h1 h;exact B5.safeUp (s:=PV.safe0 D) (λp v h1 h=>h.safe0 h1) h1 h
theorem Bat{D:Nat->Bool}{p:PV}{s:SV}(h:(p.clean D).sv=some s):p.sv=some s:=by
 unfold PV.clean at h;split at h
 ·exact h
 ·cases h
theorem Ax4{D:Nat->Bool}{p:PV} :(p.clean D)=p\/(p.clean D)=.any:=by
 unfold PV.clean;split
 ·exact .inl rfl
 ·exact .inr rfl
end
def tb:Value->Option Nat
 | .slice (some a) n c=>match Nat.blt n c with
  |true=>some a.block
  |false=>none
 |_=>none
theorem w4{a:Addr}{n c g:Nat}(h:tb (.slice (some a) n c)=some g):a.block=g:=by
 simp only[tb]at h;split at h
 ·injection h
 ·cases h
theorem Bc5{a:Addr}{n c:Nat}(h:n<c):tb (.slice (some a) n c)=some a.block:=by
 simp only[tb,show Nat.blt n c=true from Nat.ble_eq_true_of_le h]
theorem Aiy{a:Option Addr}{n g:Nat} :tb (.slice a n n)≠some g:=by
 cases a with
 |none=>intro h;cases h
 |some a=>
  have:Nat.blt n n=false:=by
   cases hb:Nat.blt n n with
   |false=>rfl
   |true=>exact absurd (Nat.le_of_ble_eq_true hb) (Nat.lt_irrefl n)
  simp only[tb,this];intro h;cases h
def Aca(w:World)(M:Ro)(B:Nat->Prop)(s:SV)(v:Value):Prop:=
 (∃a,v=.slice a s.n s.n)\/
 ∃g c cur,v=.slice (some ⟨g,0,none⟩) s.n (c+1)/\¬B g/\M g=some (s.n*s.sz)/\w.heap[g]? =some (.cells cur s.e (0,0))/\s.n<=c+1/\c+1<=maxLen/\cur.size=(c+1)*s.sz
theorem Aca.z{w:World}{M:Ro}{B:Nat->Prop}{s:SV}{v:Value}{a:Option Addr}(h:v=.slice a 0 0)(hn:s.n=0):Aca w M B s v:=.inl ⟨a,by rw[h,hn]⟩
theorem Aca.cut{w:World}{M:Ro}{B:Nat->Prop}{s:SV}{v:Value}(h:Aca w M B s v):(∃a,v=.slice a s.n s.n)\/
  ∃g c cur,v=.slice (some ⟨g,0,none⟩) s.n (c+1)/\¬B g/\M g=some (s.n*s.sz)/\w.heap[g]? =some (.cells cur s.e (0,0))/\s.n<=c+1/\c+1<=maxLen/\cur.size=(c+1)*s.sz/\tb v=some g:=by
 rcases h with h|⟨g,c,cur,h1,h2,h3,h4,h5,h6,h7⟩
 ·exact .inl h
 ·rcases Nat.lt_or_ge s.n (c+1)with h|h
  ·exact .inr ⟨g,c,cur,h1,h2,h3,h4,h5,h6,h7,by rw[h1];exact Bc5 h⟩
  ·exact .inl ⟨_,by rw[h1];congr 1;omega⟩
def Rv(es:Array MapEntry)(clock:Nat):Prop:=(∀(i j:Nat) (ei ej:MapEntry),es[i]? =some ei->es[j]? =some ej->ei.born=ej.born->i=j)/\∀(i:Nat) (e:MapEntry),es[i]? =some e->e.born<clock
theorem Rv.nil(clock:Nat):Rv #[] clock:=⟨λi j ei ej h=>by simp at h,λi e h=>by simp at h⟩
theorem Rv.push{es:Array MapEntry}{clock:Nat}(h:Rv es clock)(k v:Value):Rv (es.push { key:=k,val:=v,born:=clock }) (clock+1):=by
 have old:∀(i:Nat) (e:MapEntry),(es.push { key:=k,val:=v,born:=clock })[i]? =some e->(i=es.size/\e.born=clock)\/(es[i]? =some e/\e.born<clock):=λi e he=>by
  rw[Array.getElem?_push]at he;by_cases hi:i=es.size
  ·rw[if_pos hi]at he;injection he with he;subst he;exact .inl ⟨hi,rfl⟩
  ·rw[if_neg hi]at he;exact .inr ⟨he,h.2 i e he⟩
 refine⟨λi j ei ej hi hj hb=>?_,λi e he=>?_⟩
 ·rcases old i ei hi with⟨a1,a2⟩|⟨a1,a2⟩<;>rcases old j ej hj with⟨b1,b2⟩|⟨b1,b2⟩
  ·omega
  ·omega
  ·omega
  ·exact h.1 i j ei ej a1 b1 hb
 ·rcases old i e he with⟨_,a2⟩|⟨_,a2⟩<;>omega
theorem Rv.modify{es:Array MapEntry}{clock:Nat}(h:Rv es clock)(n:Nat)(k v:Value):Rv (es.modify n λe=> { e with key:=k,val:=v }) clock:=by
 have old:∀(i:Nat) (e:MapEntry),(es.modify n λe=> { e with key:=k,val:=v })[i]? =some e->∃e0,es[i]? =some e0/\e0.born=e.born:=λi e he=>by
  rw[Array.getElem?_modify]at he;split at he
  ·cases h0:es[i]? with
   |none=>rw[h0]at he;cases he
   |some e0=>rw[h0]at he;injection he with he;subst he;exact⟨e0,rfl,rfl⟩
  ·exact⟨e,he,rfl⟩
 refine⟨λi j ei ej hi hj hb=>?_,λi e he=>?_⟩
 ·obtain⟨e1,a1,a2⟩:=old i ei hi;obtain⟨e2,b1,b2⟩:=old j ej hj;exact h.1 i j e1 e2 a1 b1 (by omega)
 ·obtain⟨e1,a1,a2⟩:=old i e he;have:=h.2 i e1 a1;omega
theorem Ap9(es:Array MapEntry)(n:Nat)(hn:n<es.size)(i:Nat):(es.eraseIdxIfInBounds n)[i]? =es[if i<n then i else i+1]? :=by
 unfold Array.eraseIdxIfInBounds;rw[dif_pos hn,Array.getElem?_eraseIdx];split<;>rfl
theorem Rv.erase{es:Array MapEntry}{clock:Nat}(h:Rv es clock)(n:Nat)(hn:n<es.size):Rv (es.eraseIdxIfInBounds n) clock:=by
 refine⟨λi j ei ej hi hj hb=>?_,λi e he=>?_⟩
 ·rw[Ap9 es n hn]at hi hj;have:=h.1 _ _ ei ej hi hj hb;split at this<;>split at this<;>omega
 ·rw[Ap9 es n hn]at he;exact h.2 _ e he
inductive Oe (w:World) (M:Ro) (β :Qd) (B:Nat->Prop) (b n:Nat):List PV->Prop
 |cells (l:List PV) (cs:Array Value) (t:Nat) (hh:w.heap[b]? =some (.cells cs t (0,0))) (hs:l.length<=cs.size)
   (hr:∀(i:Nat) (p:PV) (v:Value),l[i]? =some p->cs[i]? =some v->B5 w M β B p v/\v.oneCell'=true):Oe w M β B b n l
 |arr (x:LX) (cs:Array Value) (t:Nat) (hh:w.heap[b]? =some (.cells cs t (0,0))) (hn:x.len=n) (hs:n*x.sz<=cs.size)
   (hr:∀(i j:Nat) (p:PV) (v:Value),i<n->(x.row i)[j]? =some p->cs[i*x.sz+j]? =some v->B5 w M β B p v/\v.oneCell'=true):Oe w M β B b n [.bU x]
 |map (gk gv:Bool) (ks vs:LX) (es:Array MapEntry) (clock:Nat) (hh:w.heap[b]? =some (.map es clock)) (hk:es.size=ks.len) (hv:vs.len=ks.len)
   (hr:∀(i:Nat) (e:MapEntry),es[i]? =some e->B5 w M β B (mkP gk (ks.row i)) e.key/\B5 w M β B (mkP gv (vs.row i)) e.val)(hbn:Rv es clock):Oe w M β B b n [.aP gk gv ks vs]
 |dB (gk gv:Bool) (ks vs:LX) (es:Array MapEntry) (clock:Nat) (hh:w.heap[b]? =some (.map es clock)) (hk:es.size=ks.len) (hv:vs.len=ks.len)
   (hr:∀(i:Nat) (e:MapEntry),es[i]? =some e->B5 w M β B (mkP gk (ks.row i)) e.key/\B5 w M β B (mkP gv (vs.row i)) e.val)(hbn:Rv es clock):Oe w M β B b n [.dB es clock gk gv ks vs]
inductive Xq (κ :Type) where
 |slot (k: κ)
 |cell (d i:Nat)
def Xr{κ :Type}(H: κ->PV×Value)(O:Nat->List PV)(w:World)(β :Qd):Xq κ->SV->Value->Prop
 | .slot k,s,v=>(H k).1.eG=some s/\s.own=true/\ohd (H k).1 (H k).2=v
 | .cell d i,s,v=>∃b n p,β d=some (b,n)/\(O d)[i]? =some p/\p.sv=some s/\s.own=true/\w.cell? ⟨b,i,none⟩=some v
theorem Bel.lt{B:He}{w:World}(h:Bel B w){b:Nat}(hb:B.old b):b<w.heap.size:=Nat.lt_of_lt_of_le (B.lt b hb) h.size
theorem Bel.new{B:He}{w:World}(h:Bel B w):¬B.old w.heap.size:=λhb=>Nat.lt_irrefl _ (h.lt hb)
structure Kp (B:He) (w w':World):Prop where
 os:w'.os=w.os
 tape:w'.tape=w.tape
 output:w'.output=w.output
 size:w.heap.size<=w'.heap.size
 block:∀k,B.old k->w'.heap[k]? =w.heap[k]?
 dR:∀k,Ev.dR w k<=Ev.dR w' k
theorem Bel.trans{B:He}{w w':World}(h:Bel B w)(k:Kp B w w'):Bel B w':=
 ⟨k.os.trans h.os,k.tape.trans h.tape,k.output.trans h.output,Nat.le_trans h.size k.size,λi hi=>(k.block i hi).trans (h.block i hi),λi=>Nat.le_trans (h.dR i) (k.dR i)⟩
theorem Kp.of{B:He}{w w':World}(h:Bel B w)(hb:Below w.heap.size w w'):Kp B w w':=⟨hb.os,hb.tape,hb.output,hb.size,λk hk=>hb.block k (h.lt hk),Z3 hb⟩
def He.all(w:World):He:=⟨w,λb=>b<w.heap.size,λ_ h=>h⟩
theorem Bel.below{w w':World}(h:Bel (He.all w) w'):Below w.heap.size w w':=⟨h.os,h.tape,h.output,h.size,h.block⟩
theorem Bel.of(w:World)(B:He)(hB:B.w=w):Bel B w:=by subst hB;exact⟨rfl,rfl,rfl,Nat.le_refl _,λ_ _=>rfl,λ_=>Nat.le_refl _⟩
theorem Bel.later{B:He}{w w':World}(h:Bel B w)(hb:Below w.heap.size w w'):Bel B w':=
 ⟨hb.os.trans h.os,hb.tape.trans h.tape,hb.output.trans h.output,Nat.le_trans h.size hb.size,λk hk=>(hb.block k (Nat.lt_of_lt_of_le (B.lt k hk) h.size)).trans (h.block k hk),λk=>Nat.le_trans (h.dR k) (Z3 hb k)⟩
theorem Bel.alloc{B:He}{w:World}(h:Bel B w)(o:Obj):Bel B (w.alloc o):=h.later ((Below.refl _ w).alloc (Nat.le_refl _) o)
def Ap2(N:Ro)(B:He):Prop:=∃M0:Ro,(∀a:Addr,imm M0 a->B.old a.block/\imm N a)/\
 (∀g x,Ayi GL g=some x->B.old g/\∃v,B.w.cell? ⟨g,0,none⟩=some v/\B5 B.w M0 (λ_=>none) (λ_=>False) (.aV false x) v)/\
 ∀g vs,(g,vs)∈GA->B.old g/\∃t f,B.w.heap[g]? =some (.cells vs.toArray t f)
structure MN (B:He) (N M:Ro):Prop where
 eq:∀b,B.old b->M b=N b
 gl:Ap2 N B
instance {B:He} {N M:Ro} :CoeFun (MN B N M) (λ_=>∀b,B.old b->M b=N b):=⟨λh=>h.eq⟩
theorem Bel.cell{B:He}{w:World}(h:Bel B w){a:Addr}(ha:B.old a.block):w.cell? a=B.w.cell? a:=by
 unfold World.cell?;rw[h.block _ ha]
theorem Ap2.here{B:He}{N M:Ro}{w:World}(h:Ap2 N B)(hb:Bel B w)(hM:∀b,B.old b->M b=N b)(β :Qd)(old:Nat->Prop){g:Nat}{x:LX}(hg:Ayi GL g=some x):
  B.old g/\∃v,w.cell? ⟨g,0,none⟩=some v/\B5 w M β old (.aV false x) v:=by
 obtain⟨M0,h1,h2,_⟩:=h;obtain⟨q1,v,q2,q3⟩:=h2 g x hg;refine⟨q1,v,by rw[hb.cell q1];exact q2,?_⟩;exact B5.flat (B5.ext (β':=λ_=>none) (λa u hi hc=>⟨λn hn=>(h1 a hi).2 n (by rw[<-hM _ (h1 a hi).1];exact hn),by rw[hb.cell (h1 a hi).1];exact hc⟩) (λa ha=>ha.elim) (λ_ _ e=>e) (λ_ _ _ e=>by cases e) q3) rfl
theorem Ap2.to{B:He}{N M:Ro}{w:World}(h:Ap2 N B)(hb:Bel B w)(hM:∀b,B.old b->M b=N b)(B':He)(hw:B'.w=w)(ho:∀b,B.old b->B'.old b):Ap2 M B':=by
 subst hw;obtain⟨M0,h1,h2,h3⟩:=h;refine⟨M0,λa hi=>⟨ho _ (h1 a hi).1,λn hn=>(h1 a hi).2 n (by rw[<-hM _ (h1 a hi).1];exact hn)⟩,λg x hg=>?_,λg vs hg=>⟨ho _ (h3 g vs hg).1,let ⟨t,f,hv⟩:=(h3 g vs hg).2;⟨t,f,(hb.block _ (h3 g vs hg).1).trans hv⟩⟩⟩;obtain⟨q1,v,q2,q3⟩:=h2 g x hg;exact⟨ho _ q1,v,(hb.cell q1).trans q2,B5.ext (λa u hi hc=>⟨hi,by rw[<-hc];exact hb.cell (h1 a hi).1⟩) (λa ha=>ha.elim) (λ_ _ e=>e) (λ_ _ _ e=>by cases e) q3⟩
theorem Ap2.arr{B:He}{N M:Ro}{w:World}(h:Ap2 N B)(hb:Bel B w){g:Nat}{vs:List Value}(hg:(g,vs)∈GA):B.old g/\∃t f,w.heap[g]? =some (.cells vs.toArray t f):=by
 obtain⟨M0,h1,h2,h3⟩:=h;exact⟨(h3 g vs hg).1,let ⟨t,f,hv⟩:=(h3 g vs hg).2;⟨t,f,(hb.block _ (h3 g vs hg).1).trans hv⟩⟩
theorem Ap2.all{B:He}{N M:Ro}{w:World}(h:Ap2 N B)(hb:Bel B w)(hM:∀b,B.old b->M b=N b):Ap2 M (He.all w):=h.to hb hM _ rfl λ_ ho=>hb.lt ho
structure SH {κ :Type} (H: κ->PV×Value) (w0:He) (N:Ro) (O:Nat->List PV) (D:Nat->Bool) (w:World) (M:Ro) (β :Qd):Prop where
 cK:Bel w0 w
 mN:MN w0 N M
 mlt:∀b n,M b=some n->b<w.heap.size
 box:∀d b n,β d=some (b,n)->¬w0.old b/\M b=some 0/\Oe w M β w0.old b n (O d)
 inj:∀d d' b n n',β d=some (b,n)->β d'=some (b,n')->d=d'\/O d= []\/O d'= []
 dom:∀d,D d=true->β d=none
 reg:∀k,B5 w M β w0.old (H k).1 (H k).2
 tok:∀key s v,Xr H O w β key s v->Aca w M w0.old s v
 dH:∀key key' s s' v v' g,Xr H O w β key s v->Xr H O w β key' s' v'->key≠key'->tb v=some g->tb v'≠some g
 bV:∀key s v g d n,Xr H O w β key s v->tb v=some g->β d≠some (g,n)
section
variable {κ κ':Type} {H: κ->PV×Value} {H': κ'->PV×Value} {w0:He} {w w':World} {N M M':Ro} {O O':Nat->List PV} {D D':Nat->Bool} {β β':Qd}
theorem SH.perm(h:SH H w0 N O D w M β)(hr:∀k,B5 w M β w0.old (H' k).1 (H' k).2)(hbox:∀d b n,β d=some (b,n)->Oe w M β w0.old b n (O' d))(hD:∀d,D' d=true->β d=none)
  (φ :Xq κ'->Option (Xq κ))(hφ :∀key s v,Xr H' O' w β key s v->∃key',φ key=some key'/\Xr H O w β key' s v)
  (hinj:∀k k' j,φ k=some j->φ k'=some j->k=k')(hv:∀d b n,β d=some (b,n)->O d= []->O' d= []:=by intro d b n _ h;exact h):SH H' w0 N O' D' w M β :=by
 refine⟨h.cK,h.mN,h.mlt,λd b n hd=>⟨(h.box d b n hd).1,(h.box d b n hd).2.1,hbox d b n hd⟩,λd d' b n n' h1 h2=>(h.inj d d' b n n' h1 h2).imp id (Or.imp (hv d b n h1) (hv d' b n' h2)),hD,hr,?_,?_,?_⟩
 ·intro key s v ho;obtain⟨k',_,h2⟩:=hφ key s v ho;exact h.tok k' s v h2
 ·intro key key' s s' v v' g ho ho' hne hg;obtain⟨j,h1,h2⟩:=hφ key s v ho;obtain⟨j',h1',h2'⟩:=hφ key' s' v' ho';refine h.dH j j' s s' v v' g h2 h2' (λe=>hne (hinj _ _ j h1 (by rw[e];exact h1'))) hg
 ·intro key s v g d n ho hg;obtain⟨j,h1,h2⟩:=hφ key s v ho;exact h.bV j s v g d n h2 hg
theorem SH.hold(h:SH H w0 N O D w M β)(hr:∀k,B5 w M β w0.old (H' k).1 (H' k).2)(g: κ'->Option κ)
  (hg:∀k s,(H' k).1.eG=some s->s.own=true->∃j,g k=some j/\(H j).1.eG=some s/\ohd (H j).1 (H j).2=ohd (H' k).1 (H' k).2)(hinj:∀k k' j,g k=some j->g k'=some j->k=k'):SH H' w0 N O D w M β :=by
 refine h.perm hr (λd b n hd=>(h.box d b n hd).2.2) h.dom (λkey=>match key with| .slot k=>(g k).map .slot| .cell d i=>some (.cell d i)) ?_ ?_
 ·intro key s v ho;cases key with
  |slot k=>
   obtain⟨h1,h2,h3⟩:=ho;obtain⟨j,q1,q2,q3⟩:=hg k s h1 h2;exact⟨.slot j,by simp[q1],q2,h2,by rw[q3];exact h3⟩
  |cell d i=>exact⟨.cell d i,rfl,ho⟩
 ·intro k k' j hk hk';cases k with
  |slot k=>
   cases k' with
   |slot k'=>
    simp only[Option.map_eq_some_iff]at hk hk';obtain⟨a,ha,rfl⟩:=hk;obtain⟨a',ha',e⟩:=hk';injection e with e;subst e
    rw[hinj k k' _ ha ha']
   |cell d i=>
    simp only[Option.map_eq_some_iff]at hk hk';obtain⟨a,ha,rfl⟩:=hk;cases hk'
  |cell d i=>
   cases k' with
   |slot k'=>
    simp only[Option.map_eq_some_iff]at hk hk';obtain⟨a,ha,rfl⟩:=hk';cases hk
   |cell d' i'=>injection hk with hk;injection hk' with hk';have e:=hk.trans hk'.symm;injection e with e1 e2;rw[e1,e2]
def L4(x:PV×Value)(H: κ->PV×Value):Option κ->PV×Value
 |none=>x
 |some k=>H k
theorem SH.cons(h:SH H w0 N O D w M β)(p:PV)(v:Value)(hr:B5 w M β w0.old p v)
  (ht:∀s,p.eG=some s->s.own=true->Aca w M w0.old s (ohd p v)/\(∀key s' v' g,Xr H O w β key s' v'->tb (ohd p v)=some g->tb v'≠some g)/\(∀g d n,tb (ohd p v)=some g->β d≠some (g,n))):
  SH (L4 (p,v) H) w0 N O D w M β :=by
 have old:∀(key:Xq (Option κ)) s u,Xr (L4 (p,v) H) O w β key s u->(key=.slot none/\p.eG=some s/\s.own=true/\ohd p v=u)\/∃key':Xq κ,Xr H O w β key' s u/\(∀key2:Xq (Option κ),Xr (L4 (p,v) H) O w β key2 s u->True)/\
   (match key' with| .slot k=>key=.slot (some k)| .cell d i=>key=.cell d i):=by
  intro key s u ho;cases key with
  |slot k=>
   cases k with
   |none=>exact .inl ⟨rfl,ho.1,ho.2.1,ho.2.2⟩
   |some k=>exact .inr ⟨.slot k,ho,λ_ _=>trivial,rfl⟩
  |cell d i=>exact .inr ⟨.cell d i,ho,λ_ _=>trivial,rfl⟩
 refine⟨h.cK,h.mN,h.mlt,h.box,h.inj,h.dom,?_,?_,?_,?_⟩
 ·intro k;cases k with
  |none=>exact hr
  |some k=>exact h.reg k
 ·intro key s u ho;rcases old key s u ho with⟨_,h1,h2,rfl⟩|⟨k',h1,_⟩
  ·exact(ht s h1 h2).1
  ·exact h.tok k' s u h1
 ·intro key key' s s' u u' g ho ho' hne hg;rcases old key s u ho with⟨e1,h1,h2,rfl⟩|⟨k1,h1,_,e1⟩
  ·rcases old key' s' u' ho' with⟨e2,_⟩|⟨k2,h2',_,e2⟩
   ·exact absurd (e1.trans e2.symm) hne
   ·exact(ht s h1 h2).2.1 k2 s' u' g h2' hg
  ·rcases old key' s' u' ho' with⟨e2,h3,h4,rfl⟩|⟨k2,h2',_,e2⟩
   ·exact λhv=>(ht s' h3 h4).2.1 k1 s u g h1 hv hg
   ·refine h.dH k1 k2 s s' u u' g h1 h2' (λe=>hne ?_) hg;subst e;cases k1<;>exact e1.trans e2.symm
 ·intro key s u g d n ho hg;rcases old key s u ho with⟨_,h1,h2,rfl⟩|⟨k',h1,_⟩
  ·exact(ht s h1 h2).2.2 g d n hg
  ·exact h.bV k' s u g d n h1 hg
theorem Ah8{w:World}{x:Addr}{v:Value}(hx:w.cell? x=some v):x.block<w.heap.size:=by
 unfold World.cell? at hx;rcases Nat.lt_or_ge x.block w.heap.size with h1|h1
 ·exact h1
 ·rw[Array.getElem?_eq_none h1]at hx;simp at hx
theorem Oe.ext{B B':Nat->Prop}{b n:Nat}{l:List PV}(h:Oe w M β B b n l)(hh:w'.heap[b]? =w.heap[b]?)(hR:∀p v,B5 w M β B p v->B5 w' M' β' B' p v):Oe w' M' β' B' b n l:=by
 cases h with
 |cells l cs t q1 q2 q3=>exact .cells l cs t (by rw[hh];exact q1) q2 (λi p v hp hv=>⟨hR _ _ (q3 i p v hp hv).1,(q3 i p v hp hv).2⟩)
 |arr x cs t q1 q2 q3 q4=>exact .arr x cs t (by rw[hh];exact q1) q2 q3 (λi j p v hi hp hv=>⟨hR _ _ (q4 i j p v hi hp hv).1,(q4 i j p v hi hp hv).2⟩)
 |map gk gv ks vs es clock q1 q2 q3 q4 q5=>exact .map gk gv ks vs es clock (by rw[hh];exact q1) q2 q3 (λi e he=>⟨hR _ _ (q4 i e he).1,hR _ _ (q4 i e he).2⟩) q5
 |dB gk gv ks vs es clock q1 q2 q3 q4 q5=>exact .dB gk gv ks vs es clock (by rw[hh];exact q1) q2 q3 (λi e he=>⟨hR _ _ (q4 i e he).1,hR _ _ (q4 i e he).2⟩) q5
theorem Aca.ext{B:Nat->Prop}{s:SV}{v:Value}(h:Aca w M B s v)(hh:∀g,tb v=some g->w'.heap[g]? =w.heap[g]? /\M' g=M g):Aca w' M' B s v:=by
 rcases h.cut with h|⟨g,c,cur,h1,h2,h3,h4,h5,h6,h7,h8⟩
 ·exact .inl h
 ·have:=hh g h8;exact .inr ⟨g,c,cur,h1,h2,by rw[this.2];exact h3,by rw[this.1];exact h4,h5,h6,h7⟩
theorem Aca.lt{B:Nat->Prop}{s:SV}{v:Value}(h:Aca w M B s v){g:Nat}(hg:tb v=some g):¬B g/\∃k,M g=some k:=by
 rcases h with⟨a,h⟩|⟨g',c,cur,h1,h2,h3,_⟩
 ·rw[h]at hg;exact absurd hg Aiy
 ·rw[h1]at hg;have:g'=g:=w4 hg;subst this;exact⟨h2,_,h3⟩
theorem SH.world(h:SH H w0 N O D w M β)(hb:Below w.heap.size w w'):SH H w0 N O D w' M β :=by
 have hc:∀(x:Addr) v,w.cell? x=some v->w'.cell? x=some v:=λx v hv=>by rw[hb.cell (Ah8 hv)];exact hv
 have hE:Ext w M w' M:=λx v hi hv=>⟨hi,hc x v hv⟩;have hle:w0.w.heap.size<=w.heap.size:=h.cK.size;have hR:∀p v,B5 w M β w0.old p v->B5 w' M β w0.old p v:=λp v hr=>hr.ext hE (λx hx=>hb.cell (Nat.lt_of_lt_of_le (w0.lt _ hx) hle)) (λ_ _ h=>h) (λ_ b _ _=>Z3 hb b);have hO:∀key s v,Xr H O w' β key s v->Xr H O w β key s v:=by
  intro key s v ho;cases key with
  |slot k=>exact ho
  |cell d i=>
   obtain⟨b,n,p,h1,h2,h3,h4,h5⟩:=ho;have hbl:=h.mlt b 0 (h.box d b n h1).2.1;exact⟨b,n,p,h1,h2,h3,h4,by rw[<-hb.cell (p:=⟨b,i,none⟩) hbl];exact h5⟩
 refine⟨h.cK.later hb,h.mN,λb n hn=>Nat.lt_of_lt_of_le (h.mlt b n hn) hb.size,?_,h.inj,h.dom,λk=>hR _ _ (h.reg k),?_,?_,?_⟩
 ·intro d b n hd;obtain⟨h1,h2,h3⟩:=h.box d b n hd;exact⟨h1,h2,h3.ext (hb.block b (h.mlt b 0 h2)) hR⟩
 ·intro key s v ho;have ht:=h.tok key s v (hO _ _ _ ho);exact ht.ext (λg hg=>⟨hb.block g (let ⟨_,k,hk⟩:=ht.lt hg;h.mlt g k hk),rfl⟩)
 ·intro key key' s s' v v' g ho ho';exact h.dH key key' s s' v v' g (hO _ _ _ ho) (hO _ _ _ ho')
 ·intro key s v g d n ho;exact h.bV key s v g d n (hO _ _ _ ho)
theorem SH.drawn(h:SH H w0 N O D w M β):SH H w0 N O D { w with drawn:=w.drawn+1 } M β :=
 h.world ⟨rfl,rfl,rfl,Nat.le_refl _,λ_ _=>rfl⟩
end
end Go.Proofs.YtgacplpjamkieaaGreat.Ev
namespace Go.Proofs.YtgacplpjamkieaaGreat.Ev
open Go Go.RowKit
section
variable {κ κ':Type} {H: κ->PV×Value} {H': κ'->PV×Value} {w0:He} {w w':World} {N M M':Ro} {O O':Nat->List PV} {D D':Nat->Bool} {β β':Qd}
theorem Akg(w:World)(o:Obj){x:Addr}{v:Value}(h:w.cell? x=some v):(w.alloc o).cell? x=some v:=by
 rw[World.cell?_of_block (w:=w) (Below.heap_alloc w o x.block (Ah8 h))];exact h
theorem SH.alloc(h:SH H w0 N O D w M β)(d n:Nat)(l:List PV)(o:Obj)(hnew:D d=true)
  (hO1:O' d=l)(hO2:∀x,x≠d->O' x=O x)(hD:∀x,D' x=true->D x=true/\x≠d)
  (hown:∀(i:Nat) (p:PV) (s:SV),l[i]? =some p->p.sv=some s->s.own=true->∀v,(w.alloc o).cell? ⟨w.heap.size,i,none⟩=some v->s.n=0/\∃a,v=.slice a 0 0)
  (hobj:∀(M':Ro) (β':Qd),(∀p v,B5 w M β w0.old p v->B5 (w.alloc o) M' β' w0.old p v)->β' d=some (w.heap.size,n)->Oe (w.alloc o) M' β' w0.old w.heap.size n l):
  ∃M' β',SH H w0 N O' D' (w.alloc o) M' β'/\β' d=some (w.heap.size,n)/\(∀p v,B5 w M β w0.old p v->B5 (w.alloc o) M' β' w0.old p v):=by
 have hβ : β d=none:=h.dom d hnew
 let M':Ro:=λb=>if b=w.heap.size then some 0 else M b
 let β':Qd:=λx=>if x=d then some (w.heap.size,n)else β x
 have hMw:M w.heap.size=none:=by
  cases hm:M w.heap.size with
  |none=>rfl
  |some n=>exact absurd (h.mlt _ _ hm) (by omega)
 have hE:Ext w M (w.alloc o) M':=λx v hi hc=>by
  have hx:=Ah8 hc;refine⟨λn hn=>hi n ?_,Akg w _ hc⟩;simp only[M']at hn;rw[if_neg (by omega)]at hn;exact hn
 have hle:w0.w.heap.size<=w.heap.size:=h.cK.size;have hβb:∀x b n,β x=some (b,n)->b<w.heap.size:=λx b n hb=>h.mlt b 0 (h.box x b n hb).2.1;have hmono:∀x y,β x=some y->β' x=some y:=λx y hb=>by
  simp only[β'];by_cases e:x=d
  ·subst e;rw[hβ]at hb;cases hb
  ·rw[if_neg e];exact hb
 have hB:∀x:Addr,w0.old x.block->(w.alloc o).cell? x=w.cell? x:=λx hx=>
  World.cell?_of_block (w:=w) (Below.heap_alloc w _ x.block (h.cK.lt hx))
 have hR:∀p v,B5 w M β w0.old p v->B5 (w.alloc o) M' β' w0.old p v:=λp v hr=>hr.ext hE hB hmono (λ_ b _ _=>Z3 ((Below.refl _ w).alloc (Nat.le_refl _) o) b);have hd: β' d=some (w.heap.size,n):=by simp[β']
 have hOwn:∀key s v,Xr H O' (w.alloc o) β' key s v->Xr H O w β key s v\/((∃a,v=.slice a 0 0)/\s.n=0):=by
  intro key s v ho;cases key with
  |slot k=>exact .inl ho
  |cell x i=>
   obtain⟨b,m,p,h1,h2,h3,h4,h5⟩:=ho;simp only[β']at h1;by_cases e:x=d
   ·subst e;rw[if_pos rfl]at h1;injection h1 with h1
    injection h1 with h1 _
    subst h1;rw[hO1]at h2;have:=hown i p s h2 h3 h4 v h5;exact .inr ⟨this.2,this.1⟩
   ·rw[if_neg e]at h1;have hbl:=hβb x b m h1;refine .inl ⟨b,m,p,h1,by rw[<-hO2 x e];exact h2,h3,h4,?_⟩;rw[<-World.cell?_of_block (w:=w) (a:=⟨b,i,none⟩) (Below.heap_alloc w o b hbl)];exact h5
 have tb0:∀v g,(∃a,v=.slice a 0 0)->tb v=some g->False:=by
  rintro v g ⟨a,rfl⟩ hg
  exact absurd hg Aiy
 refine⟨M',β',⟨h.cK.alloc _,?_,?_,?_,?_,?_,λk=>hR _ _ (h.reg k),?_,?_,?_⟩,hd,hR⟩
 ·refine⟨λb hb=>?_,h.mN.gl⟩;simp only[M'];rw[if_neg (by have:=h.cK.lt hb;omega)];exact h.mN b hb
 ·intro b n hn;simp only[M']at hn;by_cases e:b=w.heap.size
  ·subst e;simp
  ·rw[if_neg e]at hn;have:=h.mlt b n hn;simp;omega
 ·intro x b m hb;by_cases e:x=d
  ·subst e;rw[hd]at hb;injection hb with hb
   injection hb with hb hb2
   subst hb;subst hb2
   exact⟨h.cK.new,by simp[M'],by rw[hO1];exact hobj M' β' hR hd⟩
  ·simp only[β']at hb;rw[if_neg e]at hb;obtain⟨h1,h2,h3⟩:=h.box x b m hb;have hbl:=h.mlt b 0 h2;exact⟨h1,by simp only[M'];rw[if_neg (by omega)];exact h2,by rw[hO2 x e];exact h3.ext (Below.heap_alloc w _ b hbl) hR⟩
 ·intro x y b m m' hx hy;simp only[β']at hx hy;by_cases e1:x=d<;>by_cases e2:y=d
  ·exact .inl (by rw[e1,e2])
  ·rw[if_pos e1]at hx;rw[if_neg e2]at hy
   injection hx with hx;injection hx with hx _
   have:=hβb y b m' hy;exfalso;omega
  ·rw[if_neg e1]at hx;rw[if_pos e2]at hy
   injection hy with hy;injection hy with hy _
   have:=hβb x b m hx;exfalso;omega
  ·rw[if_neg e1]at hx;rw[if_neg e2]at hy
   rw[hO2 x e1,hO2 y e2];exact h.inj x y b m m' hx hy
 ·intro x hx;obtain⟨h1,h2⟩:=hD x hx;simp only[β'];rw[if_neg h2];exact h.dom x h1
 ·intro key s v ho;rcases hOwn key s v ho with ho|⟨⟨a,ha⟩,hn⟩
  ·have ht:=h.tok key s v ho;refine ht.ext (λg hg=>?_);obtain⟨_,k,hk⟩:=ht.lt hg;have hgl:=h.mlt g k hk;exact⟨Below.heap_alloc w _ g hgl,by simp only[M'];rw[if_neg (by omega)]⟩
  ·exact .z ha hn
 ·intro key key' s s' v v' g ho ho' hne hg;rcases hOwn key s v ho with ho|⟨ha,_⟩
  ·rcases hOwn key' s' v' ho' with ho'|⟨ha,_⟩
   ·exact h.dH key key' s s' v v' g ho ho' hne hg
   ·exact λhg'=>tb0 _ _ ha hg'
  ·exact(tb0 _ _ ha hg).elim
 ·intro key s v g x m ho hg;rcases hOwn key s v ho with ho|⟨ha,_⟩
  ·simp only[β'];by_cases e:x=d
   ·rw[if_pos e];intro e3;injection e3 with e3
    injection e3 with e3 _
    obtain⟨_,k,hk⟩:=(h.tok key s v ho).lt hg;have:=h.mlt g k hk;omega
   ·rw[if_neg e];exact h.bV key s v g x m ho hg
  ·exact(tb0 _ _ ha hg).elim
theorem SH.adopt(h:SH H w0 N O D w M β)(d g n:Nat)(l:List PV)(hnew:D d=true)(hgB:¬w0.old g)(hM:M g=some 0)(hbx:∀x n,β x=some (g,n)->O x= [])
  (hno:∀key s v,Xr H O w β key s v->tb v≠some g)(hO1:O' d=l)(hO2:∀x,x≠d->O' x=O x)(hD:∀x,D' x=true->D x=true/\x≠d)
  (hown:∀(i:Nat) (p:PV) (s:SV),l[i]? =some p->p.sv=some s->s.own=true->False)
  (hobj:∀(β':Qd),(∀p v,B5 w M β w0.old p v->B5 w M β' w0.old p v)->β' d=some (g,n)->Oe w M β' w0.old g n l):
  ∃β',SH H w0 N O' D' w M β'/\β' d=some (g,n):=by
 have hβ : β d=none:=h.dom d hnew
 let β':Qd:=λx=>if x=d then some (g,n)else β x
 have hmono:∀x y,β x=some y->β' x=some y:=λx y hb=>by
  simp only[β'];by_cases e:x=d
  ·subst e;rw[hβ]at hb;cases hb
  ·rw[if_neg e];exact hb
 have hR:∀p v,B5 w M β w0.old p v->B5 w M β' w0.old p v:=λp v hr=>hr.ext (Ext.refl w M) (λ_ _=>rfl) hmono (λ_ _ _ _=>Nat.le_refl _);have hd: β' d=some (g,n):=by simp[β']
 have hOwn:∀key s v,Xr H O' w β' key s v->Xr H O w β key s v:=by
  intro key s v ho;cases key with
  |slot k=>exact ho
  |cell x i=>
   obtain⟨b,m,p,h1,h2,h3,h4,h5⟩:=ho;simp only[β']at h1;by_cases e:x=d
   ·subst e;rw[hO1]at h2;exact(hown i p s h2 h3 h4).elim
   ·rw[if_neg e]at h1;exact⟨b,m,p,h1,by rw[<-hO2 x e];exact h2,h3,h4,h5⟩
 refine⟨β',⟨h.cK,h.mN,h.mlt,?_,?_,?_,λk=>hR _ _ (h.reg k),λkey s v ho=>h.tok key s v (hOwn _ _ _ ho),λkey key' s s' v v' g ho ho'=>h.dH key key' s s' v v' g (hOwn _ _ _ ho) (hOwn _ _ _ ho'),?_⟩,hd⟩
 ·intro x b m hb;by_cases e:x=d
  ·subst e;rw[hd]at hb;injection hb with hb
   injection hb with hb hb2
   subst hb;subst hb2
   exact⟨hgB,hM,by rw[hO1];exact hobj β' hR hd⟩
  ·simp only[β']at hb;rw[if_neg e]at hb;obtain⟨h1,h2,h3⟩:=h.box x b m hb;exact⟨h1,h2,by rw[hO2 x e];exact h3.ext rfl hR⟩
 ·intro x y b m m' hx hy;simp only[β']at hx hy;by_cases e1:x=d<;>by_cases e2:y=d
  ·exact .inl (by rw[e1,e2])
  ·rw[if_pos e1]at hx;rw[if_neg e2]at hy
   injection hx with hx;injection hx with hx _
   subst hx;exact .inr (.inr (by rw[hO2 y e2];exact hbx y m' hy))
  ·rw[if_neg e1]at hx;rw[if_pos e2]at hy
   injection hy with hy;injection hy with hy _
   subst hy;exact .inr (.inl (by rw[hO2 x e1];exact hbx x m hx))
  ·rw[if_neg e1]at hx;rw[if_neg e2]at hy
   rw[hO2 x e1,hO2 y e2];exact h.inj x y b m m' hx hy
 ·intro x hx;obtain⟨h1,h2⟩:=hD x hx;simp only[β'];rw[if_neg h2];exact h.dom x h1
 ·intro key s v b x m ho hg;have ho':=hOwn key s v ho;simp only[β'];by_cases e:x=d
  ·rw[if_pos e];intro e3;injection e3 with e3
   injection e3 with e3 _
   subst e3;exact hno key s v ho' hg
  ·rw[if_neg e];exact h.bV key s v b x m ho' hg
theorem SH.setObj(h:SH H w0 N O D w M β)(d b n:Nat)(hβ : β d=some (b,n))(hne:O d≠ [])(l:List PV)(hkd:∀cs t,w.heap[b]? =some (.cells cs t (0,0))->∃cs' t',w'.heap[b]? =some (.cells cs' t' (0,0)))(hO1:O' d=l)(hO2:∀x,x≠d->O' x=O x)
  (hoth:∀k,k≠b->w'.heap[k]? =w.heap[k]?)(hsz:w'.heap.size=w.heap.size)(hdl:Kp w0 w w')
  (hobj:(∀p v,B5 w M β w0.old p v->B5 w' M β w0.old p v)->Oe w' M β w0.old b n l)
  (hown:∀(i:Nat) (p:PV) (s:SV) (v:Value),l[i]? =some p->p.sv=some s->s.own=true->w'.cell? ⟨b,i,none⟩=some v->((∃q,(O d)[i]? =some q/\q.sv=some s)/\w.cell? ⟨b,i,none⟩=some v)\/(s.n=0/\∃a,v=.slice a 0 0)):
  SH H w0 N O' D w' M β/\(∀p v,B5 w M β w0.old p v->B5 w' M β w0.old p v):=by
 obtain⟨hb1,hb2,hb3⟩:=h.box d b n hβ;have hbw:b<w.heap.size:=h.mlt b 0 hb2;have hE:Ext w M w' M:=λx v hi hc=>by
  have hx:x.block≠b:=λe=>by have:=hi 0 (by rw[e];exact hb2);omega
  exact⟨hi,by rw[World.cell?_of_block (w:=w) (hoth _ hx)];exact hc⟩
 have hR:∀p v,B5 w M β w0.old p v->B5 w' M β w0.old p v:=λp v hr=>hr.ext hE (λx hx=>World.cell?_of_block (w:=w) (hoth _ (λe=>hb1 (by rw[<-e];exact hx)))) (λ_ _ h=>h) (λ_ b _ _=>hdl.dR b);have tb0:∀v g,(∃a,v=.slice a 0 0)->tb v=some g->False:=by
  rintro v g ⟨a,rfl⟩ hg
  exact absurd hg Aiy
 have hOwn:∀key s v,Xr H O' w' β key s v->Xr H O w β key s v\/(s.n=0/\∃a,v=.slice a 0 0):=by
  intro key s v ho;cases key with
  |slot k=>exact .inl ho
  |cell x i=>
   obtain⟨b',m,p,h1,h2,h3,h4,h5⟩:=ho;by_cases e:x=d
   ·subst e;rw[hβ]at h1;injection h1 with h1
    injection h1 with h1 h1'
    subst h1;subst h1'
    rw[hO1]at h2;rcases hown i p s v h2 h3 h4 h5 with⟨⟨q,q1,q2⟩,q3⟩|hz
    ·exact .inl ⟨b,n,q,hβ,q1,q2,h4,q3⟩
    ·exact .inr hz
   ·have hne:b'≠b:=λe'=>(h.inj x d b' m n h1 (by rw[e'];exact hβ)).elim e λq=>q.elim (λq=>by rw[hO2 x e,q]at h2;simp at h2) hne;exact .inl ⟨b',m,p,h1,by rw[<-hO2 x e];exact h2,h3,h4,by rw[<-World.cell?_of_block (w:=w) (a:=⟨b',i,none⟩) (hoth b' hne)];exact h5⟩
 refine⟨⟨h.cK.trans hdl,h.mN,λx n hn=>by rw[hsz];exact h.mlt x n hn,?_,λx y b' m m' hx hy=>?_,h.dom,λk=>hR _ _ (h.reg k),?_,?_,?_⟩,hR⟩
 ·intro x b' m hx;by_cases e:x=d
  ·subst e;rw[hβ]at hx;injection hx with hx
   injection hx with hx hx'
   subst hx;subst hx'
   exact⟨hb1,hb2,by rw[hO1];exact hobj hR⟩
  ·obtain⟨h1,h2,h3⟩:=h.box x b' m hx;refine⟨h1,h2,?_⟩;rw[hO2 x e];by_cases e':b'=b
   ·rcases h.inj x d b' m n hx (by rw[e'];exact hβ)with q|q|q
    ·exact absurd q e
    ·rw[q]at h3 ⊢;cases h3 with
     |cells l cs t q1 q2 q3=>
      obtain⟨cs',t',q4⟩:=hkd cs t (by rw[<-e'];exact q1);exact .cells _ cs' t' (by rw[e'];exact q4) (Nat.zero_le _) (λi p v hp=>by simp at hp)
    ·exact absurd q hne
   ·exact h3.ext (hoth b' e') hR
 ·by_cases e1:x=d
  ·by_cases e2:y=d
   ·exact .inl (e1.trans e2.symm)
   ·rcases h.inj x y b' m m' hx hy with q|q|q
    ·exact .inl q
    ·exact absurd (by rw[<-e1];exact q) hne
    ·exact .inr (.inr (by rw[hO2 y e2];exact q))
  ·by_cases e2:y=d
   ·rcases h.inj x y b' m m' hx hy with q|q|q
    ·exact .inl q
    ·exact .inr (.inl (by rw[hO2 x e1];exact q))
    ·exact absurd (by rw[<-e2];exact q) hne
   ·rw[hO2 x e1,hO2 y e2];exact h.inj x y b' m m' hx hy
 ·intro key s v ho;rcases hOwn key s v ho with ho'|⟨hn,a,ha⟩
  ·refine(h.tok key s v ho').ext (λg hg=>⟨hoth g (λe=>?_),rfl⟩);exact h.bV key s v g d n ho' hg (by rw[e];exact hβ)
  ·exact .z ha hn
 ·intro key key' s s' v v' g ho ho' hne hg;rcases hOwn _ _ _ ho with q|⟨_,q⟩
  ·rcases hOwn _ _ _ ho' with q'|⟨_,q'⟩
   ·exact h.dH key key' s s' v v' g q q' hne hg
   ·exact λhg'=>tb0 _ _ q' hg'
  ·exact(tb0 _ _ q hg).elim
 ·intro key s v g x m ho hg;rcases hOwn _ _ _ ho with q|⟨_,q⟩
  ·exact h.bV key s v g x m q hg
  ·exact(tb0 _ _ q hg).elim
theorem SH.rowWrite(h:SH H w0 N O D w M β)(g k k':Nat)(cur cs:Array Value)(t:Nat)(hgB:¬w0.old g)(hM:M g=some k)(hk:k<=k')
  (hh:w.heap[g]? =some (.cells cur t (0,0)))(hcz:cur.size<=cs.size)(hsame:∀i,i<k->cs[i]? =cur[i]?)
  (hbox:∀x n,β x≠some (g,n))(hno:∀key s v,Xr H O w β key s v->tb v≠some g):
  Ext w M (w.setRow g cs) (λb=>if b=g then some k' else M b)/\SH H w0 N O D (w.setRow g cs) (λb=>if b=g then some k' else M b) β/\
  (∀p v,B5 w M β w0.old p v->B5 (w.setRow g cs) (λb=>if b=g then some k' else M b) β w0.old p v)/\
  (∀key s v,Xr H O (w.setRow g cs) β key s v->Xr H O w β key s v):=by
 have hw1:(w.setRow g cs).heap[g]? =some (.cells cs t (0,0)):=setRow_heap w g cur _ t (0,0) hh;have hoth:∀x,x≠g->(w.setRow g cs).heap[x]? =w.heap[x]? :=λx hx=>setRow_other w g x _ hx;have hsz:(w.setRow g cs).heap.size=w.heap.size:=by simp[World.setRow]
 have hgw:g<w.heap.size:=h.mlt g k hM;have hbz:∀x,dR w x<=dR (w.setRow g cs) x:=Aob hoth (by rw[Abj hh,Abj hw1];exact hcz);have hE:Ext w M (w.setRow g cs) (λb=>if b=g then some k' else M b):=by
  intro x v hi hc;by_cases e:x.block=g
  ·have hlt:=hi k (by rw[e];exact hM);refine⟨λn hn=>?_,?_⟩
   ·rw[e]at hn;simp only[if_true]at hn;injection hn with hn;omega
   ·unfold World.cell? at hc ⊢;rw[e,hh]at hc;rw[e,hw1];simp only at hc ⊢;rw[hsame _ hlt];exact hc
  ·refine⟨λn hn=>?_,by rw[World.cell?_of_block (w:=w) (hoth _ e)];exact hc⟩;simp only[e,if_false]at hn;exact hi n hn
 have hR:∀p v,B5 w M β w0.old p v->B5 (w.setRow g cs) (λb=>if b=g then some k' else M b) β w0.old p v:=λp v hr=>hr.ext hE (λx hx=>World.cell?_of_block (w:=w) (hoth _ (λe=>hgB (by rw[<-e];exact hx)))) (λ_ _ h=>h) (λ_ b _ _=>hbz b);have hOwn:∀key s v,Xr H O (w.setRow g cs) β key s v->Xr H O w β key s v:=by
  intro key s v ho;cases key with
  |slot k=>exact ho
  |cell x i=>
   obtain⟨b',m,p,h1,h2,h3,h4,h5⟩:=ho;have hne:b'≠g:=λe=>hbox x m (by rw[h1,e]);exact⟨b',m,p,h1,h2,h3,h4,by rw[<-World.cell?_of_block (w:=w) (a:=⟨b',i,none⟩) (hoth b' hne)];exact h5⟩
 refine⟨hE,⟨h.cK.trans ⟨rfl,rfl,rfl,by omega,λx hx=>hoth x (λe=>hgB (by rw[<-e];exact hx)),hbz⟩,?_,?_,?_,h.inj,h.dom,λk=>hR _ _ (h.reg k),?_,?_,?_⟩,hR,hOwn⟩
 ·refine⟨λb hb=>?_,h.mN.gl⟩;simp only[show b≠g from λe=>hgB (by rw[<-e];exact hb),if_false];exact h.mN b hb
 ·intro b n hn;by_cases e:b=g
  ·rw[e,hsz];exact hgw
  ·simp only[e,if_false]at hn;rw[hsz];exact h.mlt b n hn
 ·intro d b m hd;have hne:b≠g:=λe=>hbox d m (by rw[hd,e]);obtain⟨h1,h2,h3⟩:=h.box d b m hd;exact⟨h1,by simp only[hne,if_false];exact h2,h3.ext (hoth b hne) hR⟩
 ·intro key s v ho;have ho':=hOwn key s v ho;refine(h.tok key s v ho').ext (λg' hg=>?_);have hne:g'≠g:=λe=>hno key s v ho' (by rw[hg,e]);exact⟨hoth g' hne,by simp only[hne,if_false]⟩
 ·intro key key' s s' v v' g ho ho';exact h.dH key key' s s' v v' g (hOwn _ _ _ ho) (hOwn _ _ _ ho')
 ·intro key s v g x m ho;exact h.bV key s v g x m (hOwn _ _ _ ho)
theorem SH.fixed(h:SH H w0 N O D w M β)(g k:Nat)(hM:M g=some 0)(hbox:∀x n,β x≠some (g,n))(hno:∀key s v,Xr H O w β key s v->tb v≠some g)(hgB:¬w0.old g):
  SH H w0 N O D w (λb=>if b=g then some k else M b) β/\(∀p v,B5 w M β w0.old p v->B5 w (λb=>if b=g then some k else M b) β w0.old p v):=by
 have hE:Ext w M w (λb=>if b=g then some k else M b):=by
  intro x v hi hc;refine⟨λn hn=>?_,hc⟩;by_cases e:x.block=g
  ·have:=hi 0 (by rw[e];exact hM);omega
  ·simp only[e,if_false]at hn;exact hi n hn
 have hR:∀p v,B5 w M β w0.old p v->B5 w (λb=>if b=g then some k else M b) β w0.old p v:=λp v hr=>hr.ext hE (λ_ _=>rfl) (λ_ _ h=>h) (λ_ _ _ _=>Nat.le_refl _);refine⟨⟨h.cK,?_,?_,?_,h.inj,h.dom,λk=>hR _ _ (h.reg k),?_,h.dH,h.bV⟩,hR⟩
 ·refine⟨λb hb=>?_,h.mN.gl⟩;simp only[show b≠g from λe=>hgB (by rw[<-e];exact hb),if_false];exact h.mN b hb
 ·intro b n hn;by_cases e:b=g
  ·rw[e];exact h.mlt g 0 hM
  ·simp only[e,if_false]at hn;exact h.mlt b n hn
 ·intro d b m hd;have hne:b≠g:=λe=>hbox d m (by rw[hd,e]);obtain⟨h1,h2,h3⟩:=h.box d b m hd;exact⟨h1,by simp only[hne,if_false];exact h2,h3.ext rfl hR⟩
 ·intro key s v ho;refine(h.tok key s v ho).ext (λg' hg=>⟨rfl,?_⟩);have hne:g'≠g:=λe=>hno key s v ho (by rw[hg,e]);simp only[hne,if_false]
theorem SH.rowNew(h:SH H w0 N O D w M β)(cs:Array Value)(t k:Nat):
  Ext w M (w.alloc (.cells cs t)) (λb=>if b=w.heap.size then some k else M b)/\SH H w0 N O D (w.alloc (.cells cs t)) (λb=>if b=w.heap.size then some k else M b) β/\
  (∀p v,B5 w M β w0.old p v->B5 (w.alloc (.cells cs t)) (λb=>if b=w.heap.size then some k else M b) β w0.old p v)/\
  (∀x n,β x≠some (w.heap.size,n))/\(∀key s v,Xr H O (w.alloc (.cells cs t)) β key s v->Xr H O w β key s v/\tb v≠some w.heap.size):=by
 have hoth:∀x,x<w.heap.size->(w.alloc (.cells cs t)).heap[x]? =w.heap[x]? :=λx hx=>Below.heap_alloc w _ x hx;have hle:w0.w.heap.size<=w.heap.size:=h.cK.size;have hE:Ext w M (w.alloc (.cells cs t)) (λb=>if b=w.heap.size then some k else M b):=λx v hi hc=>by
  have hx:=Ah8 hc;refine⟨λn hn=>hi n ?_,Akg w _ hc⟩;simp only[show x.block≠w.heap.size by omega,if_false]at hn;exact hn
 have hβb:∀x b n,β x=some (b,n)->b<w.heap.size:=λx b n hb=>h.mlt b 0 (h.box x b n hb).2.1;have hR:∀p v,B5 w M β w0.old p v->B5 (w.alloc (.cells cs t)) (λb=>if b=w.heap.size then some k else M b) β w0.old p v:=λp v hr=>
  hr.ext hE (λx hx=>World.cell?_of_block (w:=w) (hoth _ (h.cK.lt hx))) (λ_ _ h=>h) (λ_ b _ _=>Z3 ((Below.refl _ w).alloc (Nat.le_refl _) (.cells cs t)) b)
 have hOwn:∀key s v,Xr H O (w.alloc (.cells cs t)) β key s v->Xr H O w β key s v:=by
  intro key s v ho;cases key with
  |slot k=>exact ho
  |cell x i=>
   obtain⟨b',m,p,h1,h2,h3,h4,h5⟩:=ho;exact⟨b',m,p,h1,h2,h3,h4,by rw[<-World.cell?_of_block (w:=w) (a:=⟨b',i,none⟩) (hoth b' (hβb x b' m h1))];exact h5⟩
 have hlt:∀key s v,Xr H O w β key s v->∀g,tb v=some g->g<w.heap.size:=λkey s v ho g hg=>by
  obtain⟨_,k,hk⟩:=(h.tok key s v ho).lt hg;exact h.mlt g k hk
 refine⟨hE,⟨h.cK.alloc _,?_,?_,?_,h.inj,h.dom,λk=>hR _ _ (h.reg k),?_,?_,?_⟩,hR,?_,?_⟩
 ·refine⟨λb hb=>?_,h.mN.gl⟩;simp only[show b≠w.heap.size by have:=h.cK.lt hb;omega,if_false];exact h.mN b hb
 ·intro b n hn;by_cases e:b=w.heap.size
  ·subst e;simp
  ·simp only[e,if_false]at hn;have:=h.mlt b n hn;simp;omega
 ·intro d b m hd;obtain⟨h1,h2,h3⟩:=h.box d b m hd;have hbl:=hβb d b m hd;exact⟨h1,by simp only[show b≠w.heap.size by omega,if_false];exact h2,h3.ext (hoth b hbl) hR⟩
 ·intro key s v ho;have ho':=hOwn key s v ho;refine(h.tok key s v ho').ext (λg hg=>?_);have:=hlt key s v ho' g hg;exact⟨hoth g this,by simp only[show g≠w.heap.size by omega,if_false]⟩
 ·intro key key' s s' v v' g ho ho';exact h.dH key key' s s' v v' g (hOwn _ _ _ ho) (hOwn _ _ _ ho')
 ·intro key s v g x m ho;exact h.bV key s v g x m (hOwn _ _ _ ho)
 ·intro x n hx;have:=hβb x _ n hx;omega
 ·intro key s v ho;have ho':=hOwn key s v ho;refine⟨ho',λhg=>?_⟩;have:=hlt key s v ho' _ hg;omega
end
end Go.Proofs.YtgacplpjamkieaaGreat.Ev
namespace Go.Proofs.YtgacplpjamkieaaGreat.Ev
open Go Go.RowKit
def hold{ι :Type}(cx: ι->PV×Value)(st:St)(a:Act):Nat ⊕ ι->PV×Value
 | .inl s=>(st.get s,a.tmps.getD s undef)
 | .inr i=>cx i
structure SR {ι :Type} (cx: ι->PV×Value) (w0:He) (N:Ro) (nt:Nat) (st:St) (a:Act) (w:World) (M:Ro) (β :Qd):Prop where
 defs:a.defers= []
 nt:a.tmps.size=nt
 sh:SH (hold cx st a) w0 N st.obj (λd=>Aw d (st.ob.map Prod.fst)) w M β
theorem Cz{α :Type}(d x: α)(r:List (Nat×α))(a s:Nat):C1 d ((a,x)::r) s=if a=s then x else C1 d r s:=by
 by_cases h:a=s
 ·subst h;simp[C1]
 ·have:Nat.beq a s=false:=by
   cases hb:Nat.beq a s
   ·rfl
   ·exact absurd (Nat.eq_of_beq_eq_true hb) h
  simp[C1,this,h]
theorem Bs(d:Nat)(l:List Nat):Aw d l=true↔d∉l:=by
 induction l with
 |nil=>simp[Aw]
 |cons a l ih=>
  by_cases h:a=d
  ·subst h;simp[Aw]
  ·have:Nat.beq a d=false:=by
    cases hb:Nat.beq a d
    ·rfl
    ·exact absurd (Nat.eq_of_beq_eq_true hb) h
   have h':d≠a:=λe=>h e.symm;simp[Aw,this,ih,h']
theorem J8{α :Type}(d: α)(l r:List (Nat×α))(s:Nat):C1 d (l++r) s=if s∈l.map Prod.fst then C1 d l s else C1 d r s:=by
 induction l with
 |nil=>simp
 |cons x l ih=>
  obtain⟨a,y⟩:=x;rw[List.cons_append,Cz,Cz,ih];by_cases h:a=s
  ·subst h;simp
  ·have:¬s=a:=λe=>h e.symm;simp only[h,if_false,List.map_cons,List.mem_cons,this,false_or]
theorem L3(l r:List Nat)(d:Nat):Aw d (l++r)=(Aw d l && Aw d r):=by
 rw[Bool.eq_iff_iff];simp[Bs]
theorem Awh(K:List Nat):∀(l:List (Nat×List PV)) (d:Nat),C1 [] (rem K l) d=if d∈K then[]else C1 [] l d
 | [],d=>by simp[rem,C1]
 |(a,x)::r,d=>by
  simp only[rem];cases h:Aw a K with
  |true=>
   have ha:=(Bs _ _).1 h;simp only;rw[Cz,Cz,Awh K r d];by_cases e:a=d
   ·subst e;simp[ha]
   ·simp[e]
  |false=>
   have ha:a∈K:=by
    have:¬Aw a K=true:=by rw[h];simp
    rw[Bs]at this;exact Classical.not_not.1 this
   simp only;rw[Cz,Awh K r d];by_cases e:a=d
   ·subst e;simp[ha]
   ·simp[e]
theorem A02(K:List Nat):∀(l:List (Nat×List PV)) (d:Nat),d∈(rem K l).map Prod.fst↔d∈l.map Prod.fst/\d∉K
 | [],d=>by simp[rem]
 |(a,x)::r,d=>by
  simp only[rem];cases h:Aw a K with
  |true=>
   have ha:=(Bs _ _).1 h;simp only[List.map_cons,List.mem_cons,A02 K r d];constructor
   ·rintro (rfl|⟨h1,h2⟩)
    ·exact⟨.inl rfl,ha⟩
    ·exact⟨.inr h1,h2⟩
   ·rintro ⟨h1|h1,h2⟩
    ·exact .inl h1
    ·exact .inr ⟨h1,h2⟩
  |false=>
   have ha:a∈K:=by
    have:¬Aw a K=true:=by rw[h];simp
    rw[Bs]at this;exact Classical.not_not.1 this
   simp only[List.map_cons,List.mem_cons,A02 K r d];constructor
   ·rintro ⟨h1,h2⟩;exact⟨.inr h1,h2⟩
   ·rintro ⟨h1|h1,h2⟩
    ·subst h1;exact absurd ha h2
    ·exact⟨h1,h2⟩
theorem Ao6{a b:List Nat}{d:Nat}(h:d∈a↔d∈b):Aw d a=Aw d b:=by
 rw[Bool.eq_iff_iff,Bs,Bs,h]
theorem Qv{α :Type}{d: α}(f:Nat->α):∀(keys:List Nat) (s:Nat),C1 d (keys.map λx=>(x,f x)) s=if s∈keys then f s else d:=by
 intro keys
 induction keys with
 |nil=>intro s;simp[C1]
 |cons x keys ih=>
  intro s;rw[List.map_cons,Cz,ih];by_cases e:x=s
  ·subst e;simp
  ·have:¬s=x:=λe'=>e e'.symm;simp only[e,if_false,List.mem_cons,this,false_or]
theorem A2u(d:Nat):∀(l:List Nat) (x:Nat),x∈Bbl d l↔x=d\/x∈l
 | [],x=>by simp[Bbl]
 |b::r,x=>by
  simp only[Bbl];cases h1:Nat.blt d b with
  |true=>simp
  |false=>
   cases h2:Nat.beq d b with
   |true=>
    have:=Nat.eq_of_beq_eq_true h2;subst this;simp
   |false=>
    simp only[List.mem_cons,A2u d r x];constructor
    ·rintro (h|h|h)
     ·exact .inr (.inl h)
     ·exact .inl h
     ·exact .inr (.inr h)
    ·rintro (h|h|h)
     ·exact .inr (.inl h)
     ·exact .inl h
     ·exact .inr (.inr h)
theorem Vn:∀(l:List Nat) (x:Nat),x∈Awp l↔x∈l
 | [],x=>Iff.rfl
 |d::r,x=>by simp only[Awp,A2u,Vn r x,List.mem_cons]
theorem Aqv{α :Type}(d: α):∀(l:List (Nat×α)) (s:Nat),s∉l.map Prod.fst->C1 d l s=d
 | [],s,_=>rfl
 |(a,x)::r,s,h=>by
  rw[Cz,if_neg (λe=>h (by simp[e]))];exact Aqv d r s (λhs=>h (by simp at hs ⊢;exact .inr hs))
theorem Alk(l:List (Nat×List PV))(d:Nat):(d∈(Zy l).map Prod.fst)=(d∈l.map Prod.fst):=by
 have e:(Zy l).map Prod.fst=Awp (l.map Prod.fst):=by
  unfold Zy;rw[List.map_map];exact List.map_id' _
 rw[e];exact propext (Vn _ _)
theorem Am5(l:List (Nat×List PV))(d:Nat):C1 [] (Zy l) d=C1 [] l d:=by
 unfold Zy;rw[Qv];by_cases h:d∈Awp (l.map Prod.fst)
 ·rw[if_pos h]
 ·rw[if_neg h,Aqv [] l d (λhm=>h ((Vn _ _).2 hm))]
theorem Ari(l:List (Nat×List PV))(d:Nat):Aw d ((Zy l).map Prod.fst)=Aw d (l.map Prod.fst):=Ao6 (by rw[Alk])
theorem Agr(o l:List (Nat×List PV))(d:Nat):C1 [] (A0m o l) d=C1 [] (o++l) d:=by
 match o with
 | []=>rfl
 | [x]=>rfl
 |x::y::r=>
  show C1 [] ((x::y::r)++rem ((x::y::r).map Prod.fst) l) d=_
  rw[J8,J8,Awh];by_cases h:d∈(x::y::r).map Prod.fst
  ·rw[if_pos h,if_pos h]
  ·rw[if_neg h,if_neg h,if_neg h]
theorem Alj(o l:List (Nat×List PV))(d:Nat):Aw d ((A0m o l).map Prod.fst)=Aw d ((o++l).map Prod.fst):=by
 match o with
 | []=>rfl
 | [x]=>rfl
 |x::y::r=>
  refine Ao6 ?_;show d∈((x::y::r)++rem ((x::y::r).map Prod.fst) l).map Prod.fst↔_
  rw[List.map_append,List.map_append,List.mem_append,List.mem_append,A02];constructor
  ·rintro (h|⟨h,_⟩)
   ·exact .inl h
   ·exact .inr h
  ·rintro (h|h)
   ·exact .inl h
   ·by_cases e:d∈(x::y::r).map Prod.fst
    ·exact .inl e
    ·exact .inr ⟨h,e⟩
theorem Adq(a:Act)(d s:Nat)(v:Value)(hd:d<a.tmps.size):(a.put (some d) v).tmps.getD s undef=if d=s then v else a.tmps.getD s undef:=by
 simp only[Act.put,Array.getD_eq_getD_getElem?,Array.getElem?_setIfInBounds];by_cases h:d=s
 ·subst h;simp[hd]
 ·simp[h]
theorem Jv(st:St)(d s:Nat)(p:PV):(st.app ⟨[(d,p)],[]⟩).get s=if d=s then p else st.get s:=Cz _ _ _ _ _
section
variable {ι :Type} {cx: ι->PV×Value} {w0:He} {w w':World} {N M M':Ro} {β β':Qd} {nt:Nat} {st st':St} {a:Act}
theorem SR.reg(h:SR cx w0 N nt st a w M β)(s:Nat):B5 w M β w0.old (st.get s) (a.tmps.getD s undef):=h.sh.reg (.inl s)
def Apq(d:Nat):Xq (Nat ⊕ ι)->Option (Xq (Option (Nat ⊕ ι)))
 | .slot (.inl s)=>if d=s then some (.slot none)else some (.slot (some (.inl s)))
 | .slot (.inr i)=>some (.slot (some (.inr i)))
 | .cell x i=>some (.cell x i)
def Bil(d:Nat):Xq (Option (Nat ⊕ ι))->Xq (Nat ⊕ ι)
 | .slot none=>.slot (.inl d)
 | .slot (some k)=>.slot k
 | .cell x i=>.cell x i
theorem As1{d:Nat}{k:Xq (Nat ⊕ ι)}{j:Xq (Option (Nat ⊕ ι))}(h:Apq d k=some j):k=Bil d j:=by
 cases k with
 |slot k=>
  cases k with
  |inl s=>
   simp only[Apq]at h;by_cases e:d=s
   ·rw[if_pos e]at h;injection h with h;subst h;rw[<-e];rfl
   ·rw[if_neg e]at h;injection h with h;subst h;rfl
  |inr i=>injection h with h;subst h;rfl
 |cell x i=>injection h with h;subst h;rfl
theorem SR.of_cons{O:Nat->List PV}{D:Nat->Bool}(hdef:a.defers= [])(hnt:a.tmps.size=nt){d:Nat}(hd:d<nt){p:PV}{v:Value}{st0:St}
  (h:SH (L4 (p,v) (hold cx st0 a)) w0 N O D w M β)(hg:∀s,st'.get s=if d=s then p else st0.get s)(hO:∀x,st'.obj x=O x)
  (hD:∀x,Aw x (st'.ob.map Prod.fst)=true->D x=true):SR cx w0 N nt st' (a.put (some d) v) w M β :=by
 have hds:d<a.tmps.size:=by rw[hnt];exact hd
 have e:st'.obj=O:=funext hO;refine⟨hdef,by simp[Act.put,hnt],?_⟩;rw[e];have hH:∀s,hold cx st' (a.put (some d) v) (.inl s)=(if d=s then p else st0.get s,if d=s then v else a.tmps.getD s undef):=λs=>by
  simp only[hold];rw[hg,Adq a d s v hds]
 refine h.perm (λk=>?_) (λd b n hb=>(h.box d b n hb).2.2) (λx hx=>h.dom x (hD x hx)) (Apq d) ?_ (λk k' j h1 h2=>(As1 h1).trans (As1 h2).symm)
 ·cases k with
  |inl s=>
   rw[hH];by_cases e:d=s
   ·simp only[e,if_true];exact h.reg none
   ·simp only[e,if_false];exact h.reg (some (.inl s))
  |inr i=>exact h.reg (some (.inr i))
 ·intro key s u ho;cases key with
  |slot k=>
   cases k with
   |inl t=>
    have ho':(hold cx st' (a.put (some d) v) (.inl t)).1.eG=some s/\s.own=true/\ohd (hold cx st' (a.put (some d) v) (.inl t)).1 (hold cx st' (a.put (some d) v) (.inl t)).2=u:=ho;rw[hH]at ho';by_cases e:d=t
    ·refine⟨.slot none,by simp only[Apq];rw[if_pos e],?_⟩;rw[if_pos e,if_pos e]at ho';exact ho'
    ·refine⟨.slot (some (.inl t)),by simp only[Apq];rw[if_neg e],?_⟩;rw[if_neg e,if_neg e]at ho';exact ho'
   |inr i=>exact⟨_,rfl,ho⟩
  |cell x i=>exact⟨_,rfl,ho⟩
theorem SR.put(h:SR cx w0 N nt st a w M β)(d:Nat)(p:PV)(v:Value)(hd:d<nt)(hr:B5 w M β w0.old p v)(hn:∀s,p.eG=some s->s.own=false):
  SR cx w0 N nt (st.app ⟨[(d,p)],[]⟩) (a.put (some d) v) w M β :=
 SR.of_cons h.defs h.nt hd (h.sh.cons p v hr (λs h1 h2=>by rw[hn s h1]at h2;cases h2)) (λs=>Jv st d s p) (λ_=>rfl) (λ_ h=>h)
theorem SR.dput(h:SR cx w0 N nt st a w M β)(d:Option Nat)(p:PV)(v:Value)(hd:∀x,d=some x->x<nt)(hr:B5 w M β w0.old p v)(hn:∀s,p.eG=some s->s.own=false):
  SR cx w0 N nt (st.app (dput d p)) (a.put d v) w M β :=by
 cases d with
 |none=>exact h
 |some x=>exact h.put x p v (hd x rfl) hr hn
theorem SR.world(h:SR cx w0 N nt st a w M β)(hb:Below w.heap.size w w'):SR cx w0 N nt st a w' M β :=⟨h.defs,h.nt,h.sh.world hb⟩
theorem SR.drawn(h:SR cx w0 N nt st a w M β):SR cx w0 N nt st a { w with drawn:=w.drawn+1 } M β :=⟨h.defs,h.nt,h.sh.drawn⟩
theorem SR.drop(h:SR cx w0 N nt st a w M β)(s:Nat):SR cx w0 N nt (st.app ⟨[(s,(st.get s).view)],[]⟩) a w M β :=by
 refine⟨h.defs,h.nt,h.sh.hold (λk=>?_) some (λk sv h1 h2=>?_) (λk k' j h1 h2=>by injection h1 with h1;injection h2 with h2;rw[h1,h2])⟩
 ·cases k with
  |inl t=>
   simp only[hold];rw[Jv];by_cases e:s=t
   ·subst e;rw[if_pos rfl];exact(h.reg s).view
   ·rw[if_neg e];exact h.reg t
  |inr i=>exact h.sh.reg (.inr i)
 ·cases k with
  |inl t=>
   simp only[hold]at h1;rw[Jv]at h1;by_cases e:s=t
   ·rw[if_pos e]at h1;rw[Ow h1]at h2;cases h2
   ·rw[if_neg e]at h1;exact⟨_,rfl,h1,by simp only[hold];rw[Jv,if_neg e]⟩
  |inr i=>exact⟨_,rfl,h1,rfl⟩
theorem Ayo{O:Nat->List PV}{s:Nat}{sv:SV}(h1:(st.get s).eG=some sv)(h2:sv.own=true):Xr (hold cx st a) O w β (.slot (.inl s)) sv (ohd (st.get s) (a.tmps.getD s undef)):=⟨h1,h2,rfl⟩
theorem Av2{O:Nat->List PV}{s:Nat}{sv:SV}(h1:(st.get s).sv=some sv)(h2:sv.own=true):Xr (hold cx st a) O w β (.slot (.inl s)) sv (a.tmps.getD s undef):=⟨(Ud h1).1,h2,(Ud h1).2 _⟩
theorem Aer{O:Nat->List PV}{s:Nat}{key:Xq (Nat ⊕ ι)}{sv:SV}{v:Value}(h:Xr (hold cx (st.app ⟨[(s,(st.get s).view)],[]⟩) a) O w β key sv v):
  Xr (hold cx st a) O w β key sv v/\key≠ .slot (.inl s):=by
 cases key with
 |slot k=>
  cases k with
  |inl t=>
   obtain⟨h1,h2,h3⟩:=h;simp only[hold]at h1;rw[Jv]at h1;by_cases e:s=t
   ·rw[if_pos e]at h1;rw[Ow h1]at h2;cases h2
   ·simp only[hold]at h3;rw[Jv,if_neg e]at h3;rw[if_neg e]at h1;exact⟨⟨h1,h2,h3⟩,λe'=>by injection e' with e';injection e' with e';exact e e'.symm⟩
  |inr i=>exact⟨h,λe=>by injection e with e;cases e⟩
 |cell d i=>exact⟨h,λe=>by cases e⟩
theorem Np(l:List PV):∀(off:Nat) (new:List PV),(Lx l off new).length=l.length:=by
 induction l with
 |nil=>intro off new;simp[Lx]
 |cons p r ih=>
  intro off new;cases new with
  |nil=>cases off<;>simp[Lx]
  |cons q new=>
   cases off with
   |zero=>simp[Lx,ih]
   |succ n=>simp[Lx,ih]
theorem Aa9(l:List PV):∀(off:Nat) (new:List PV) (i:Nat),off+new.length<=l.length->
  (Lx l off new)[i]? =if off<=i/\i<off+new.length then new[i-off]? else l[i]? :=by
 induction l with
 |nil=>
  intro off new i h;have h1:off=0:=by simp at h;omega
  have h2:new= []:=List.eq_nil_of_length_eq_zero (by simp only[List.length_nil]at h;omega);subst h1;subst h2;simp[Lx]
 |cons p r ih=>
  intro off new i h;cases new with
  |nil=>
   have:Lx (p::r) off []=p::r:=by cases off<;>rfl
   rw[this,if_neg (λhh=>absurd hh.2 (by simp only[List.length_nil];omega))]
  |cons q new=>
   cases off with
   |zero=>
    have e:Lx (p::r) 0 (q::new)=q::Lx r 0 new:=rfl;rw[e];cases i with
    |zero=>simp
    |succ i=>
     rw[List.getElem?_cons_succ,ih 0 new i (by simp at h ⊢;omega)];by_cases hi:i<new.length
     ·rw[if_pos ⟨by omega,by omega⟩,if_pos ⟨by omega,by simp;omega⟩];simp
     ·rw[if_neg (by omega),if_neg (by simp;omega)];simp
   |succ n=>
    have e:Lx (p::r) (n+1) (q::new)=p::Lx r n (q::new):=rfl;rw[e];cases i with
    |zero=>rw[if_neg (by omega)];simp
    |succ i=>
     rw[List.getElem?_cons_succ,ih n (q::new) i (by simp at h ⊢;omega)];by_cases hi:n<=i/\i<n+(q::new).length
     ·rw[if_pos hi,if_pos ⟨by omega,by omega⟩]
      congr 1;omega
     ·rw[if_neg hi,if_neg (by omega)];simp
theorem Ac2(l:List PV):∀n,X4 l n=true↔l.length=n:=by
 induction l with
 |nil=>intro n;cases n<;>simp[X4]
 |cons p r ih=>intro n;cases n<;>simp[X4,ih]
theorem Su(l:List PV):∀n,Th l n=true↔n<=l.length:=by
 induction l with
 |nil=>intro n;cases n<;>simp[Th]
 |cons p r ih=>intro n;cases n<;>simp[Th,ih]
theorem A0k(cs:List Value)(off:Nat)(vs:List Value)(h:off+vs.length<=cs.length)(i:Nat):
  (cs.take off++vs++cs.drop (off+vs.length))[i]? =if off<=i/\i<off+vs.length then vs[i-off]? else cs[i]? :=by
 rw[List.append_assoc];by_cases h1:i<off
 ·rw[if_neg (by omega),List.getElem?_append_left (by simp;omega),List.getElem?_take,if_pos h1]
 ·rw[List.getElem?_append_right (by simp;omega)];have hl:(cs.take off).length=off:=by simp;omega
  rw[hl];by_cases h2:i<off+vs.length
  ·rw[if_pos ⟨by omega,h2⟩,List.getElem?_append_left (by omega)]
  ·rw[if_neg (by omega),List.getElem?_append_right (by omega),List.getElem?_drop]
   congr 1;omega
def RC(w:World)(M:Ro)(β :Qd)(B:Nat->Prop)(l:List PV)(cs:Array Value):Prop:=l.length=cs.size/\∀(i:Nat) (p:PV) (v:Value),l[i]? =some p->cs[i]? =some v->B5 w M β B p v/\v.oneCell'=true
theorem Bap{B:Nat->Prop}{p:PV}{v:Value}(h:B5 w M β B p v)(h1:Zt p.cells=true):
  v.cells.toList.length=p.cells.length/\(∀(i:Nat) (q:PV) (u:Value),p.cells[i]? =some q->v.cells.toList[i]? =some u->B5 w M β B q u/\u.oneCell'=true):=by
 have single:∀p v,B5 w M β B p v->p.one=true->p.cells= [p]->v.cells.toList.length=p.cells.length/\(∀(i:Nat) (q:PV) (u:Value),p.cells[i]? =some q->v.cells.toList[i]? =some u->B5 w M β B q u/\u.oneCell'=true):=by
  intro p v h h1 h2;have ho:=h.one h1;have hv:v.cells= #[v]:=by cases v<;>first|rfl|(simp[Value.oneCell']at ho)
  rw[h2,hv];refine⟨rfl,λi q u hq hu=>?_⟩;cases i with
  |zero=>simp at hq hu;subst hq;subst hu;exact⟨h,ho⟩
  |succ i=>simp at hq
 cases p with
 |agg l=>
  cases h with
  |agg l cs hl ho hr=>
   refine⟨hl.symm,λi q u hq hu=>⟨hr i q u hq hu,ho u ?_⟩⟩;exact List.mem_of_getElem? hu
  |row p s hs=>cases hs
 |any=>simp[PV.cells,Zt,PV.one]at h1
 |bI l=>simp[PV.cells,Zt,PV.one]at h1
 |ref l=>simp[PV.cells,Zt,PV.one]at h1
 |bU x=>simp[PV.cells,Zt,PV.one]at h1
 |aP _ _ _ _=>simp[PV.cells,Zt,PV.one]at h1
 |dB _ _ _ _ _ _=>simp[PV.cells,Zt,PV.one]at h1
 |val v=>exact single _ _ h (by simp only[PV.cells,Zt]at h1;split at h1;assumption;cases h1) rfl
 |_=>exact single _ _ h rfl rfl
theorem Jp{l:List PV}{i:Nat}{q:PV}(h:(l.map PV.view)[i]? =some q):∃p,l[i]? =some p/\q=p.view:=by
 rw[List.getElem?_map]at h;cases hp:l[i]? with
 |none=>rw[hp]at h;cases h
 |some p=>rw[hp]at h;injection h with h;exact⟨p,rfl,h.symm⟩
theorem Z5{B:Nat->Prop}{p:PV}{v:Value}(h:B5 w M β B p v)(h1:Zt p.cells=true):
  v.cells.toList.length=(p.cells.map PV.view).length/\(∀(i:Nat) (q:PV) (u:Value),(p.cells.map PV.view)[i]? =some q->v.cells.toList[i]? =some u->B5 w M β B q u/\u.oneCell'=true):=by
 obtain⟨c1,c2⟩:=Bap h h1;refine⟨by rw[c1];simp,λi q u hq hu=>?_⟩;obtain⟨p',hp',rfl⟩:=Jp hq;obtain⟨r1,r2⟩:=c2 i p' u hp' hu;exact⟨r1.view,r2⟩
theorem SR.aQ(h:SR cx w0 N nt st a w M β)(x:Operand):B5 w M β w0.old (st.aQ x) (a.eval x):=by
 cases x with
 |tmp t=>exact h.reg t
 |const v=>
  show B5 w M β w0.old (match Arq v with|true=>.val v|false=>.any) v
  cases hv:Arq v with
  |true=>exact .val v (by rw[<-A0t];exact hv)
  |false=>exact .any v
 |global g=>
  show B5 w M β w0.old (match Ayi GL g with|some x=>.ref [.aV false x]|none=>.any) (.pointer (some ⟨g,0,none⟩))
  cases hg:Ayi GL g with
  |none=>exact .any _
  |some x=>
   obtain⟨q1,v,q2,q3⟩:=h.sh.mN.gl.here h.sh.cK h.sh.mN.eq β w0.old hg;refine .ref [.aV false x] ⟨g,0,none⟩ (λ_=>v) (λi p hp=>?_) (λi p hp=>?_)
   ·cases i with
    |zero=>rw[add_lit];exact⟨.inl q1,q2,q3.one rfl⟩
    |succ i=>simp at hp
   ·cases i with
    |zero=>injection hp with hp;subst hp;exact q3
    |succ i=>simp at hp
 |func f=>exact .bK f 0 [] [] rfl (λi p v hp=>by simp at hp)
theorem SR.valOf(h:SR cx w0 N nt st a w M β):∀(l:List Operand),Afd st l=true->∀x∈l,a.eval x=st.valOf x:=by
 intro l
 induction l with
 |nil=>intro _ x hx;cases hx
 |cons y l ih=>
  intro hl x hx;simp only[Afd]at hl;split at hl
  ·rename_i v hy;rcases List.mem_cons.1 hx with e|e
   ·subst e;have:=h.aQ x;rw[hy]at this;simp only[St.valOf,hy];exact this.val_eq
   ·exact ih hl x e
  ·cases hl
theorem A21{l:List PV}{Q:Nat->PV->Value->Prop}(h:∀(i:Nat) (p:PV),l[i]? =some p->∃v,Q i p v):
  ∃vs:List Value,vs.length=l.length/\∀(i:Nat) (p:PV) (v:Value),l[i]? =some p->vs[i]? =some v->Q i p v:=by
 induction l generalizing Q with
 |nil=>exact⟨[],rfl,λi p v hp=>by simp at hp⟩
 |cons p r ih=>
  obtain⟨v,hv⟩:=h 0 p rfl;obtain⟨vs,h1,h2⟩:=ih (Q:=λi=>Q (i+1)) (λi q hq=>h (i+1) q (by simpa using hq));refine⟨v::vs,by simp[h1],λi q u hq hu=>?_⟩;cases i with
  |zero=>simp at hq hu;subst hq;subst hu;exact hv
  |succ i=>exact h2 i q u (by simpa using hq) (by simpa using hu)
def Yc(w:World)(M:Ro)(β :Qd)(B:Nat->Prop)(ad:Addr)(l:List PV):Prop:=∀(i:Nat) (p:PV),l[i]? =some p->∃v,w.cell? (ad.add i)=some v/\B5 w M β B p v/\v.oneCell'=true
theorem Yc.views{B:Nat->Prop}{ad:Addr}{l:List PV}(h:Yc w M β B ad l):Yc w M β B ad (l.map PV.view):=λi p hp=>by
 obtain⟨q,h1,rfl⟩:=Jp hp;obtain⟨v,a,b,c⟩:=h i q h1;exact⟨v,a,b.view,c⟩
theorem A3f:∀(l:List PV),Ia (l.map PV.view)=Ia l:=by
 intro l
 induction l with
 |nil=>rfl
 |cons p l ih=>cases p with
  |bI k=>cases k<;>exact ih
  |_=>simp only[List.map,PV.view,Ia]<;>exact ih
theorem Bdf{b:Nat}{x:LX}(h:st.vobj b= [.bU x]):st.obj b= [.bU x]:=by
 unfold St.vobj at h;generalize st.obj b=l at h ⊢
 match l,h with
 | [],h=>cases h
 | [p],h=>cases p with
  |bI k=>cases k<;>cases h
  |_=>simp[PV.view]at h ⊢ <;>exact h
 |p::q::r,h=>simp at h
theorem A9w(b off sz:Nat):((st.vobj b).drop off).take sz=(((st.obj b).drop off).take sz).map PV.view:=by
 simp only[St.vobj,List.map_drop,List.map_take]
theorem Bcb{B:Nat->Prop}{x:LX}{v:Value}(h:B5 w M β B (.bU x) v):False:=by
 cases h with
 |row p s hs=>cases hs
theorem A3p{B:Nat->Prop}{g1 g2:Bool}{x y:LX}{v:Value}(h:B5 w M β B (.aP g1 g2 x y) v):False:=by
 cases h with
 |row p s hs=>cases hs
theorem A3o{B:Nat->Prop}{es:Array MapEntry}{c:Nat}{g1 g2:Bool}{x y:LX}{v:Value}(h:B5 w M β B (.dB es c g1 g2 x y) v):False:=by
 cases h with
 |row p s hs=>cases hs
theorem Aum{B:Nat->Prop}{b n:Nat}{l:List PV}{x:LX}(h:Oe w M β B b n l)(hl:l= [.bU x]):∃cs t,w.heap[b]? =some (.cells cs t (0,0))/\x.len=n/\n*x.sz<=cs.size/\
  ∀(i j:Nat) (p:PV) (v:Value),i<n->(x.row i)[j]? =some p->cs[i*x.sz+j]? =some v->B5 w M β B p v/\v.oneCell'=true:=by
 cases h with
 |cells l cs t q1 q2 q3=>
  subst hl;have hs:1<=cs.size:=q2;have:=(q3 0 _ (cs[0]'(by omega)) rfl (Array.getElem?_eq_getElem (by omega))).1;exact(Bcb this).elim
 |arr y cs t q1 q2 q3 q4=>injection hl with hl;injection hl with hl;subst hl;exact⟨cs,t,q1,q2,q3,q4⟩
 |map=>injection hl with hl;cases hl
 |dB=>injection hl with hl;cases hl
theorem A0i{B:Nat->Prop}{b n:Nat}{l:List PV}{gk gv:Bool}{ks vs:LX}(h:Oe w M β B b n l)(hl:l= [.aP gk gv ks vs]):∃es clock,w.heap[b]? =some (.map es clock)/\es.size=ks.len/\vs.len=ks.len/\
  (∀(i:Nat) (e:MapEntry),es[i]? =some e->B5 w M β B (mkP gk (ks.row i)) e.key/\B5 w M β B (mkP gv (vs.row i)) e.val)/\Rv es clock:=by
 cases h with
 |cells l cs t q1 q2 q3=>
  subst hl;have hs:1<=cs.size:=q2;have:=(q3 0 _ (cs[0]'(by omega)) rfl (Array.getElem?_eq_getElem (by omega))).1;exact(A3p this).elim
 |arr=>injection hl with hl;cases hl
 |dB=>injection hl with hl;cases hl
 |map gk' gv' ks' vs' es clock q1 q2 q3 q4 q5=>injection hl with hl;injection hl with e1 e2 e3 e4;subst e1;subst e2;subst e3;subst e4;exact⟨es,clock,q1,q2,q3,q4,q5⟩
theorem Bha{B:Nat->Prop}{b n:Nat}{l:List PV}{gk gv:Bool}{ks vs:LX}(h:Oe w M β B b n l)(hl:A7b l=some (gk,gv,ks,vs)):∃es clock,w.heap[b]? =some (.map es clock)/\es.size=ks.len/\vs.len=ks.len/\
  ∀(i:Nat) (e:MapEntry),es[i]? =some e->B5 w M β B (mkP gk (ks.row i)) e.key/\B5 w M β B (mkP gv (vs.row i)) e.val:=by
 cases h with
 |cells l cs t q1 q2 q3=>
  unfold A7b at hl;split at hl
  ·have hs:1<=cs.size:=q2;have:=(q3 0 _ (cs[0]'(by omega)) rfl (Array.getElem?_eq_getElem (by omega))).1;exact(A3p this).elim
  ·have hs:1<=cs.size:=q2;have:=(q3 0 _ (cs[0]'(by omega)) rfl (Array.getElem?_eq_getElem (by omega))).1;exact(A3o this).elim
  ·cases hl
 |arr=>cases hl
 |map gk' gv' ks' vs' es clock q1 q2 q3 q4 q5=>injection hl with hl;injection hl with e1 hl;injection hl with e2 hl;injection hl with e3 e4;subst e1;subst e2;subst e3;subst e4;exact⟨es,clock,q1,q2,q3,q4⟩
 |dB gk' gv' ks' vs' es clock q1 q2 q3 q4 q5=>injection hl with hl;injection hl with e1 hl;injection hl with e2 hl;injection hl with e3 e4;subst e1;subst e2;subst e3;subst e4;exact⟨es,clock,q1,q2,q3,q4⟩
theorem Ayp:∀ {l:List PV},Ia l=true->∀(i:Nat) (p:PV),l[i]? =some p->(∀x,p≠ .bU x)/\(∀g1 g2 x y,p≠ .aP g1 g2 x y)
 | [],_,i,p,h=>by simp at h
 |q::r,h,i,p,hp=>by
  have hq:(∀x,q≠ .bU x)/\(∀g1 g2 x y,q≠ .aP g1 g2 x y)/\Ia r=true:=by
   cases q with
   |bU x=>cases h
   |aP a b c d=>cases h
   |dB a b c d e f=>cases h
   |_=>exact⟨λx e=>(by cases e),λa b c d e=>(by cases e),h⟩
  cases i with
  |zero=>simp at hp;subst hp;exact⟨hq.1,hq.2.1⟩
  |succ i=>exact Ayp hq.2.2 i p (by simpa using hp)
theorem Ayq:∀ {l:List PV},Ia l=true->∀(i:Nat) (es:Array MapEntry) (c:Nat) (g1 g2:Bool) (x y:LX),l[i]? ≠some (.dB es c g1 g2 x y)
 | [],_,i,_,_,_,_,_,_,h=>by simp at h
 |q::r,h,0,_,_,_,_,_,_,e=>by injection e with e;subst e;cases h
 |q::r,h,i+1,es,c,g1,g2,x,y,e=>by
  have:Ia r=true:=by cases q<;>first|exact h|cases h
  exact Ayq this i es c g1 g2 x y (by simpa using e)
theorem SR.cellsAt(h:SR cx w0 N nt st a w M β){d off b n:Nat}(hβ : β d=some (b,n)){l:List PV}(hl:∀(i:Nat) (p:PV),l[i]? =some p->(st.obj d)[off+i]? =some p)(hp:Ia l=true):Yc w M β w0.old ⟨b,off,none⟩ l:=by
 intro i p hp';obtain⟨_,_,h3⟩:=h.sh.box d b n hβ;have hn:=Ayp hp i p hp';have hq:=hl i p hp';generalize st.obj d=od at h3 hq;cases h3 with
 |cells l cs t q1 q2 q3=>
  have hlt:off+i<cs.size:=by
   have:=(List.getElem?_eq_some_iff.1 hq).1;omega
  have hv:cs[off+i]? =some cs[off+i]:=Array.getElem?_eq_getElem hlt;refine⟨_,?_,(q3 _ p _ hq hv)⟩;rw[Afw,World.cell?,q1];exact hv
 |arr x cs t q1 q2 q3 q4=>
  rw[List.getElem?_cons]at hq;split at hq
  ·injection hq with hq;exact absurd hq.symm (hn.1 x)
  ·simp at hq
 |map g1 g2 ks vs es clock q1 q2 q3 q4=>
  rw[List.getElem?_cons]at hq;split at hq
  ·injection hq with hq;exact absurd hq.symm (hn.2 _ _ _ _)
  ·simp at hq
 |dB g1 g2 ks vs es clock q1 q2 q3 q4=>
  rw[List.getElem?_cons]at hq;split at hq
  ·injection hq with hq;subst hq;exact absurd hp' (Ayq hp i _ _ _ _ _ _)
  ·simp at hq
theorem Aff{l:List PV}{off sz i:Nat}{p:PV}(h:((l.drop off).take sz)[i]? =some p):l[off+i]? =some p:=by
 rw[List.getElem?_take]at h;split at h
 ·rw[List.getElem?_drop]at h;exact h
 ·cases h
end
end Go.Proofs.YtgacplpjamkieaaGreat.Ev
