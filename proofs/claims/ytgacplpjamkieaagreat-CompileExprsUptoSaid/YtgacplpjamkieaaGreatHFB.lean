/-  An evaluator of translated code on data without memory: definitions. -/
import Derived.Test.YtgacplpjamkieaaGreatHFA
set_option linter.unusedVariables false
set_option linter.unusedSimpArgs false
set_option linter.unnecessarySimpa false
namespace Go.Proofs.YtgacplpjamkieaaGreat.Ev
open Go
structure SV where
 own:Bool
 e:Nat
 sz:Nat
 n:Nat
 f:Nat->List PV
def PV.sv:PV->Option SV
 | .sl own e sz es=>some ⟨own,e,sz,es.length,λi=>es.getD i []⟩
 | .aO own x=>some ⟨own,x.e,x.sz,x.len,x.row⟩
 |_=>none
def PV.dQ:PV->Option SV
 | .aY (p::_)=>p.sv
 |p=>p.sv
def ohd:PV->Value->Value
 | .aY _,v=>match v with
  | .tuple cs=>cs.getD 0 undef
  |v=>v
 |_,v=>v
def A6m:List PV->List PV
 | []=> []
 |p::r=>p::r.map PV.view
structure St where
 fr:List (Nat×PV)
 ob:List (Nat×List PV)
 base:Nat
structure B2 where
 s:List (Nat×PV)
 o:List (Nat×List PV)
def B4{α :Type}(d: α):List (Nat×α)->Nat->α
 | [],_=>d
 |(a,x)::r,s=>match Nat.beq a s with
  |true=>x
  |false=>B4 d r s
def Ar(d:Nat):List Nat->Bool
 | []=>true
 |a::r=>match Nat.beq a d with
  |true=>false
  |false=>Ar d r
def rem(K:List Nat):List (Nat×List PV)->List (Nat×List PV)
 | []=> []
 |(d,l)::r=>match Ar d K with
  |true=>(d,l)::rem K r
  |false=>rem K r
def Awc(o:List (Nat×List PV))(l:List (Nat×List PV)):List (Nat×List PV):=match o with
 | []=>l
 | [x]=>x::l
 |x::y::r=>(x::y::r)++rem ((x::y::r).map Prod.fst) l
def St.app(st:St)(δ :B2):St:= { fr:= δ.s++st.fr,ob:=Awc δ.o st.ob,base:=st.base }
def St.get(st:St)(s:Nat):PV:=B4 .any st.fr s
def St.put(st:St)(s:Nat)(p:PV):St:= { st with fr:=(s,p)::st.fr }
def St.obj(st:St)(d:Nat):List PV:=B4 [] st.ob d
def St.vobj(st:St)(d:Nat):List PV:=(st.obj d).map PV.view
def Ams:Value->Bool
 | .agg _| .tuple _=>false
 |_=>true
def Aub:List (Nat×LX)->Nat->Option LX
 | [],_=>none
 |(a,x)::r,g=>match Nat.beq a g with
  |true=>some x
  |false=>Aub r g
def St.aM(st:St):Operand->PV
 | .tmp t=>st.get t
 | .global g=>match Aub GL g with
  |some x=>.ref [.aO false x]
  |none=>.any
 | .const v=>match Ams v with
  |true=>.val v
  |false=>.any
 | .func f=>.bA f 0 []
def PV.cells:PV->List PV
 | .agg l=>l
 |p=> [p]
def PV.one:PV->Bool
 | .val v=>Ams v
 | .sl _ _ _ _=>true
 | .aO _ _=>true
 | .loc _ _=>true
 | .el _ _ _ _=>true
 | .vw _ _ _ _ _=>true
 | .mp _=>true
 | .bA _ _ _=>true
 |_=>false
def Sx:List PV->Bool
 | []=>true
 |p::r=>match p.one with
  |true=>Sx r
  |false=>false
inductive K where
 |move (x:Operand)
 |fH (e:Nat)
 |take (x:Nat)
 |pick (c a b:Operand)
 |alloc (zero:List PV)
 |box (x:Operand)
 |build (zero:List PV) (parts:List (Nat×Nat×Operand))
 |eB (e sz:Nat) (parts:List Operand)
 |load (agg:Bool) (sz:Nat) (x:Operand)
 |loadT (x:Operand)
 |store (sz:Nat) (a x:Operand)
 |storeT (a:Operand) (s:Nat)
 |dB (o:Oper)
 |gM (neg:Bool) (ts:List (Nat×Nat)) (x y:Operand)
 |bY (tag:Nat) (x y:Operand)
 |field (off:Nat) (x:Operand)
 |index (sz:Nat) (x i:Operand)
 |len (x:Operand)
 |cap (x:Operand)
 |app (e sz by_:Nat) (s:Nat) (x:Operand)
 |clone (cm:Bool) (e sz by_:Nat) (s:Nat) (x:Operand)
 |call (f:Nat) (args:List Operand)
 |eY (f:Nat) (args:List Operand)
 |eZ (x:Operand) (args:List Operand)
 |gI (f n:Nat) (caps:List Operand)
 |extract (x:Operand) (i:Nat)
 |nil (x:Operand)
 |fQ (e sz by_:Nat) (z:List PV) (n:Operand)
 |fK (e sz by_:Nat) (n:Operand)
 |gU (sz:Nat) (x:Operand) (lo hi mx:Option Operand)
 |fZ (x:Operand) (lo hi:Option Operand)
 |fC (gk gv:Bool) (ks vs:LX)
 |lookup (gq:Bool) (ts:List (Nat×Nat)) (ok g:Bool) (z:List PV) (m k:Operand)
 |eT (gq:Bool) (ts:List (Nat×Nat)) (m k v:Operand)
 |del (gq:Bool) (ts:List (Nat×Nat)) (m k:Operand)
 |gL (off sz:Nat) (g:Bool) (x:Operand)
 |ext (sub:Bool) (x y c:Operand)
 |fF (f:Nat) (args:List Operand)
 |dN (f:Nat) (args:List Operand) (s:Nat)
 |gF (x:Operand)
 |eP (f:Nat) (args:List Operand)
 |dJ (s:Nat)
 |eF (near:Bool) (r:Nat) (agg:Bool) (sz:Nat) (x:Operand)
 |dV (r sz:Nat) (a x:Operand)
 |fU (cm:Bool) (e sz:Nat) (parts:List Operand)
 |fM (cm:Bool) (e sz by_:Nat) (s:Nat) (x:Operand)
 |stop
structure Ek where
 dst:Option Nat
 g:Option (Nat×Bool)
 k:K
inductive EC where
 |skip
 |region (ban:List Nat) (ap:List (Nat×Nat)) (ops:List Ek)
 |gJ (ops:List Ek)
 |seq (a b:EC)
 |cond (c:Operand) (a b:EC)
 |block (id:Nat) (b:EC)
 |loop (keys:List Nat) (b:EC)
 |exit (id:Nat)
 |ret
 |kp (keys:List Nat)
 |gW (ts:List Nat)
 |fI (keys:List Nat) (b:EC)
 |gZ (ts:List Nat)
 |gY (pre:List Ek) (m:Operand) (it nx more pair:Nat) (keys:List Nat) (asg:List Ek) (b:EC) (n:Nat)
 |stop
inductive Ex where
 |normal|exit (id:Nat)|ret
def Akv{α :Type}(P:Program):Sem α->(α->Prop)->Prop
 | .pure a,k=>k a
 | .program f,k=>Akv P (f P) k
 |_,_=>False
abbrev Ba:=Nat->List PV->(PV->Prop)->Prop
abbrev Inl:=Nat->List PV->List (Nat×List PV)->(PV->List (Nat×List PV)->Prop)->Prop
def gd(p:Prop) [d:Decidable p](k:Prop):Prop:=match d with
 | .isTrue _=>k
 | .isFalse _=>False
theorem Au(p:Prop) [d:Decidable p](k:Prop):gd p k=(p/\k):=by
 unfold gd;cases d with
 |isTrue h=>exact propext ⟨λhk=>⟨h,hk⟩,λhk=>hk.2⟩
 |isFalse h=>exact propext ⟨λhk=>hk.elim,λhk=>h hk.1⟩
def Ba3(b:Bool)(p:Prop) [Decidable p](k:Prop):Prop:=match b with
 |true=>gd p k
 |false=>k
theorem Aj5(b:Bool)(p:Prop) [Decidable p](k:Prop):Ba3 b p k=((b=true->p)/\k):=by
 cases b with
 |true=>simp only[Ba3,Au,forall_const]
 |false=>simp[Ba3]
def br(t:Bool)(A B:Prop):Prop:=match t with
 |true=>A
 |false=>B
def fk(r:Option Nat)(A:Nat->Prop)(B:Prop):Prop:=match r with
 |some i=>A i
 |none=>B
def Lq(l:List PV)(off:Nat):PV:=match l,off with
 | [],_=>.any
 |p::_,0=>p
 |_::r,n+1=>Lq r n
def Qm(l:List PV)(n:Nat):Bool:=match l,n with
 | [],0=>true
 |_::r,n+1=>Qm r n
 |_,_=>false
def Mj(l:List PV)(n:Nat):Bool:=match l,n with
 |_,0=>true
 |_::r,n+1=>Mj r n
 |_,_=>false
def V2(agg:Bool)(l:List PV):PV:=match agg,l with
 |true,l=>.agg l
 |false,[p]=>p.view
 |false,_=>.any
def dput(d:Option Nat)(p:PV):B2:=match d with
 |some s=>⟨[(s,p)],[]⟩
 |none=>⟨[],[]⟩
def Er:List PV->Bool
 | []=>true
 | .bG _::_=>false
 | .aL _ _ _ _::_=>false
 | .bV _ _ _ _ _ _::_=>false
 |_::r=>Er r
def Awp:List PV->Bool
 | []=>false
 |p::r=>Er (p::r)
theorem Azc{l:List PV}(h:Awp l=true):Er l=true/\l≠ []:=by
 cases l with
 |nil=>cases h
 |cons p r=>exact⟨h,by simp⟩
def PV.pure0(p:PV):PV:=match p.flat with
 |true=>p.view
 |false=>.any
def Ahk(O:Nat->List PV):PV->PV
 | .loc d off=>match Er ((O d).drop off) with
  |true=>.ref (((O d).drop off).map PV.pure0)
  |false=>.any
 | .agg l=>.agg (l.map PV.pure0)
 | .ref l=>.ref (l.map PV.pure0)
 |p=>p.pure0
def Vi(st:St)(ban:List Nat):List Operand->Bool
 | []=>true
 |x::r=>match ban,st.aM x with
  | [],_=>true
  |ban,.loc b _=>match Ar b ban with
   |true=>Vi st ban r
   |false=>false
  |ban,_=>Vi st ban r
def Ah0(st:St)(cells:List PV):List (Nat×Nat×Operand)->(List PV->Prop)->Prop
 | [],k=>k cells
 |(off,sz,x)::r,k=>match Qm (st.aM x).cells sz,Sx (st.aM x).cells,Mj cells (off+sz) with
  |true,true,true=>Ah0 st (Hy cells off ((st.aM x).cells.map PV.view)) r k
  |_,_,_=>False
def Wh(st:St)(sz:Nat):List Operand->(List (List PV)->Prop)->Prop
 | [],k=>k []
 |x::r,k=>match Qm (st.aM x).cells sz,Sx (st.aM x).cells with
  |true,true=>Wh st sz r λl=>k ((st.aM x).cells.map PV.view::l)
  |_,_=>False
def g7(st:St):List Operand->Bool
 | []=>true
 |x::r=>match st.aM x with
  | .val _=>g7 st r
  |_=>false
def St.valOf(st:St)(x:Operand):Value:=match st.aM x with
 | .val v=>v
 |_=>undef
def Aup(P:Program)(st:St)(o:Oper)(d:Option Nat)(k:B2->Prop):Prop:=
 match g7 st o.op.operands.toList with
 |true=>Akv P (execOp st.valOf o) λn=>match n with
  | .value v=>match Ams v with
   |true=>k (dput d (.val v))
   |false=>False
  |_=>False
 |false=>False
def Ain:List (Nat×Nat)->List PV->List PV->Option Bool
 | [],_,_=>some true
 |(tag,o)::r,xs,ys=>match Ain r xs ys with
  |none=>none
  |some t=>match tag,Lq xs o,Lq ys o with
   |0,.val (.bool a),.val (.bool b)=>some ((a == b) && t)
   |1,.val (.int k a),.val (.int k' b)=>match decide (k=k') with
    |true=>some ((a == b) && t)
    |false=>none
   |2,.val (.string a),.val (.string b)=>some ((a == b) && t)
   |_,_,_=>none
def C5:Option UInt8->Int
 |some b=>(b.toNat:Int)
 |none=>0
def Bri(a b c:Int):Int:=Int.ofNat ((a.toNat+b.toNat+c.toNat) % 18446744073709551616)
def Brh(a b c:Int):Int:=Int.ofNat ((a.toNat+b.toNat+c.toNat)/18446744073709551616)
def Bsx(a b c:Int):Int:=Int.ofNat ((a.toNat+18446744073709551616-b.toNat-c.toNat) % 18446744073709551616)
def Bph(a b c:Int):Int:=match Nat.blt a.toNat (b.toNat+c.toNat) with
 |true=>1
 |false=>0
def Bhd(sub:Bool)(a b c:Int):PV:=match sub with
 |false=>.aY [.val (.int .u64 (Bri a b c)),.val (.int .u64 (Brh a b c))]
 |true=>.aY [.val (.int .u64 (Bsx a b c)),.val (.int .u64 (Bph a b c))]
def bY(tag:Nat)(x y:Value):Option (Bool×Value):=match tag,x,y with
 |0,.int k a,.int k' b=>match decide (k=k') with
  |true=>some (!decide (b=0),.int k (k.wrap (a.tdiv b)))
  |false=>none
 |1,.int k a,.int k' b=>match decide (k=k') with
  |true=>some (!decide (b=0),.int k (a.tmod b))
  |false=>none
 |2,.int k a,.int _ b=>some (!decide (b<0),.int k (k.wrap (a*2 ^ (min b.toNat k.bits))))
 |3,.int k a,.int _ b=>some (!decide (b<0),.int k (a.fdiv (2 ^ (min b.toNat k.bits))))
 |4,.string a,.string b=>some (!decide (((a.size+b.size:Nat):Int)>IntKind.i64.max),.string (a++b))
 |5,.string s,.int _ n=>some ((if 0<=n then s[n.toNat]? else none).isSome,.int .u8 (C5 (if 0<=n then s[n.toNat]? else none)))
 |_,_,_=>none
def Axa:Nat->PV->Bool
 |0,.val (.bool _)=>true
 |1,.val (.int _ _)=>true
 |2,.val (.string _)=>true
 |_,_=>false
def So:List (Nat×Nat)->List PV->Bool
 | [],[]=>true
 |(tag,_)::r,p::l=>match Axa tag p with
  |true=>So r l
  |false=>false
 |_,_=>false
def Adc(gq:Bool)(ts:List (Nat×Nat))(p:PV):Option (List PV):=match gq,p with
 |true,.agg l=>match So ts l with
  |true=>some l
  |false=>none
 |true,_=>none
 |false,p=>match So ts [p] with
  |true=>some [p]
  |false=>none
def Aog:Bool->Bool->Bool
 |true,true=>true
 |false,false=>true
 |_,_=>false
def Axc(g:Bool)(p:PV):Option (List PV):=match g,p with
 |true,.agg l=>some (l.map PV.view)
 |true,_=>none
 |false,p=>match p.one with
  |true=>some [p.view]
  |false=>none
def Boe:Operand->Bool
 | .const _=>true
 |_=>false
def St.bnd(st:St)(d:Int):Option Operand->Option Int
 |none=>some d
 |some x=>match st.aM x with
  | .val (.int _ n)=>some n
  |_=>none
def Amk(st:St)(x:Operand)(v:Value)(tag:Nat)(d:Option Nat)(k:B2->Prop):Prop:=match v,(st.aM x).sv with
 | .slice none 0 0,some s=>match tag with
  |6=>gd (0<s.n) (k (dput d (.val (.bool false))))
  |7=>gd (0<s.n) (k (dput d (.val (.bool true))))
  |_=>False
 |_,_=>False
def PV.bare(e sz:Nat):PV->Bool
 | .val (.slice none 0 0)=>true
 | .aO true y=>match Nat.beq y.len 0,Nat.beq e y.e,Nat.beq sz y.sz with
  |true,true,true=>true
  |_,_,_=>false
 |_=>false
def A2v:PV->PV->PV
 | .aO true y,.val (.slice none 0 0)=>match Nat.beq y.len 0 with
  |true=>.aO true y
  |false=>.val (.slice none 0 0)
 |_,p=>p
def Xp:List PV->List PV->List PV
 |_,[]=> []
 | [],p::ps=>p::ps
 |o::os,p::ps=>A2v o p::Xp os ps
def LX.flat(z:LX):List PV:=(((List.range z.len).map z.row).flatten).map PV.view
def LX.cut(x:LX)(i:Nat):Option LX:=LX.cat (x.sub 0 i) (x.sub (i+1) x.len)
def St.argT(st:St)(s:Nat):Operand->PV
 | .tmp t=>match Nat.beq t s with
  |true=>st.get t
  |false=>(st.get t).view
 |x=>(st.aM x).view
def noO(s:Nat):List Operand->Bool
 | []=>true
 | .tmp t::r=>match Nat.beq t s with
  |true=>false
  |false=>noO s r
 |_::r=>noO s r
def Akt(s:Nat):List Operand->Bool
 | []=>false
 | .tmp t::r=>match Nat.beq t s with
  |true=>noO s r
  |false=>Akt s r
 |_::r=>Akt s r
def Ru(st:St):List Operand->Bool
 | []=>true
 |x::r=>match (st.aM x).view.flat with
  |true=>Ru st r
  |false=>false
def A4u(r:PV)(o':List (Nat×List PV))(p:Prop):Prop:=match o',r.flat with
 | [],true=>p
 |_,_=>False
def A22:List PV->Option (Bool×Bool×LX×LX)
 | [.aL gk gv ks vs]=>some (gk,gv,ks,vs)
 | [.bV _ _ gk gv ks vs]=>some (gk,gv,ks,vs)
 |_=>none
def Ep(P:Program)(f:Nat):Bool:=match P.funcs[f]? with
 |some fn=> !(fn.name == "runtime.NumGoroutine") && fn.body.isSome
 |none=>false
def Aoo(f:PV->Bool):List PV->Bool
 | []=>true
 |p::r=>match f p with
  |true=>Aoo f r
  |false=>false
def PV.gT:PV->Bool
 | .agg l=>Aoo PV.flat l
 |p=>p.flat
def PV.fx:PV->Bool
 | .aY l=>Aoo PV.gT l
 |p=>p.gT
def PV.cross:PV->PV
 | .agg l=>.agg (l.map PV.pure0)
 |p=>p.pure0
def PV.gG:PV->Bool
 | .any=>true
 | .val _=>true
 | .aO false _=>true
 |_=>false
def okC(l:List PV):Bool:=Aoo PV.gG l
def PV.fO:PV->Bool
 | .any=>true
 | .val _=>true
 | .aO _ _=>true
 |_=>false
def okD(l:List PV):Bool:=Aoo PV.fO l
def okE:List PV->Bool
 | []=>false
 |p::r=>okD (p::r)
theorem Ar2{l:List PV}(h:okE l=true):okD l=true/\l≠ []:=by
 cases l with
 |nil=>cases h
 |cons p r=>exact⟨h,by simp⟩
def stK(P:Program)(C:Ba)(f:Nat)(args:List PV)(ob:List (Nat×List PV))(k:PV->List (Nat×List PV)->Prop):Prop:=match args with
 | .loc d 0::ps=>match Ar d (ob.map Prod.fst),okE (B4 [] ob d),Ep P f with
  |false,true,true=>C f (.aY (B4 [] ob d)::ps.map PV.cross) λr=>match r with
   | .aY [r0,.agg l]=>k r0 [(d,l)]
   |_=>False
  |_,_,_=>False
 |_=>False
def Bhe(bs:Nat):PV->Bool
 | .loc d 0=>Nat.blt d bs
 |_=>false
def At4(l:List (List PV)):List PV:=l.flatten.map PV.view
def Ax(P:Program)(C:Ba)(X:Inl)(ban:List Nat)(o:K)(d:Option Nat)(st:St)(k:B2->Prop):Prop:=
 match o with
 | .move x=>k (dput d (st.aM x).view)
 | .fH e=>match d,LX.nil e with
  |some d,some x=>k ⟨[(d,.aO true x)],[]⟩
  |_,_=>False
 | .take s=>match d with
  |some d=>k ⟨[(d,st.get s),(s,(st.get s).view)],[]⟩
  |none=>False
 | .pick c a b=>match st.aM c with
  | .val (.bool t)=>br t (k (dput d (st.aM a).view)) (k (dput d (st.aM b).view))
  |_=>False
 | .alloc z=>match d with
  |some s=>match Ar (st.base+s) (st.ob.map Prod.fst) with
   |true=>k ⟨[(s,.loc (st.base+s) 0)],[(st.base+s,z)]⟩
   |_=>False
  |none=>False
 | .box x=>match d with
  |some s=>match Ar (st.base+s) (st.ob.map Prod.fst),Sx (st.aM x).cells with
   |true,true=>k ⟨[(s,.loc (st.base+s) 0)],[(st.base+s,(st.aM x).cells.map PV.view)]⟩
   |_,_=>False
  |none=>False
 | .build z parts=>Ah0 st (z.map PV.view) parts λl=>k (dput d (.agg l))
 | .eB e sz parts=>Wh st sz parts λl=>match LX.lit e l with
  |some x=>match Nat.beq x.sz sz with
   |true=>k (dput d (.aO true x))
   |false=>False
  |none=>k (dput d (.sl true e sz l))
 | .load agg sz x=>match st.aM x with
  | .loc b off=>match Ar b ban,Mj ((st.vobj b).drop off) sz,Er (((st.vobj b).drop off).take sz) with
   |true,true,true=>k (dput d (V2 agg (((st.vobj b).drop off).take sz)))
   |_,_,_=>False
  | .ref l=>match Mj l sz with
   |true=>k (dput d (V2 agg (l.take sz)))
   |false=>False
  | .el b sz' i off=>match Ar b ban,st.vobj b with
   |true,[.bG x]=>match Nat.beq sz' x.sz,Mj ((x.row i).drop off) sz with
    |true,true=>k (dput d (V2 agg (((x.row i).drop off).take sz)))
    |_,_=>False
   |_,_=>False
  |_=>False
 | .loadT x=>match st.aM x,d with
  | .loc b off,some d=>match Ar b ban,(Lq (st.obj b) off).one && Er (st.obj b) with
   |true,true=>k ⟨[(d,Lq (st.obj b) off)],[(b,Hy (st.obj b) off [(Lq (st.obj b) off).view])]⟩
   |_,_=>False
  |_,_=>False
 | .store sz a x=>match st.aM a with
  | .loc b off=>match Qm (st.aM x).cells sz,Sx (st.aM x).cells,Mj (st.obj b) (off+sz) && Awp (st.obj b) with
   |true,true,true=>k ⟨[],[(b,Hy (st.obj b) off (Xp ((st.obj b).drop off) ((st.aM x).cells.map PV.view)))]⟩
   |_,_,_=>False
  | .el b sz' i off=>match Qm (st.aM x).cells sz,Sx (st.aM x).cells,st.obj b with
   |true,true,[.bG y]=>match Nat.beq sz' y.sz,LX.set y i off ((st.aM x).cells.map PV.view) with
    |true,some y'=>k ⟨[],[(b,[.bG y'])]⟩
    |_,_=>False
   |_,_,_=>False
  |_=>False
 | .storeT a s=>match st.aM a with
  | .loc b off=>match (st.get s).one,Mj (st.obj b) (off+1) && Er (st.obj b) with
   |true,true=>k ⟨[(s,(st.get s).view)],[(b,Hy (st.obj b) off [st.get s])]⟩
   |_,_=>False
  | .el b sz' i off=>match (st.get s).one,st.obj b with
   |true,[.bG y]=>match Nat.beq sz' y.sz,LX.set y i off [(st.get s).view] with
    |true,some y'=>k ⟨[(s,(st.get s).view)],[(b,[.bG y'])]⟩
    |_,_=>False
   |_,_=>False
  |_=>False
 | .dB o=>Aup P st o d k
 | .bY tag x y=>match st.aM x,st.aM y with
  | .val u,.val v=>match bY tag u v with
   |some (c,r)=>br c (k (dput d (.val r))) False
   |none=>False
  |_,.val v=>Amk st x v tag d k
  |_,_=>False
 | .gM neg ts x y=>match st.aM x,st.aM y with
  | .agg xs,.agg ys=>match Ain ts xs ys with
   |some t=>match neg with
    |true=>k (dput d (.val (.bool (!t))))
    |false=>k (dput d (.val (.bool t)))
   |none=>False
  |_,_=>False
 | .field off x=>match st.aM x with
  | .loc b o=>k (dput d (.loc b (o+off)))
  | .ref l=>k (dput d (.ref (l.drop off)))
  | .el b sz i o=>k (dput d (.el b sz i (o+off)))
  |_=>False
 | .index sz x i=>match st.aM x,st.aM i with
  | .vw c b e sz' m,.val (.int _ n)=>match Nat.beq sz sz',c with
   |true,false=>gd (0<=n) (gd (n<(m:Int)) (k (dput d (.el b sz n.toNat 0))))
   |true,true=>gd (0<=n) (gd (n<(m:Int)) (k (dput d (.loc b (n.toNat*sz)))))
   |_,_=>False
  |p,.val (.int _ n)=>match p.sv with
   |some s=>match Nat.beq sz s.sz with
    |true=>gd (0<=n) (gd (n<(s.n:Int)) (k (dput d (.ref (s.f n.toNat)))))
    |false=>False
   |none=>False
  |_,_=>False
 | .len x=>match st.aM x with
  | .vw _ _ _ _ m=>k (dput d (.val (.int .i64 m)))
  | .val (.slice _ n _)=>k (dput d (.val (.int .i64 n)))
  |p=>match p.sv with
   |some s=>k (dput d (.val (.int .i64 s.n)))
   |none=>False
 | .cap x=>match st.aM x with
  | .val (.slice _ _ c)=>k (dput d (.val (.int .i64 c)))
  |_=>False
 | .app e sz by_ s x=>match d with
  |some d=>match st.get s,st.aM x with
   | .aO true y,.aO _ z=>match Nat.beq e y.e,Nat.beq sz y.sz,LX.cat y z with
    |true,true,some r=>gd ((y.len+z.len)*by_<=140737488355328) (gd (y.len+z.len<=maxLen) (k ⟨[(d,.aO true r),(s,.aO false y)],[]⟩))
    |_,_,_=>False
   | .aO true y,.val (.slice none 0 0)=>match Nat.beq e y.e with
    |true=>k ⟨[(d,.aO true y),(s,.aO false y)],[]⟩
    |false=>False
   | .val (.slice none 0 0),.aO _ z=>match Nat.beq e z.e,Nat.beq sz z.sz with
    |true,true=>gd ((0+z.len)*by_<=140737488355328) (gd (0+z.len<=maxLen) (k ⟨[(d,.aO true z)],[]⟩))
    |_,_=>False
   |_,_=>False
  |none=>False
 | .clone cm e sz by_ s x=>match d,LX.nil e with
  |some d,some n=>match Ar (st.base+d) (st.ob.map Prod.fst),(st.get s).bare e sz && Nat.beq e n.e && Nat.beq sz n.sz with
   |true,true=>match st.aM x with
    | .aO _ z=>match Nat.beq e z.e,Nat.beq sz z.sz with
     |true,true=>br (Nat.beq z.len 0) (k ⟨[(d,.aO true n),(s,(st.get s).view)],[]⟩)
      (gd (z.len*by_<=140737488355328) (gd (z.len<=maxLen) (k ⟨[(d,.vw cm (st.base+d) e sz z.len),(s,(st.get s).view)],[(st.base+d,match cm with|true=>z.flat|false=> [.bG z])]⟩)))
     |_,_=>False
    |_=>False
   |_,_=>False
  |_,_=>False
 | .call f args=>match Vi st ban args with
  |true=>C f (args.map λx=>Ahk st.obj (st.aM x)) λr=>k (dput d r.view)
  |false=>False
 | .eY f args=>X f (args.map λx=>(st.aM x).view) st.ob λr o'=>k ⟨(dput d r).s,o'⟩
 | .eZ x args=>match st.aM x with
  | .bA f n caps=>X f ((caps.take n++((args.map λx=>(st.aM x).view)++caps.drop n)).map PV.view) st.ob λr o'=>k ⟨(dput d r).s,o'⟩
  |_=>False
 | .gI f n caps=>k (dput d (.bA f n (caps.map λx=>(st.aM x).view)))
 | .extract x i=>match st.aM x with
  | .aY l=>match Mj l (i+1) with
   |true=>k (dput d (Lq l i).view)
   |false=>False
  |_=>False
 | .dJ s=>match d,st.get s with
  |some d,.aY (.aO true x::r)=>k ⟨[(d,.aO true x),(s,.aY (.aO false x::r))],[]⟩
  |some d,.aY (p::_)=>k (dput (some d) p.view)
  |_,_=>False
 | .nil x=>match st.aM x with
  | .loc b off=>k (dput d (.loc b off))
  | .ref l=>k (dput d (.ref l))
  | .el b sz i off=>k (dput d (.el b sz i off))
  |_=>False
 | .fQ e sz by_ z n=>match d,st.aM n with
  |some s,.val (.int .i64 m)=>match Boe n with
   |true=>match decide (0<=m),Ar (st.base+s) (st.ob.map Prod.fst),Nat.ble (m.toNat*by_) 140737488355328 && Nat.ble m.toNat 16777216 with
    |true,true,true=>k ⟨[(s,.vw true (st.base+s) e sz m.toNat)],[(st.base+s,(List.replicate m.toNat z).flatten)]⟩
    |_,_,_=>False
   |false=>match Ar (st.base+s) (st.ob.map Prod.fst),LX.lit e [z.map PV.view] with
    |true,some y=>match Nat.beq y.sz sz with
     |true=>gd (0<=m) (gd (m*(by_:Int)<=140737488355328) (gd (m<=9223372036854775807) (k ⟨[(s,.vw false (st.base+s) e sz m.toNat)],[(st.base+s,[.bG (y.rep m.toNat)])]⟩)))
     |false=>False
    |_,_=>False
  |_,_=>False
 | .fK e sz by_ n=>match d,st.aM n,LX.nil e with
  |some s,.val (.int .i64 m),some x=>match Nat.beq x.sz sz with
   |true=>gd (0<=m) (gd (m*(by_:Int)<=140737488355328) (gd (m<=(maxLen:Int)) (k ⟨[(s,.aO true x)],[]⟩)))
   |false=>False
  |_,_,_=>False
 | .gU sz x lo hi mx=>match st.aM x with
  | .aO _ y=>match Nat.beq sz y.sz,st.bnd y.len mx with
   |true,some m=>match st.bnd y.len hi with
    |some h=>match st.bnd 0 lo with
     |some l=>gd (0<=l) (gd (l<=h) (gd (h<=m) (gd (m<=(y.len:Int)) (Ba3 mx.isSome (m<=h) (k (dput d (.aO mx.isSome (y.sub l.toNat h.toNat))))))))
     |none=>False
    |none=>False
   |_,_=>False
  |_=>False
 | .fZ x lo hi=>match st.aM x with
  | .val (.string s)=>match st.bnd s.size hi with
   |some h=>match st.bnd 0 lo with
    |some l=>gd (0<=l) (gd (l<=h) (gd (h<=(s.size:Int)) (k (dput d (.val (.string (s.extract l.toNat h.toNat)))))))
    |none=>False
   |none=>False
  |_=>False
 | .fC gk gv ks vs=>match d with
  |some s=>match Ar (st.base+s) (st.ob.map Prod.fst) with
   |true=>k ⟨[(s,.mp (st.base+s))],[(st.base+s,[.aL gk gv ks vs])]⟩
   |false=>False
  |none=>False
 | .lookup gq ts ok g z m q=>match st.aM m with
  | .mp b=>match Ar b ban,A22 (st.obj b),Adc gq ts (st.aM q) with
   |true,some (gk,gv,ks,vs),some c=>match Aog gq gk,LX.find ks c,Aog g gv with
    |true,some r,true=>fk r (λi=>k (dput d (match ok with|true=>.aY [V2 gv (vs.row i),.val (.bool true)]|false=>V2 gv (vs.row i))))
      (k (dput d (match ok with|true=>.aY [V2 g (z.map PV.view),.val (.bool false)]|false=>V2 g (z.map PV.view))))
    |_,_,_=>False
   |_,_,_=>False
  |_=>False
 | .eT gq ts m q v=>match st.aM m with
  | .mp b=>match st.obj b,Adc gq ts (st.aM q) with
   | [.aL gk gv ks vs],some ck=>match Aog gq gk,LX.find ks ck,Axc gv (st.aM v) with
    |true,some r,some c=>fk r (λi=>match Nat.beq c.length vs.sz,LX.set vs i 0 c with
      |true,some vs'=>k ⟨[],[(b,[.aL gk gv ks vs'])]⟩
      |_,_=>False)
     (match LX.push ks ck,LX.push vs c with
      |some ks',some vs'=>k ⟨[],[(b,[.aL gk gv ks' vs'])]⟩
      |_,_=>False)
    |_,_,_=>False
   |_,_=>False
  |_=>False
 | .del gq ts m q=>match st.aM m with
  | .mp b=>match st.obj b,Adc gq ts (st.aM q) with
   | [.aL gk gv ks vs],some ck=>match Aog gq gk,LX.find ks ck with
    |true,some r=>fk r (λi=>match LX.cut ks i,LX.cut vs i with
      |some ks',some vs'=>k ⟨[],[(b,[.aL gk gv ks' vs'])]⟩
      |_,_=>False)
     (k ⟨[],[]⟩)
    |_,_=>False
   |_,_=>False
  |_=>False
 | .fF f args=>match Ru st args with
  |true=>X f (args.map λx=>(st.aM x).view) [] λr o'=>A4u r o' (k (dput d r))
  |false=>False
 | .gF x=>match st.aM x with
  | .aO _ y=>match y.str with
   |some s=>k (dput d (.val (.string s)))
   |none=>False
  | .val (.slice none 0 0)=>k (dput d (.val (.string ByteArray.empty)))
  |_=>False
 | .dN f args s=>match Akt s args with
  |true=>X f (args.map λx=>st.argT s x) st.ob λr o'=>k ⟨(dput d r).s++ [(s,(st.get s).view)],o'⟩
  |false=>False
 | .eP f args=>match args with
  | .tmp s::_=>match Bhe st.base (st.get s) with
   |true=>stK P C f (args.map λx=>(st.aM x).view) st.ob λr o'=>k ⟨(dput d r).s,o'⟩
   |false=>False
  |_=>False
 | .eF near r agg sz x=>match st.aM x,st.get r with
  | .loc b off,.loc b' _=>match Ar b ban && (Nat.beq b b' && (!near || Nat.ble st.base b)),Mj ((st.vobj b).drop off) sz,Er (((st.vobj b).drop off).take sz) with
   |true,true,true=>k (dput d (V2 agg (((st.vobj b).drop off).take sz)))
   |_,_,_=>False
  |_,_=>False
 | .dV r sz a x=>match st.aM a,st.get r with
  | .loc b off,.loc b' _=>match Nat.beq b b',Qm (st.aM x).cells sz,Sx (st.aM x).cells,Mj (st.obj b) (off+sz) && Awp (st.obj b) with
   |true,true,true,true=>k ⟨[],[(b,Hy (st.obj b) off (Xp ((st.obj b).drop off) ((st.aM x).cells.map PV.view)))]⟩
   |_,_,_,_=>False
  |_,_=>False
 | .fU cm e sz parts=>match d with
  |some d=>match Ar (st.base+d) (st.ob.map Prod.fst) with
   |true=>Wh st sz parts λl=>match cm with
    |true=>k ⟨[(d,.vw true (st.base+d) e sz l.length)],[(st.base+d,At4 l)]⟩
    |false=>match LX.lit e l with
     |some x=>match Nat.beq x.sz sz with
      |true=>k ⟨[(d,.vw false (st.base+d) e sz x.len)],[(st.base+d,[.bG x])]⟩
      |false=>False
     |none=>False
   |false=>False
  |none=>False
 | .fM cm e sz by_ s x=>match d with
  |some d=>match Ar (st.base+d) (st.ob.map Prod.fst),st.get s,st.aM x with
   |true,.vw false b _ sz' _,.aO _ z=>match st.obj b with
    | [.bG y]=>match Nat.beq sz sz',Nat.beq sz y.sz,LX.cat y z with
     |true,true,some r=>gd ((y.len+z.len)*by_<=140737488355328) (gd (y.len+z.len<=maxLen) (k ⟨[(d,.vw false (st.base+d) e sz r.len)],[(st.base+d,[.bG r]),(b,[])]⟩))
     |_,_,_=>False
    |_=>False
   |_,_,_=>False
  |none=>False
 | .ext sub x y c=>match st.aM x,st.aM y,st.aM c with
  | .val (.int _ a),.val (.int _ b),.val (.int _ n)=>gd (n<=1) (k (dput d (Bhd sub a b n)))
  |_,_,_=>False
 | .gL off sz g x=>match st.aM x with
  | .agg l=>match Mj l (off+sz) with
   |true=>k (dput d (V2 g ((l.drop off).take sz)))
   |false=>False
  |_=>False
 | .stop=>False
def M4(P:Program)(C:Ba)(X:Inl)(ban:List Nat):List Ek->St->(St->Prop)->Prop
 | [],st,k=>k st
 |o::r,st,k=>match o.g with
  |none=>Ax P C X ban o.k o.dst st λδ =>M4 P C X ban r (st.app δ) k
  |some (s,want)=>match st.get s with
   | .val (.bool t)=>
    br t
    (match want with
     |true=>Ax P C X ban o.k o.dst (st.put s (.val (.bool true))) λδ =>M4 P C X ban r ((st.put s (.val (.bool true))).app δ) k
     |false=>M4 P C X ban r ((st.put s (.val (.bool true))).app (dput o.dst (.aY []))) k)
    (match want with
     |false=>Ax P C X ban o.k o.dst (st.put s (.val (.bool false))) λδ =>M4 P C X ban r ((st.put s (.val (.bool false))).app δ) k
     |true=>M4 P C X ban r ((st.put s (.val (.bool false))).app (dput o.dst (.aY []))) k)
   | .aY []=>M4 P C X ban r (st.app (dput o.dst (.aY []))) k
   |_=>False
def K.quiet:K->Bool
 | .eF .. | .move _| .dB _| .field .. | .load .. | .len _| .cap _| .bY .. | .gM .. | .index .. | .extract .. | .nil _| .call .. | .pick .. | .fZ .. | .lookup .. | .ext .. | .fF .. | .gF .. =>true
 |_=>false
def Ai4(s:Nat):List Ek->Option (List Ek×Nat×List Ek)
 | []=>none
 |eo::r=>match eo.k.quiet,eo.g with
  |true,some _=>match Ai4 s r with
   |some (B,pd,r')=>some (eo::B,pd,r')
   |none=>none
  |true,none=>match eo.k,eo.dst with
   | .pick (.tmp c) _ _,some pd=>match Nat.beq c s with
    |true=>some ([eo],pd,r)
    |false=>none
   |_,_=>none
  |false,_=>none
def As3:List Ek->List (Nat×PV)
 | []=> []
 |eo::r=>match eo.dst with
  |some d=>(d,.any)::As3 r
  |none=>As3 r
def stJ(st:St)(B:List Ek)(pd:Nat)(b:Bool):St:=st.app ⟨(pd,.val (.bool b))::As3 B,[]⟩
def jn{σ :Type}(X:(σ->Prop)->Prop)(j: σ->Prop):Prop:=X j
def An7(pd:Nat)(j:Bool->Prop)(st:St):Prop:=match st.get pd with
 | .val (.bool b)=>j b
 |_=>False
def I2(P:Program)(C:Ba)(X:Inl):Nat->List Ek->St->(St->Prop)->Prop
 |_,[],st,k=>k st
 |0,_::_,_,_=>False
 |n+1,o::r,st,k=>match o.g with
  |none=>Ax P C X [] o.k o.dst st λδ =>I2 P C X n r (st.app δ) k
  |some (s,want)=>match st.get s with
   | .val (.bool t)=>match Ai4 s (o::r) with
    |some (B,pd,r')=>jn (λj=>br t (M4 P C X [] B (st.put s (.val (.bool true))) (An7 pd j)) (M4 P C X [] B (st.put s (.val (.bool false))) (An7 pd j)))
      (λb=>I2 P C X n r' (stJ st B pd b) k)
    |none=>br t
     (match want with
      |true=>Ax P C X [] o.k o.dst (st.put s (.val (.bool true))) λδ =>I2 P C X n r ((st.put s (.val (.bool true))).app δ) k
      |false=>I2 P C X n r ((st.put s (.val (.bool true))).app (dput o.dst (.aY []))) k)
     (match want with
      |false=>Ax P C X [] o.k o.dst (st.put s (.val (.bool false))) λδ =>I2 P C X n r ((st.put s (.val (.bool false))).app δ) k
      |true=>I2 P C X n r ((st.put s (.val (.bool false))).app (dput o.dst (.aY []))) k)
   | .aY []=>I2 P C X n r (st.app (dput o.dst (.aY []))) k
   |_=>False
def PV.safe0(D:Nat->Bool):PV->Bool
 | .any=>true
 | .val _=>true
 | .aO _ _=>true
 | .loc d _=> !(D d)
 | .el d _ _ _=> !(D d)
 | .vw _ d _ _ _=> !(D d)
 | .mp d=> !(D d)
 | .bG _=>true
 | .aL _ _ _ _=>true
 | .bV _ _ _ _ _ _=>true
 |_=>false
def Ah5(s:PV->Bool):List PV->Bool
 | []=>true
 |p::r=>match s p with
  |true=>Ah5 s r
  |false=>false
def Awy(s:PV->Bool):List (List PV)->Bool
 | []=>true
 |p::r=>match Ah5 s p with
  |true=>Awy s r
  |false=>false
def PV.safeUp(s:PV->Bool):PV->Bool
 | .agg l=>Ah5 s l
 | .aY l=>Ah5 s l
 | .ref l=>Ah5 s l
 | .bA _ _ l=>Ah5 s l
 | .sl _ _ _ es=>Awy s es
 |p=>s p
def PV.safe(D:Nat->Bool)(p:PV):Bool:=PV.safeUp (PV.safeUp (PV.safeUp (PV.safe0 D))) p
def PV.clean(D:Nat->Bool)(p:PV):PV:=match p.safe D with
 |true=>p
 |false=>.any
def A6z(d:Nat):List Nat->List Nat
 | []=> [d]
 |b::r=>match Nat.blt d b,Nat.beq d b with
  |true,_=>d::b::r
  |false,true=>b::r
  |false,false=>b::A6z d r
def Asm:List Nat->List Nat
 | []=> []
 |d::r=>A6z d (Asm r)
def S9(l:List (Nat×List PV)):List (Nat×List PV):=(Asm (l.map Prod.fst)).map λd=>(d,B4 [] l d)
def B9(st:St):List Nat:=Asm (st.ob.map Prod.fst)
def keep(keys live:List Nat)(st:St):St:=
 { fr:=keys.map λs=>(s,(st.get s).clean λd=>Ar d live),ob:=live.map λd=>(d,(st.obj d).map λp=>p.clean λd=>Ar d live),base:=st.base }
def frF(st:St)(live:List Nat):List Nat->List (Nat×PV)
 | []=> []
 |s::r=>match (st.get s).clean λd=>Ar d live with
  | .any=>frF st live r
  |p=>(s,p)::frF st live r
def Aga(keys live:List Nat)(st:St):St:=
 { fr:=frF st live keys,ob:=live.map λd=>(d,(st.obj d).map λp=>p.clean λd=>Ar d live),base:=st.base }
def PV.id0:PV->List Nat
 | .loc d _=> [d]
 | .el d _ _ _=> [d]
 | .vw _ d _ _ _=> [d]
 | .mp d=> [d]
 |_=> []
def As7(f:PV->List Nat):List PV->List Nat
 | []=> []
 |p::r=>f p++As7 f r
def PV.idUp(f:PV->List Nat):PV->List Nat
 | .agg l=>As7 f l
 | .aY l=>As7 f l
 | .ref l=>As7 f l
 | .bA _ _ l=>As7 f l
 | .sl _ _ _ es=>As7 f es.flatten
 |p=>f p
def PV.ids(p:PV):List Nat:=PV.idUp (PV.idUp (PV.idUp PV.id0)) p
def Ba0(st:St):Nat->List Nat->List Nat->List Nat
 |0,_,seen=>seen
 |_+1,[],seen=>seen
 |n+1,d::todo,seen=>match Ar d seen with
  |true=>Ba0 st n (As7 PV.ids (st.obj d)++todo) (d::seen)
  |false=>Ba0 st n todo seen
def Av6:Nat->List Nat->Bool
 |_,[]=>false
 |0,_::_=>true
 |n+1,_::r=>Av6 n r
def gcF(b:Nat)(seen:List Nat):List Nat->List Nat
 | []=> []
 |d::r=>match Nat.blt d b,Ar d seen with
  |false,true=>gcF b seen r
  |_,_=>d::gcF b seen r
def Av7(st:St):List Nat->List Nat
 | []=> []
 |d::r=>match Nat.blt d st.base with
  |true=>As7 PV.ids (st.obj d)++Av7 st r
  |false=>Av7 st r
def gcK(keys:List Nat)(st:St):List Nat:=match Av6 7 (B9 st) with
 |false=>B9 st
 |true=>gcF st.base (Ba0 st 200 (As7 PV.ids (keys.map st.get)++Av7 st (B9 st)) []) (B9 st)
theorem Avy{b:Nat}{seen:List Nat} :∀ {l:List Nat} {d:Nat},d∈l->d<b->d∈gcF b seen l
 |x::l,d,h,hb=>by
  unfold gcF;rcases List.mem_cons.1 h with rfl|h
  ·have:Nat.blt d b=true:=Nat.ble_eq_true_of_le hb;rw[this];exact List.mem_cons_self
  ·have ih:=Avy (seen:=seen) h hb;split
   ·exact ih
   ·exact List.mem_cons_of_mem _ ih
theorem Ba1{keys:List Nat}{st:St}{d:Nat}(h:d∈B9 st)(hb:d<st.base):d∈gcK keys st:=by
 unfold gcK;split
 ·exact h
 ·exact Avy h hb
def gcU(keys:List Nat)(st:St):List Nat:=gcF st.base (Ba0 st 200 (As7 PV.ids (keys.map st.get)++Av7 st (B9 st)) []) (B9 st)
def Nb(b:Nat):List Nat->List Nat
 | []=> []
 |a::r=>match Nat.beq a b with
  |true=>Nb b r
  |false=>a::Nb b r
def N4(st:St):List Nat->List Nat
 | []=> []
 |a::r=>match st.obj a with
  | []=>N4 st r
  |_::_=>a::N4 st r
theorem Ak1(st:St)(x:Nat):∀l:List Nat,x∈N4 st l↔x∈l/\st.obj x≠ []
 | []=>by simp[N4]
 |a::r=>by
  have ih:=Ak1 st x r;cases h:st.obj a with
  |nil=>
   simp only[N4,h,List.mem_cons];rw[ih];exact⟨λq=>⟨.inr q.1,q.2⟩,λq=>⟨q.1.elim (λe=>absurd (by rw[e];exact h) q.2) id,q.2⟩⟩
  |cons p k=>
   simp only[N4,h,List.mem_cons];rw[ih];exact⟨λq=>q.elim (λe=>⟨.inl e,by rw[e,h];simp⟩) (λq=>⟨.inr q.1,q.2⟩),λq=>q.1.elim .inl (λe=>.inr ⟨e,q.2⟩)⟩
def Agi(bs:Nat):List (Nat×List PV)->Bool
 | []=>true
 |(d,[])::r=>match Nat.ble bs d with
  |true=>Agi bs r
  |false=>false
 |(_,_::_)::r=>Agi bs r
theorem An9{bs x:Nat} :∀ {ob:List (Nat×List PV)},Agi bs ob=true->Ar x (ob.map Prod.fst)=false->B4 [] ob x= []->bs<=x
 | [],_,h,_=>by cases h
 |(d,l)::r,h1,h2,h3=>by
  simp only[B4]at h3;simp only[List.map_cons,Ar]at h2;cases hb:Nat.beq d x with
  |true=>
   rw[hb]at h3;simp only at h3;subst h3;simp only[Agi]at h1;cases hc:Nat.ble bs d with
   |true=>have:=Nat.le_of_ble_eq_true hc;have:=Nat.eq_of_beq_eq_true hb;omega
   |false=>rw[hc]at h1;cases h1
  |false=>
   rw[hb]at h3 h2;refine An9 (ob:=r) ?_ h2 h3;cases l with
   |cons p k=>exact h1
   |nil=>
    simp only[Agi]at h1;cases hc:Nat.ble bs d with
    |true=>rw[hc]at h1;exact h1
    |false=>rw[hc]at h1;cases h1
def St.frz0(st:St)(t:Nat):St:=match st.get t with
 | .vw false b _ _ _=>match st.obj b,Nat.ble st.base b with
  | [.bG y],true=>match Agi st.base st.ob with
   |true=>(Aga (st.fr.map Prod.fst) (N4 st (Nb b (B9 st))) st).app ⟨[(t,.aO false y)],[]⟩
   |false=>st
  |_,_=>st
 |_=>st
def St.setC(st:St)(d i:Nat)(p:PV):St:=st.app ⟨[],[(d,Hy (st.obj d) i [p])]⟩
def St.frzC1(st:St)(s i:Nat):St:=match st.get s with
 | .loc d 0=>match Lq (st.obj d) i with
  | .vw false b _ _ _=>match st.obj b,Nat.ble st.base b,Er (st.obj d) with
   | [.bG y],true,true=>match Agi st.base st.ob with
    |true=>(Aga (st.fr.map Prod.fst) (N4 st (Nb b (B9 st))) st).setC d i (.aO false y)
    |false=>st
   |_,_,_=>st
  |_=>st
 |_=>st
def St.frzCL(st:St)(s:Nat):List Nat->St
 | []=>st
 |i::r=>St.frzCL (st.frzC1 s i) s r
def St.frz1(st:St)(t:Nat):St:=match Nat.ble 1000000 t with
 |true=>match st.get (t-1000000) with
  | .loc d 0=>st.frzCL (t-1000000) (List.range (st.obj d).length)
  |_=>st
 |false=>st.frz0 t
def St.frzL(st:St):List Nat->St
 | []=>st
 |t::r=>St.frzL (st.frz1 t) r
def St.vwL(st:St):List Nat->St
 | []=>st
 |t::r=>St.vwL (st.app ⟨[(t,(st.get t).view)],[]⟩) r
def Ic(f:St->(Ex->St->Prop)->Prop)(keys live:List Nat)(k:Ex->St->Prop):Ex->St->Prop:=λe st'=>match e with
 | .normal=>f (keep keys live st') k
 | .exit i=>k (.exit i) (keep keys live st')
 | .ret=>k .ret (keep keys live st')
def Js(body:St->(Ex->St->Prop)->Prop)(keys live:List Nat):Nat->St->(Ex->St->Prop)->Prop
 |0,_,_=>False
 |n+1,st,k=>body st (Ic (Js body keys live n) keys live k)
def Bb1(f:St->(Ex->St->Prop)->Prop)(keys:List Nat)(k:Ex->St->Prop):Ex->St->Prop:=λe st'=>match e with
 | .normal=>f (Aga keys (gcU keys st') st') k
 | .exit i=>k (.exit i) st'
 | .ret=>k .ret st'
def Art(body:St->(Ex->St->Prop)->Prop)(keys:List Nat):Nat->St->(Ex->St->Prop)->Prop
 |0,_,_=>False
 |n+1,st,k=>body st (Bb1 (Art body keys n) keys k)
def Ac2(st:St):List (Nat×Nat)->Bool
 | []=>true
 |(a,b)::r=>match st.get a,st.get b with
  | .loc d _,.loc d' _=>match Nat.beq d d' with
   |true=>false
   |false=>Ac2 st r
  |_,_=>false
def I8(f:St->(Ex->St->Prop)->Prop)(k:Ex->St->Prop):Ex->St->Prop:=λe st'=>match e with
 | .normal=>f st' k
 | .exit i=>k (.exit i) st'
 | .ret=>k .ret st'
def C6(id:Nat)(k:Ex->St->Prop):Ex->St->Prop:=λe st'=>match e with
 | .exit i=>match Nat.beq i id with
  |true=>k .normal st'
  |false=>k (.exit i) st'
 | .normal=>k .normal st'
 | .ret=>k .ret st'
def An8:List (Nat×List PV)->Nat
 | []=>0
 |(d,_)::r=>match Nat.ble (An8 r) d with
  |true=>d+1
  |false=>An8 r
def V3(l:List (Nat×List PV)):Nat:=An8 l+1000
def A7r(f:St->(Ex->St->Prop)->Prop)(n d:Nat)(O:List PV)(V:PV)(gk gv:Bool)(ks vs:LX)(it nx more pair:Nat)(keys live:List Nat):Nat->List Nat->St->(St->Prop)->Prop
 |0,_,_,_=>False
 |L+1,S,st,k=>((∀i,i<ks.len->i∈S)->k (st.app ⟨[(more,.val (.bool false)),(nx,.any)],[]⟩))/\
  ∀i,i<ks.len->i∉S->f (st.app ⟨[(pair,.aY [V2 gk (ks.row i),V2 gv (vs.row i)]),(more,.val (.bool true)),(nx,.any)],[]⟩)
   λe st'=>(e=.normal\/e=.exit n)/\st'.obj d=O/\st'.get it=V/\A7r f n d O V gk gv ks vs it nx more pair keys live L (i::S) (keep keys live st') k
def Bo1(st:St)(d it:Nat)(O:List PV)(V:PV)(keys:List Nat):St:= { keep keys (B9 st) (st.app ⟨[(it,V)],[(d,O)]⟩)with base:=V3 st.ob }
def Bo2(st:St)(d it base:Nat)(keys live:List Nat)(O:List PV):St:= { keep keys live (st.app ⟨[(it,.any)],[(d,O)]⟩)with base:=base }
def Bsb(f:St->(Ex->St->Prop)->Prop)(n d:Nat)(gk gv:Bool)(ks vs:LX)(it nx more pair:Nat)(keys:List Nat)(L:Nat)(st:St)(k:St->Prop):Prop:=
 ∃stF,(∀es clock r,A7r f n d [.bV es clock gk gv ks vs] (.val (.pointer (some ⟨r,0,none⟩))) gk gv ks vs it nx more pair keys (B9 st) L []
  (Bo1 st d it [.bV es clock gk gv ks vs] (.val (.pointer (some ⟨r,0,none⟩))) keys) (λst'=>Bo2 st' d it st.base keys (B9 st) [.aL gk gv ks vs]=stF))/\k stF
def A1j(f:St->(Ex->St->Prop)->Prop)(n:Nat)(m:Operand)(it nx more pair:Nat)(keys:List Nat)(L:Nat)(st:St)(k:St->Prop):Prop:=match st.aM m with
 | .mp d=>match st.obj d with
  | [.aL gk gv ks vs]=>Bsb f n d gk gv ks vs it nx more pair keys L st k
  |_=>False
 |_=>False
def Ws(P:Program)(C:Ba)(X:Inl)(L:Nat):EC->St->(Ex->St->Prop)->Prop
 | .skip,st,k=>k .normal st
 | .region ban ap l,st,k=>match Ac2 st ap with
  |true=>M4 P C X (ban.map (st.base+ ·)) l st λst'=>k .normal st'
  |false=>False
 | .gJ l,st,k=>I2 P C X l.length l st λst'=>k .normal st'
 | .seq a b,st,k=>Ws P C X L a st (I8 (Ws P C X L b) k)
 | .cond c a b,st,k=>match st.aM c with
  | .val (.bool t)=>br t (Ws P C X L a st k) (Ws P C X L b st k)
  |_=>False
 | .block id b,st,k=>Ws P C X L b st (C6 id k)
 | .loop keys b,st,k=>Js (Ws P C X L b) keys (gcK keys st) L (keep keys (gcK keys st) st) k
 | .fI keys b,st,k=>Art (Ws P C X L b) keys L st k
 | .exit id,st,k=>k (.exit id) st
 | .ret,st,k=>k .ret st
 | .kp keys,st,k=>k .normal (Aga keys (B9 st) st)
 | .gW ts,st,k=>k .normal (st.frzL ts)
 | .gZ ts,st,k=>k .normal (st.vwL ts)
 | .gY pre m it nx more pair keys asg b n,st,k=>I2 P C X pre.length pre st λst1=>A1j (λst k=>I2 P C X asg.length asg st λst'=>Ws P C X L b st' k) n m it nx more pair keys L st1 λst'=>k .normal st'
 | .stop,_,_=>False
def Et(P:Program)(t:Nat):Bool:=match P.underlying t with
 |some (.struct _)|some (.array _ _)=>true
 |_=>false
def Zg(P:Program)(t:Nat):Bool:=match P.underlying t with
 |some (.slice _)=>true
 |_=>false
def szT(P:Program)(t:Nat):Option Nat:=(P.info? t).map (·.size)
def Alb(P:Program)(t:Nat):Option (List Value):=((P.info? t).bind (·.zero)).map λv=>v.cells.toList
def A2o(P:Program)(t:Nat):Option (List (Nat×Nat)):=match P.underlying t with
 |some (.struct fs)=>fs.toList.mapM λf=>(P.info? f.type).map λi=>(f.offset,i.size)
 |some (.array n e)=>(P.info? e).map λi=>(List.range n).map λk=>(k*i.size,i.size)
 |_=>none
def Bet(P:Program):Nat->Nat->List (Option Nat)
 |0,_=> [none]
 |n+1,t=>match P.underlying t with
  |some (.slice e)=> [some e]
  |some (.struct fs)=>fs.toList.flatMap λf=>Bet P n f.type
  |some (.array k e)=>(List.replicate k (Bet P n e)).flatten
  |_=> [none]
def A3n:Option Nat->Value->PV
 |some e,.slice none 0 0=>match LX.nil e with
  |some x=>.aO true x
  |none=>.val (.slice none 0 0)
 |_,v=>.val v
def Anh:List (Option Nat)->List Value->List PV
 |_,[]=> []
 | [],v::vs=>.val v::Anh [] vs
 |o::os,v::vs=>A3n o v::Anh os vs
def Afy:List Value->Bool
 | []=>true
 |v::r=>match Ams v with
  |true=>Afy r
  |false=>false
def Ala(P:Program)(t:Nat):Option (List PV):=match Alb P t with
 |some z=>match Afy z with
  |true=>some (Anh (Bet P 8 t) z)
  |false=>none
 |none=>none
def A8i(b:Bool)(P:Program)(t:Nat):Option (List PV):=match b with
 |false=>Ala P t
 |true=>match Alb P t with
  |some z=>match Afy z with
   |true=>some (Anh [] z)
   |false=>none
  |none=>none
def A8h(P:Program)(t:Nat)(g:Bool):Bool:=match (P.info? t).bind (·.zero) with
 |some (.agg _)=>g
 |some (.tuple _)=>false
 |some _=> !g
 |none=>false
def Amv(fs:List (Nat×Nat)):List (Nat×Operand)->Option (List (Nat×Nat×Operand))
 | []=>some []
 |(i,x)::r=>match fs[i]?,Amv fs r with
  |some (off,sz),some l=>some ((off,sz,x)::l)
  |_,_=>none
def Af5(i:Nat):List (Nat×Operand)->Option (List Operand)
 | []=>some []
 |(j,x)::r=>match Nat.beq i j,Af5 (i+1) r with
  |true,some l=>some (x::l)
  |_,_=>none
def Ahl(P:Program)(t:Nat):Option Nat:=match P.underlying t with
 |some .bool=>some 0
 |some (.int _)=>some 1
 |some .string=>some 2
 |_=>none
def Aio(P:Program):List Field->Option (List (Nat×Nat))
 | []=>some []
 |f::r=>match f.name == "_",Ahl P f.type,Aio P r with
  |false,some tag,some l=>some ((tag,f.offset)::l)
  |_,_,_=>none
def Asl:Nat->List (Nat×Nat)->Bool
 |_,[]=>true
 |k,(_,o)::r=>match Nat.beq o k with
  |true=>Asl (k+1) r
  |false=>false
def Anv(tag:Nat):List Nat->List (Nat×Nat)
 | []=> []
 |k::r=>(tag,k)::Anv tag r
def Ac9(P:Program)(t:Nat):Option (List (Nat×Nat)):=match P.underlying t with
 |some (.struct fs)=>match P.stoodInHeld t,P.eqGuardType P.depth t with
  |false,false=>Aio P fs.toList
  |_,_=>none
 |some (.array n e)=>match Ahl P e,Nat.beq (P.cellsOf e) 1 && (P.info? e).isSome,P.eqGuardType P.depth t with
  |some tag,true,false=>some (Anv tag (List.range n))
  |_,_,_=>none
 |_=>none
def Wu(P:Program)(t:Nat):Option (Bool×List (Nat×Nat)):=match Ahl P t with
 |some tag=>some (false,[(tag,0)])
 |none=>match Ac9 P t with
  |some (x::r)=>match Asl 0 (x::r) with
   |true=>some (true,x::r)
   |false=>none
  |_=>none
def A6f(P:Program)(f:Nat):Option Bool:=match P.funcs[f]? with
 |some fn=>match fn.body.isNone && decide (fn.origin= ""),decide (fn.name= "math/bits.Add64"),decide (fn.name= "math/bits.Sub64") with
  |true,true,_=>some false
  |true,false,true=>some true
  |_,_,_=>none
 |none=>none
def A00:Operand->Bool
 | .const (.slice none 0 0)=>true
 |_=>false
def Bok(P:Program)(t:Nat):Option Nat:=match P.underlying t with
 |some (.slice e)=>match LX.nil e with
  |some _=>some e
  |none=>none
 |_=>none
def A1a:List Operand->Nat
 | []=>0
 | .tmp t::r=>(1 <<< t) ||| A1a r
 |_::r=>A1a r
def Bk8:List Operand->Nat
 | []=>0
 | .tmp t::r=>((1 <<< t) &&& A1a r) ||| Bk8 r
 |_::r=>Bk8 r
def Bjw:List Oper->Nat
 | []=>0
 |o::r=>A1a o.op.operands.toList ||| Bjw r
def Bpk:List Oper->Nat
 | []=>0
 |o::r=>(A1a o.op.operands.toList &&& Bjw r) ||| (Bk8 o.op.operands.toList ||| Bpk r)
def Aku:Code->Nat
 | .region _ os _=>Bjw os.toList
 | .seq a b=>Aku a ||| Aku b
 | .cond c a b=>A1a [c] ||| (Aku a ||| Aku b)
 | .block _ b=>Aku b
 | .loop b=>Aku b
 |_=>0
def A12:Code->Nat
 | .region _ os _=>Bpk os.toList
 | .seq a b=>(Aku a &&& Aku b) ||| (A12 a ||| A12 b)
 | .cond c a b=>(A1a [c] &&& (Aku a ||| Aku b)) ||| ((Aku a &&& Aku b) ||| (A12 a ||| A12 b))
 | .block _ b=>A12 b
 | .loop b=>A12 b
 |_=>0
def A9y:List Oper->Nat
 | []=>0
 |o::r=>match o.op with
  | .call { callee:=.builtin .append,args,argTypes:=_ } =>match args.toList with
   | .tmp t::_=>(1 <<< t) ||| A9y r
   |_=>A9y r
  |_=>A9y r
def A0d:Code->Nat
 | .region _ os _=>A9y os.toList
 | .seq a b=>A0d a ||| A0d b
 | .cond _ a b=>A0d a ||| A0d b
 | .block _ b=>A0d b
 | .loop b=>A0d b
 |_=>0
def Bpg(o a:Nat):Nat->Nat
 |0=>0
 |n+1=>(match Nat.testBit o n,Nat.testBit a n with
  |true,true=>3 <<< (2*n)
  |true,false=>1 <<< (2*n)
  |_,_=>0) ||| Bpg o a n
def Bop(c:Code)(n:Nat):Nat:=Bpg (Aku c ^^^ (Aku c &&& A12 c)) (A0d c) n
def Awz:Operand->Operand->Bool
 | .tmp a,.tmp b=>Nat.beq a b
 | .const (.int .i64 a),.const (.int .i64 b)=>decide (a=b)
 |_,_=>false
def Axe:Operand->Bool
 | .const (.int .i64 a)=>decide (a=0)
 |_=>false
def A4n(P:Program)(x:Operand)(ty:Nat)(k:K):K:=match A00 x,Bok P ty with
 |true,some e=>.fH e
 |_,_=>k
def Auy(P:Program)(ty:Nat)(x:Operand):K:=match Zg P ty,x with
 |true,.tmp s=>.take s
 |_,x=>.move x
def mvB(once d:Nat):Bool:=match Nat.testBit once (2*d+1) with
 |true=>true
 |false=>Nat.testBit once 40006 && Nat.testBit once (2*d)
def Ary(P:Program)(once ty:Nat)(dst:Option Nat)(x:Operand):K:=match Zg P ty,x,dst with
 |true,.tmp s,some d=>match mvB once d with
  |true=>.take s
  |false=>.move (.tmp s)
 |_,x,_=>.move x
def Bih(P:Program)(t:Nat):Bool:=match P.underlying t with
 |some (.tuple _)=>true
 |_=>false
def Aud(P:Program)(once ty:Nat)(dst:Option Nat)(x:Operand):K:=match Nat.testBit once 40012 && Bih P ty,x,dst with
 |true,.tmp s,some _=>.take s
 |_,_,_=>Ary P once ty dst x
def A7s(once a:Nat):Nat:=(once >>> (60000+9*a)) % 512
def Ay4(once:Nat)(g:Bool)(sz:Nat)(x:Operand):K:=match x with
 | .tmp a=>match Nat.testBit once 40010 && Nat.testBit once (50000+a) with
  |true=>.eF (!Nat.testBit once (41000+A7s once a)) (A7s once a) g sz (.tmp a)
  |false=>.load g sz (.tmp a)
 |x=>.load g sz x
def A6b(a:Nat):List Oper->Option Op
 | []=>none
 |o::r=>match o.dst with
  |some d=>match Nat.beq d a with
   |true=>some o.op
   |false=>A6b a r
  |none=>A6b a r
def A3c(os:List Oper):Nat->Nat->Option Nat
 |0,_=>none
 |n+1,a=>match A6b a os with
  |none=>match Nat.blt a 512 with
   |true=>some a
   |false=>none
  |some (.fieldAddr _ (.tmp x) _)=>A3c os n x
  |some (.nilCheck (.tmp x))=>A3c os n x
  |some (.move (.tmp x))=>A3c os n x
  |some _=>none
def A23(all:List Oper):List Oper->Nat
 | []=>0
 |o::r=>match o.op with
  | .load _ (.tmp a)| .store _ (.tmp a) _=>match A3c all 20 a with
   |some s=>(1 <<< (50000+a)) ||| (s <<< (60000+9*a)) ||| A23 all r
   |none=>A23 all r
  |_=>A23 all r
def A7g(once:Nat)(os:List Oper):Nat:=match Nat.testBit once 40010 with
 |true=>once ||| A23 os os
 |false=>once
def Ayx(P:Program)(once t:Nat)(dst:Option Nat)(g:Bool)(sz:Nat)(x:Operand):K:=match Zg P t,dst with
 |true,some s=>match Nat.testBit once (2*s+1) || Nat.testBit once 40008 with
  |true=>.loadT x
  |false=>Ay4 once g sz x
 |_,_=>Ay4 once g sz x
def Asp(once sz:Nat)(a x:Operand):K:=match a with
 | .tmp b=>match Nat.testBit once 40010 && Nat.testBit once (50000+b) with
  |true=>.dV (A7s once b) sz (.tmp b) x
  |false=>.store sz (.tmp b) x
 |a=>.store sz a x
def A1z(P:Program)(once t sz:Nat)(a x:Operand):K:=match Zg P t,x with
 |true,.tmp s=>match Nat.testBit once (2*s),Nat.beq sz 1 with
  |true,true=>.storeT a s
  |_,_=>Asp once sz a x
 |_,_=>Asp once sz a x
def A57(once:Nat)(d:Option Nat):Bool:=Nat.testBit once 40001 && !(match d with|some d=>Nat.testBit once (2*d+1)|none=>false)
def Be8(once:Nat)(d:Option Nat):Bool:=match Nat.testBit once 40009,d with
 |true,some d=>Nat.testBit once (2*d+1)
 |_,_=>false
def A6g(once:Nat)(x:Operand)(i:Nat):K:=match Nat.testBit once 40012,x,i with
 |true,.tmp s,0=>.dJ s
 |_,x,i=>.extract x i
def cOp(P:Program)(inl:Nat->Bool)(once:Nat)(o:Oper):K:=
 match o.op with
 | .move x=>A4n P x o.type (Aud P once o.type o.dst x)
 | .assign x=>A4n P x o.type (Auy P o.type x)
 | .pick c a b=>.pick c a b
 | .alloc t=>match Ala P t with
  |some z=>.alloc z
  |none=>.stop
 | .box _ x=>.box x
 | .build t parts=>match A8i (Nat.testBit once 40005) P t,A2o P t with
  |some z,some fs=>match Amv fs parts.toList with
   |some l=>.build z l
   |none=>.stop
  |_,_=>.stop
 | .buildSlice t n parts=>match P.underlying t with
  |some (.slice e)=>match szT P e,Alb P e,Af5 0 parts.toList with
   |some sz,some z,some l=>match Nat.beq l.length n,Nat.ble (n*sz) 16777216,Nat.beq z.length sz,Nat.ble 1 sz with
    |true,true,true,true=>match Be8 once o.dst with
     |true=>.fU (Nat.testBit once 40002) e sz l
     |false=>.eB e sz l
    |_,_,_,_=>.stop
   |_,_,_=>.stop
  |_=>.stop
 | .load t x=>match P.underlying t,szT P t with
  |some _,some sz=>match Et P t,Nat.beq sz 1 with
   |false,false=>.stop
   |false,true=>Ayx P once t o.dst false sz x
   |true,_=>Ayx P once t o.dst true sz x
  |_,_=>.stop
 | .store t a x=>match o.dst,szT P t with
  |none,some sz=>A1z P once t sz a x
  |_,_=>.stop
 | .fieldAddr t x f=>match P.underlying t with
  |some (.struct fs)=>match fs[f]? with
   |some fd=>match szT P fd.type with
    |some (_+1)=>.field fd.offset x
    |_=>.stop
   |none=>.stop
  |_=>.stop
 | .indexAddr t x i=>match P.underlying t with
  |some (.slice e)=>match szT P e with
   |some sz=>.index sz x i
   |none=>.stop
  |some (.array n e)=>match szT P e,i with
   |some sz,.const (.int .i64 k)=>match decide (0<=k) && decide (k<(n:Int)) with
    |true=>.field (k.toNat*sz) x
    |false=>.stop
   |_,_=>.stop
  |_=>.stop
 | .extract x i=>A6g once x i
 | .nilCheck x=>.nil x
 | .makeFunc (.func f) first caps=>match Ep P f with
  |true=>.gI f first.size (first.toList++caps.toList)
  |false=>.stop
 | .makeSlice t l c=>match P.underlying t with
  |some (.slice e)=>match P.info? e,szT P e,Ala P e with
   |some i,some sz,some z=>match Nat.beq z.length sz,Nat.ble 1 sz,Awz l c,Axe l with
    |true,true,true,_=>.fQ e sz i.bytes z l
    |true,true,false,true=>.fK e sz i.bytes c
    |_,_,_,_=>.stop
   |_,_,_=>.stop
  |_=>.stop
 | .slice t x lo hi mx=>match P.underlying t with
  |some .string=>match mx with
   |none=>.fZ x lo hi
   |some _=>.stop
  |some (.slice e)=>match szT P e,(match mx,hi with|some _,none=>false|_,_=>true) with
   |some sz,true=>.gU sz x lo hi mx
   |_,_=>.stop
  |_=>.stop
 | .makeMap t none=>match P.underlying t with
  |some (.map ek ev)=>match LX.nil ek,LX.nil ev with
   |some x,some y=>.fC (Et P ek) (Et P ev) x y
   |_,_=>.stop
  |_=>.stop
 | .lookup t m q ok=>match P.underlying t with
  |some (.map ek ev)=>match Wu P ek,Ala P ev with
   |some (gq,ts),some z=>match A8h P ev (Et P ev) with
    |true=>.lookup gq ts ok (Et P ev) z m q
    |false=>.stop
   |_,_=>.stop
  |_=>.stop
 | .mapUpdate t m q v=>match P.underlying t,o.dst with
  |some (.map ek ev),none=>match Wu P ek with
   |some (gq,ts)=>.eT gq ts m q v
   |none=>.stop
  |_,_=>.stop
 | .call { callee:=.value (.func f),args,argTypes:=_ } =>match Ep P f with
  |true=>match inl f with
   |true=>match inl (4398046511104+f) with
    |true=>.fF f args.toList
    |false=>match Nat.testBit once 40011 && inl (35184372088832+f) with
    |true=>.eP f args.toList
    |false=>match inl (8796093022208+f),args.toList with
     |true,.tmp s::r=>.dN f (.tmp s::r) s
     |_,l=>.eY f l
   |false=>.call f args.toList
  |false=>match A6f P f,args.toList with
   |some b,[x,y,c]=>.ext b x y c
   |_,_=>.stop
 | .call { callee:=.builtin .delete,args,argTypes } =>match o.dst,args.toList,argTypes.toList with
  |none,[m,q],t::_=>match P.underlying t with
   |some (.map ek _)=>match Wu P ek with
    |some (gq,ts)=>.del gq ts m q
    |none=>.stop
   |_=>.stop
  |_,_,_=>.stop
 | .call { callee:=.value (.tmp x),args,argTypes:=_ } =>.eZ (.tmp x) args.toList
 | .call { callee:=.builtin .len,args,argTypes } =>match args.toList,argTypes.toList with
  | [x],[t]=>match Zg P t with
   |true=>.len x
   |false=>.dB o
  |_,_=>.stop
 | .call { callee:=.builtin .cap,args,argTypes } =>match args.toList,argTypes.toList with
  | [x],[t]=>match Zg P t with
   |true=>.cap x
   |false=>.stop
  |_,_=>.stop
 | .call { callee:=.builtin .append,args,argTypes } =>match args.toList,argTypes.toList with
  | [.tmp s,x],[t,t']=>match Nat.beq t t',P.underlying t with
   |true,some (.slice e)=>match P.info? e with
    |some i=>match i.zero with
     |some z=>match Nat.beq z.cells.size i.size,Nat.ble 1 i.size with
      |true,true=>match Nat.testBit once 40009 with
       |true=>.fM (Nat.testBit once 40002) e i.size i.bytes s x
       |false=>match A57 once o.dst && !(inl (2199023255552+e)) with
       |true=>.clone (Nat.testBit once 40002) e i.size i.bytes s x
       |false=>.app e i.size i.bytes s x
      |_,_=>.stop
     |none=>.stop
    |none=>.stop
   |_,_=>.stop
  |_,_=>.stop
 | .call { callee:=.builtin .min,args:=_,argTypes:=_ } | .call { callee:=.builtin .max,args:=_,argTypes:=_ } =>.dB o
 | .binOp b t x y _=>match Et P t with
  |false=>match b,P.underlying t with
   | .quo,some (.int _)=>.bY 0 x y
   | .rem,some (.int _)=>.bY 1 x y
   | .shl,some (.int _)=>.bY 2 x y
   | .shr,some (.int _)=>.bY 3 x y
   | .add,some .string=>.bY 4 x y
   | .eql,some (.slice _)=>.bY 6 x y
   | .neq,some (.slice _)=>.bY 7 x y
   |_,_=>.dB o
  |true=>match b,Ac9 P t with
   | .eql,some ts=>.gM false ts x y
   | .neq,some ts=>.gM true ts x y
   |_,_=>.stop
 | .convert b t x=>match P.underlying b,P.underlying t with
  |some (.slice e),some .string=>match P.underlying e with
   |some (.int .u8)=>.gF x
   |_=>.stop
  |_,_=>.dB o
 | .unOp .. =>.dB o
 | .index t x i=>match P.underlying t with
  |some .string=>.bY 5 x i
  |_=>.stop
 |_=>.stop
def Ail(os:Array Oper):Option (Nat×Bool)->Option (Option (Nat×Bool))
 |none=>some none
 |some (j,w)=>match (os[j]?).bind (·.dst) with
  |some s=>some (some (s,w))
  |none=>none
def Ajy(P:Program)(inl:Nat->Bool)(once:Nat)(os:Array Oper):List Oper->Option (List Ek)
 | []=>some []
 |o::r=>match Ail os o.guard,Ajy P inl once os r with
  |some g,some l=>some (⟨o.dst,g,cOp P inl once o⟩::l)
  |_,_=>none
def K.dX:K->Bool
 | .dV .. | .eF .. | .alloc _| .box _| .load .. | .loadT .. | .store .. | .storeT .. | .call .. | .eY .. | .dN .. | .eZ .. | .fQ .. | .clone .. | .fC .. | .lookup .. | .eT .. | .del .. | .eP .. | .fU .. | .fM .. =>true
 |_=>false
def K.bD:K->Bool
 | .dV .. | .eP .. | .fM .. | .store .. | .storeT .. | .loadT .. | .eY .. | .dN .. | .eZ .. | .eT .. | .del .. =>true
 |_=>false
def K.gB:K->Bool
 | .eY .. | .dN .. | .eZ .. =>true
 |_=>false
def K.makes:K->Bool
 | .alloc _| .box _| .fQ .. | .clone .. | .fC .. | .fU .. | .fM .. =>true
 |_=>false
def K.eG:K->Bool
 | .eP .. =>true
 |_=>false
def K.near:K->Bool
 | .eF near _ _ _ _=>near
 |_=>false
def K.mk0(k:K):Bool:=k.makes && !k.bD || k.near
def scm(x y:K):Bool:=(x.eG && y.mk0) || (y.eG && x.mk0)
def T3:List Operand->List Nat
 | []=> []
 | .tmp t::r=>t::T3 r
 |_::r=>T3 r
def A1b:Option Operand->List Operand
 |some x=> [x]
 |none=> []
def K.bC:K->List Operand
 | .eF _ r _ _ x=> [x,.tmp r]
 | .dV r _ a x=> [a,x,.tmp r]
 | .move x| .gF x| .box x| .load _ _ x| .loadT x| .field _ x| .len x| .cap x| .extract x _| .nil x| .gL _ _ _ x=> [x]
 | .take s| .dJ s=> [.tmp s]
 | .pick c a b=> [c,a,b]
 | .alloc _| .fH _| .fC .. | .stop=> []
 | .build _ ps=>ps.map λp=>p.2.2
 | .eB _ _ ps=>ps
 | .store _ a x| .index _ a x| .gM _ _ a x| .bY _ a x| .del _ _ a x| .lookup _ _ _ _ _ a x=> [a,x]
 | .storeT a s=> [a,.tmp s]
 | .eT _ _ m q v=> [m,q,v]
 | .ext _ x y c=> [x,y,c]
 | .dB o=>o.op.operands.toList
 | .app _ _ _ s x| .clone _ _ _ _ s x| .fM _ _ _ _ s x=> [.tmp s,x]
 | .fU _ _ _ ps=>ps
 | .call _ args| .eP _ args| .eY _ args| .fF _ args| .gI _ _ args=>args
 | .dN _ args s=>.tmp s::args
 | .eZ x args=>x::args
 | .fQ _ _ _ _ n| .fK _ _ _ n=> [n]
 | .gU _ x lo hi mx=>x::(A1b lo++A1b hi++A1b mx)
 | .fZ x lo hi=>x::(A1b lo++A1b hi)
def Ek.reads(o:Ek):List Nat:=T3 o.k.bC++(match o.g with|some (s,_)=> [s]|none=> [])
def Ek.writes(o:Ek):List Nat:=(match o.dst with|some d=> [d]|none=> [])++(match o.k with| .take s=> [s]| .dJ s=> [s]| .app _ _ _ s _=> [s]| .clone _ _ _ _ s _=> [s]| .storeT _ s=> [s]| .dN _ _ s=> [s]|_=> [])
def Agg(a b:List Nat):Bool:=a.any λx=>b.any λy=>Nat.beq x y
def K.addr:K->Option Nat
 | .load _ _ (.tmp a)=>some a
 | .eF _ r _ _ _=>some r
 | .dV r _ _ _=>some r
 | .loadT (.tmp a)=>some a
 | .store _ (.tmp a) _=>some a
 | .storeT (.tmp a) _=>some a
 | .eP _ (.tmp a::_)=>some a
 |_=>none
def Zf(a b:Nat):List (Nat×Nat)->Bool
 | []=>false
 |(c,d)::r=>(Nat.beq a c && Nat.beq b d) || (Nat.beq a d && Nat.beq b c) || Zf a b r
def Rv(ap:List (Nat×Nat))(x y:Ek):Bool:=match x.k.addr,y.k.addr with
 |some a,some b=>Zf a b ap
 |_,_=>false
def K.isLoad:K->Bool
 | .load .. =>true
 | .eF .. =>true
 | .call .. =>true
 |_=>false
def K.dR:K->Bool
 | .loadT _=>true
 |_=>false
def Aq3(fx:Bool)(x:K)(fy:Bool)(y:K):Bool:=((x.dR || fx) && y.isLoad) || (x.isLoad && (y.dR || fy))
def O4(ap:List (Nat×Nat))(fx:Bool)(x:Ek)(fy:Bool)(y:Ek):Bool:=
 Agg x.writes y.reads || Agg x.writes y.writes || Agg x.reads y.writes || (((x.k.bD && y.k.dX) || (x.k.dX && y.k.bD)) && !Rv ap x y && !Aq3 fx x.k fy y.k && !scm x.k y.k)
def L8(a:Nat):List Ek->Bool
 | []=>true
 |e::r=>match Ar a e.writes with
  |true=>L8 a r
  |false=>false
def Avf:List Ek->List Nat
 | []=> []
 |e::r=>match e.k.addr with
  |some a=>a::Avf r
  |none=>Avf r
def Amu(l:List Ek)(a:Nat):List Nat->List (Nat×Nat)
 | []=> []
 |b::r=>match Nat.beq a b,L8 b l with
  |false,true=>(a,b)::Amu l a r
  |_,_=>Amu l a r
def Ang(l:List Ek):List Ek->List (Nat×Nat)
 | []=> []
 |e::r=>match e.k.bD,e.k.addr with
  |true,some a=>match L8 a l with
   |true=>Amu l a (Avf l)++Ang l r
   |false=>Ang l r
  |_,_=>Ang l r
def Y8(l:List Ek):List (Nat×Nat)->Bool
 | []=>true
 |(a,b)::r=>L8 a l && L8 b l && Y8 l r
def Wr(o:Oper):List Nat:=(o.after.toList.filter λe=>Region.binds .any e).map (·.on)
def Arx(acc:List Nat):List Nat->Nat
 | []=>0
 |e::r=>(1 <<< e) ||| (acc.getD e 0) ||| Arx acc r
def A9x:List Oper->List Nat->List Nat
 | [],acc=>acc
 |o::r,acc=>A9x r (acc++ [Arx acc (Wr o)])
def below(n:Nat)(p:Nat->Bool):Bool:=match n with
 |0=>true
 |n+1=>match p n with
  |true=>below n p
  |false=>false
def Ek.mkAt(a:Nat)(e:Ek):Bool:=match e.k,e.g,e.dst with
 | .alloc _,none,some d=>Nat.beq d a
 | .box _,none,some d=>Nat.beq d a
 |_,_,_=>false
def Bpe(l:List Ek)(a k:Nat):Bool:=below l.length λj=>Nat.beq j k || (match l[j]? with|some e=>Ar a e.writes|none=>true)
def Ce(l:List Ek)(j:Nat):Bool:=match l[j]? with
 |some e=>e.k.bD && !e.k.dR && (match e.k.addr with
  |some a=> !(below j λk=> !(match l[k]? with|some e'=>e'.mkAt a && Bpe l a k|none=>false))
  |none=>false)
 |none=>false
def A7l(ap:List (Nat×Nat))(l:List Ek)(A:List Nat)(i j:Nat):Bool:=match l[i]?,l[j]? with
 |some x,some y=>match O4 ap (Ce l i) x (Ce l j) y with
  |true=>Nat.testBit (A.getD j 0) i
  |false=>true
 |_,_=>true
def Ac7(j:Nat):List Nat->Bool
 | []=>true
 |e::r=>match Nat.blt e j with
  |true=>Ac7 j r
  |false=>false
def Aim(ap:List (Nat×Nat))(os:List Oper)(l:List Ek):Bool:=
 Y8 l ap && below os.length λj=>below j (λi=>A7l ap l (A9x os []) i j) && (match os[j]? with|some o=>Ac7 j (Wr o)|none=>true)
def Ti(nt:Nat):List Ek->Bool
 | []=>true
 |o::r=>match o.dst with
  |some d=>match Nat.blt d nt with
   |true=>Ti nt r
   |false=>false
  |none=>Ti nt r
def Big(d:Nat)(l:List Nat):List Nat:=match Ar d l with
 |true=>l++ [d]
 |false=>l
def A3l:List Oper->List Nat->List Nat
 | [],l=>l
 |o::r,l=>A3l r (match o.op,o.dst with
  | .assign _,some d=>Big d l
  | .alloc _,some d=>Big d l
  | .box _ _,some d=>Big d l
  |_,_=>l)
def Yl:Code->List Nat->List Nat
 | .region _ os _,l=>A3l os.toList l
 | .seq a b,l=>Yl b (Yl a l)
 | .cond _ a b,l=>Yl b (Yl a l)
 | .block _ b,l=>Yl b l
 | .loop b,l=>Yl b l
 |_,l=>l
def Arz:List Oper->List Nat
 | []=> []
 |o::r=>match o.op,o.dst with
  | .move _,some d=>d::Arz r
  |_,_=>Arz r
def Tr:Code->List Nat
 | .region _ os _=>Arz os.toList
 | .seq a b=>Tr a++Tr b
 | .cond _ a b=>Tr a++Tr b
 | .block _ b=>Tr b
 | .loop b=>Tr b
 |_=> []
def A0j:List Nat->List Nat
 | []=> []
 |d::r=>match Ar d r with
  |true=>A0j r
  |false=>d::A0j r
def Tq:List Ek->List Nat
 | []=> []
 |o::r=>match o.k.makes,o.dst with
  |true,some d=>d::Tq r
  |_,_=>Tq r
def Auc:List Nat->Nat
 | []=>0
 |s::r=>(1 <<< s) ||| Auc r
def Bfa:List Oper->Nat
 | []=>0
 |o::r=>Auc (T3 o.op.operands.toList) ||| (match o.dst with|some d=>1 <<< d|none=>0) ||| Bfa r
def D4:Code->Nat
 | .region _ os _=>Bfa os.toList
 | .seq a b=>D4 a ||| D4 b
 | .cond c a b=>Auc (T3 [c]) ||| D4 a ||| D4 b
 | .block _ b=>D4 b
 | .loop b=>D4 b
 |_=>0
def Ayz:List ResultVar->Nat
 | []=>0
 | .tmp t::r=>(1 <<< t) ||| Ayz r
 | .cell t _::r=>(1 <<< t) ||| Ayz r
def X5:List ResultVar->List Nat
 | []=> []
 | .tmp t::r=>t::X5 r
 | .cell t _::r=>t::X5 r
def Gj(nt:Nat)(V:List Nat)(out body:Nat):List Nat:=
 (List.range nt).filter λs=>Nat.testBit out s && (Nat.testBit body s || !(Ar s V))
def Adn:Code->Bool
 | .exit _=>true
 | .ret=>true
 | .skip=>true
 |_=>false
def Be9(nt m:Nat):List Nat:=(List.range nt).filter λs=>Nat.testBit m s
def Bjp:List Ek->List Nat
 | []=> []
 |o::r=>match o.k with
  | .eB _ _ ps=>T3 ps++Bjp r
  |_=>Bjp r
def A96(ps:List Nat):List Ek->List Nat
 | []=> []
 |o::r=>match o.k,o.dst with
  | .load true _ (.tmp a),some d=>match Ar d ps with
   |true=>A96 ps r
   |false=>(1000000+a)::A96 ps r
  |_,_=>A96 ps r
def Bn1(once:Nat)(l:List Ek):List Nat:=match Nat.testBit once 40013 with
 |true=>A96 (Bjp l) l
 |false=> []
def A6l:List Ek->List Nat->List Nat
 | [],acc=>acc
 |o::r,acc=>A6l r (match o.k,o.dst with
  | .eB _ _ ps,_=>T3 ps++acc
  | .call _ args,_=>T3 args++acc
  | .move (.tmp s),some d=>match Ar d acc with
   |true=>acc
   |false=>s::Nb d acc
  | .take s,some d=>match Ar d acc with
   |true=>acc
   |false=>s::Nb d acc
  |_,_=>acc)
structure A0c where
 t:Nat
 os1:Array Oper
 pre:List Oper
 m:Operand
 it:Nat
 nx:Nat
 more:Nat
 pair:Nat
 n:Nat
 os3:Array Oper
 rest:List Oper
def A3b(os1 os2 os3:Array Oper)(mo n:Nat):Option A0c:=match os1.toList.reverse,os2.toList,os3.toList with
 |⟨some it,.range t m,_,_,_,none⟩::pre,[⟨some nx,.next (.tmp it') false,_,_,_,none⟩,⟨some mo',.extract (.tmp nx') 0,_,_,_,none⟩],⟨some pair,.entry (.tmp it''),_,_,_,none⟩::rest=>
  match Nat.beq it it' && Nat.beq it it'' && Nat.beq nx nx' && Nat.beq mo mo' && !Nat.beq it nx && !Nat.beq it mo with
  |true=>some ⟨t,os1,pre.reverse,m,it,nx,mo,pair,n,os3,rest⟩
  |false=>none
 |_,_,_=>none
def Azn:Code->Code->Option A0c
 | .region _ os1 false,.block o (.loop (.seq (.region _ os2 false) (.seq (.cond (.tmp mo) .skip (.exit o')) (.block n (.seq (.region _ os3 false) _)))))=>match Nat.beq o o' with
  |true=>A3b os1 os2 os3 mo n
  |false=>none
 |_,_=>none
def Auj:EC->Option (List Nat×EC)
 | .block _ (.loop keys (.seq _ (.seq (.kp _) (.seq _ (.seq (.kp _) (.block _ (.seq _ v)))))))=>some (keys,v)
 |_=>none
def A0z(P:Program)(t:Nat):Bool:=match P.underlying t with
 |some (.map _ _)=>true
 |_=>false
def A1i(P:Program)(inl:Nat->Bool)(once nt:Nat)(p:A0c):Option (List Nat×EC)->EC
 |some (keys,v)=>match Ajy P inl once p.os1 p.pre,Ajy P inl once p.os3 p.rest with
  |some l1,some l3=>match Ti nt l1 && Ti nt l3 && Nat.blt p.it nt && Nat.blt p.nx nt && Nat.blt p.more nt && Nat.blt p.pair nt && A0z P p.t && !Ar p.it keys with
   |true=>.gY l1 p.m p.it p.nx p.more p.pair keys l3 v p.n
   |false=>.stop
  |_,_=>.stop
 |none=>.stop
def Boa(once:Nat)(V:List Nat):List Nat:=match Nat.testBit once 40007 with
 |true=>V
 |false=> []
def Ake(once:Nat)(V:List Nat)(e:EC):EC:=match Nat.testBit once 40007 with
 |true=>.seq (.gZ V) e
 |false=>e
def Bdn(once:Nat):List Nat->List Nat
 | []=> []
 |s::r=>match Nat.testBit once (42000+s) with
  |true=>s::Bdn once r
  |false=>Bdn once r
def Bdm(once:Nat)(V:List Nat)(l:List Ek):EC:=match Nat.testBit once 40007 with
 |true=>.seq (.gJ l) (.gZ V)
 |false=>match Nat.testBit once 40009 with
  |true=>.seq (.gJ l) (.gW (Bdn once V))
  |false=>.gJ l
def vwR(once:Nat)(V:List Nat)(st:St):St:=match Nat.testBit once 40007 with
 |true=>st.vwL V
 |false=>match Nat.testBit once 40009 with
  |true=>st.frzL (Bdn once V)
  |false=>st
def Hq(P:Program)(inl:Nat->Bool)(once nt:Nat)(V:List Nat)(out lt:Nat):Code->EC
 | .skip=>.skip
 | .region _ os d=>match Ajy P inl (A7g once os.toList) os os.toList with
  |some l=>match Ti nt l with
   |true=>match d with
    |true=>match Aim [] os.toList l with
     |true=>.region (Tq l) [] l
     |false=>match Aim (Ang l l) os.toList l with
      |true=>.region (Tq l) (Ang l l) l
      |false=>.stop
    |false=>match Nat.testBit once 40003 with
     |true=>.seq (.gW (A6l l.reverse (Boa once V)++Bn1 once l)) (Bdm once V l)
     |false=>Bdm once V l
   |false=>.stop
  |none=>.stop
 | .seq a b=>match Azn a b with
  |some p=>A1i P inl once nt p (Auj (Hq P inl once nt V (out ||| D4 a) lt b))
  |none=>.seq (Hq P inl once nt V (out ||| D4 b) (lt ||| D4 b) a) (match Adn b with
  |true=>Hq P inl once nt V (out ||| D4 a) lt b
  |false=>.seq (.kp (Be9 nt (lt ||| D4 b))) (Hq P inl once nt V (out ||| D4 a) lt b))
 | .cond c a b=>.cond c (Hq P inl once nt V (out ||| D4 b ||| Auc (T3 [c])) lt a) (Hq P inl once nt V (out ||| D4 a ||| Auc (T3 [c])) lt b)
 | .block id b=>.block id (Hq P inl once nt V out lt b)
 | .loop b=>Ake once V (match Nat.testBit once 40004 with
  |true=>.fI (Gj nt V out (D4 b)) (Hq P inl once nt (V++Gj nt V out (D4 b)) out (lt ||| D4 b) b)
  |false=>.loop (Gj nt V out (D4 b)) (Hq P inl once nt (V++Gj nt V out (D4 b)) out (lt ||| D4 b) b))
 | .exit id=>.exit id
 | .ret=>.ret
 |_=>.stop
def An4(inl:Nat->Bool)(fn:Func)(j b:Nat):Nat:=match inl (1099511627776+((match fn.params.toList with|t::_=>t| []=>0)*16777216+fn.endLine*4096+fn.ntmps)*8+j) with
 |true=>1 <<< b
 |false=>0
def Bn5(inl:Nat->Bool)(fn:Func):Nat:=match inl (17592186044416+((match fn.params.toList with|t::_=>t| []=>0)*16777216+fn.endLine*4096+fn.ntmps)) with
 |true=>(1 <<< 40009) ||| (Ayz fn.results.toList <<< 42000)
 |false=>0
def Bn6(inl:Nat->Bool)(fn:Func):Nat:=match inl (70368744177664+((match fn.params.toList with|t::_=>t| []=>0)*16777216+fn.endLine*4096+fn.ntmps)) with
 |true=>(1 <<< 40010) ||| (((1 <<< fn.params.size)-1) <<< 41000)
 |false=>0
def Bn7(inl:Nat->Bool)(fn:Func):Nat:=match inl (140737488355328+((match fn.params.toList with|t::_=>t| []=>0)*16777216+fn.endLine*4096+fn.ntmps)) with
 |true=>1 <<< 40011
 |false=>0
def Bn8(inl:Nat->Bool)(fn:Func):Nat:=match inl (281474976710656+((match fn.params.toList with|t::_=>t| []=>0)*16777216+fn.endLine*4096+fn.ntmps)) with
 |true=>1 <<< 40012
 |false=>0
def Bn9(inl:Nat->Bool)(fn:Func):Nat:=match inl (562949953421312+((match fn.params.toList with|t::_=>t| []=>0)*16777216+fn.endLine*4096+fn.ntmps)) with
 |true=>1 <<< 40013
 |false=>0
def cFn(P:Program)(inl:Nat->Bool)(fn:Func):Option EC:=match fn.body with
 |some c=>some (Hq P inl (Bop c fn.ntmps ||| An4 inl fn 0 40001 ||| An4 inl fn 1 40003 ||| An4 inl fn 2 40002 ||| An4 inl fn 3 40004 ||| An4 inl fn 4 40005 ||| An4 inl fn 5 40006 ||| An4 inl fn 6 40007 ||| An4 inl fn 7 40008 ||| Bn5 inl fn ||| Bn6 inl fn ||| Bn7 inl fn ||| Bn8 inl fn ||| Bn9 inl fn) fn.ntmps (Yl c (List.range fn.params.size++X5 fn.results.toList++A0j (Tr c))) (Auc (List.range fn.params.size) ||| Ayz fn.results.toList) (Ayz fn.results.toList) c)
 |none=>none
def Amz(sz:Nat):Nat->List PV->List (List PV)
 |0,_=> []
 |n+1,l=>l.take sz::Amz sz n (l.drop sz)
def PV.finN(O:Nat->List PV):Nat->PV->PV
 |0,p=>p.pure0
 |m+1,p=>match p with
 | .vw c d e sz n=>match c,O d with
  |false,[.bG x]=>match Nat.beq sz x.sz with
   |true=>.aO false x
   |false=>.any
  |true,cs=>match LX.lit e (Amz sz n (cs.map (PV.finN O m))),Qm cs (n*sz) && Er cs with
   |some x,true=>match Nat.beq sz x.sz with
    |true=>.aO false x
    |false=>.any
   |_,_=>.any
  |_,_=>.any
 |p=>p.pure0
def PV.fin1(O:Nat->List PV)(p:PV):PV:=PV.finN O 3 p
def PV.fin(O:Nat->List PV):PV->PV
 | .agg l=>.agg (l.map (PV.fin1 O))
 | .aY l=>.aY (l.map (PV.fin1 O))
 | .sl _ e sz es=>.sl false e sz (es.map λr=>r.map PV.pure0)
 |p=>p.fin1 O
def O6(P:Program)(st:St):List ResultVar->(List PV->Prop)->Prop
 | [],k=>k []
 | .tmp t::r,k=>O6 P st r λl=>k (st.get t::l)
 | .cell a t::r,k=>match st.get a,szT P t,P.underlying t with
  | .loc b off,some sz,some _=>match Et P t,Nat.beq sz 1,Mj ((st.obj b).drop off) sz && Er (((st.obj b).drop off).take sz) with
   |true,_,true=>O6 P st r λl=>k (.agg (((st.obj b).drop off).take sz)::l)
   |false,true,true=>O6 P st r λl=>k (V2 false (((st.obj b).drop off).take sz)::l)
   |_,_,_=>False
  |_,_,_=>False
def Ud(i:Nat):List PV->List (Nat×PV)
 | []=> []
 |p::r=>(i,p)::Ud (i+1) r
def Xj(i:Nat):List PV->List (Nat×PV)
 | []=> []
 |p::r=>(i,p.view)::Xj (i+1) r
def Af8(O:Nat->List PV)(k:PV->Prop):List PV->Prop
 | [r]=>k (r.fin O)
 |l=>k (.aY (l.map (PV.fin O)))
def A60(P:Program)(rs:List ResultVar)(k:PV->Prop):Ex->St->Prop:=λe st=>match e with
 | .exit _=>False
 | .normal=>O6 P st rs (Af8 st.obj k)
 | .ret=>O6 P st rs (Af8 st.obj k)
def Avx(ob:List (Nat×List PV))(k:PV->List (Nat×List PV)->Prop):List PV->Prop
 | [r]=>k r ob
 |l=>k (.aY (A6m l)) ob
def St.endI(st:St)(rs:List ResultVar):St:=match rs with
 | []=>match Av6 7 (B9 st) with
  |false=>st
  |true=>Aga (X5 rs) (gcK (X5 rs) st) st
 |_::_=>st
def At7(P:Program)(rs:List ResultVar)(k:PV->List (Nat×List PV)->Prop):Ex->St->Prop:=λe st=>match e with
 | .exit _=>False
 | .normal=>O6 P (st.endI rs) rs (Avx (S9 (st.endI rs).ob) k)
 | .ret=>O6 P (st.endI rs) rs (Avx (S9 (st.endI rs).ob) k)
def Bos(P:Program)(C:Ba)(f:Nat)(args:List PV)(k:PV->List (Nat×List PV)->Prop):Prop:=match Ep P f,Aoo PV.gT args with
 |true,true=>C f (.aY []::args) λr=>match r with
  | .aO false x=>k (.aO true x) []
  |_=>False
 |_,_=>False
def Be6(e b:Nat)(args:List PV)(k:PV->List (Nat×List PV)->Prop):Prop:=match args,LX.nil e with
 | [.val (.slice none 0 0),.val (.int .i64 m)],some x=>gd (0<=m) (gd (m*(b:Int)<=140737488355328) (gd (m<=(4611686018427387904:Int)) (k (.aO true x) [])))
 |_,_=>False
def evJ(P:Program)(inl:Nat->Bool)(C:Ba)(L:Nat)(X:Inl):Inl:=λf args ob k=>match inl f with
  |true=>match P.funcs[f]? with
   |some fn=>match cFn P inl fn,Nat.ble args.length fn.ntmps,Ep P f with
    |some ec,true,true=>Ws P C X L ec { fr:=Ud 0 args,ob:=ob,base:=V3 ob } (At7 P fn.results.toList k)
    |_,_,_=>False
   |none=>False
  |false=>match Ep P f with
   |true=>C f (args.map (Ahk (B4 [] ob))) λr=>k r.view []
   |false=>False
def A58(e:Nat)(args:List PV)(k:PV->List (Nat×List PV)->Prop)(E:Prop):Prop:=match args,LX.nil e with
 | [.aO _ z],some n=>br (Nat.beq z.len 0) (k (.aO true n) []) E
 |_,_=>E
def evB(P:Program)(inl:Nat->Bool)(G:Nat->Option (Nat×Nat))(C:Ba)(L:Nat)(X:Inl):Inl:=λf args ob k=>match G f with
  |some (e,b)=>match Nat.beq b 0 with
   |true=>A58 e args k (evJ P inl C L X f args ob k)
   |false=>match Nat.beq b 2000000 with
    |true=>stK P C f args ob k
    |false=>match Nat.beq b 3000000 with
     |true=>Bos P C f args k
     |false=>Be6 e b args k
  |none=>evJ P inl C L X f args ob k
def Ax8(P:Program)(inl:Nat->Bool)(G:Nat->Option (Nat×Nat))(C:Ba)(L:Nat):Nat->Inl
 |0,_,_,_,_=>False
 |n+1,f,args,ob,k=>evB P inl G C L (Ax8 P inl G C L n) f args ob k
noncomputable def YoS(P:Program)(inl:Nat->Bool)(G:Nat->Option (Nat×Nat))(C:Ba)(L:Nat): { Y:Nat->Inl // Y=Ax8 P inl G C L } :=Classical.choice ⟨⟨Ax8 P inl G C L,rfl⟩⟩
noncomputable def Yo(P:Program)(inl:Nat->Bool)(G:Nat->Option (Nat×Nat))(C:Ba)(L:Nat):Nat->Inl:=(YoS P inl G C L).1
noncomputable def evI(P:Program)(inl:Nat->Bool)(G:Nat->Option (Nat×Nat))(J:Nat->Bool)(C:Ba)(L:Nat):Nat->Inl
 |0,_,_,_,_=>False
 |n+1,f,args,ob,k=>match J f with
  |true=>Yo P inl G C L (n+1) f args ob k
  |false=>evB P inl G C L (evI P inl G J C L n) f args ob k
theorem Be2(P:Program)(inl:Nat->Bool)(G:Nat->Option (Nat×Nat))(C:Ba)(L:Nat):Yo P inl G C L=Ax8 P inl G C L:=(YoS P inl G C L).2
theorem A0o(P:Program)(inl:Nat->Bool)(G:Nat->Option (Nat×Nat))(J:Nat->Bool)(C:Ba)(L:Nat):∀n,evI P inl G J C L n=Ax8 P inl G C L n
 |0=>rfl
 |n+1=>by
  funext f args ob k
  simp only[evI,Ax8,Be2,A0o P inl G J C L n];cases J f<;>rfl
theorem Cf(P:Program)(inl:Nat->Bool)(G:Nat->Option (Nat×Nat))(J:Nat->Bool)(C:Ba)(L n f:Nat)(args:List PV)(ob:List (Nat×List PV))(k:PV->List (Nat×List PV)->Prop):
  Yo P inl G C L (n+1) f args ob k=evB P inl G C L (evI P inl G J C L n) f args ob k:=by
 rw[Be2,A0o];rfl
def Adv:List PV->Bool
 | .aY _::_=>true
 |_=>false
def A15(o:Bool)(r:PV):PV:=match o with
 |true=>r
 |false=>r.view
def kSt(o0:Bool)(k:PV->Prop):PV->List (Nat×List PV)->Prop:=λr o=>match okE (B4 [] o 0),(A15 o0 r).fx with
 |true,true=>k (.aY [A15 o0 r,.agg (B4 [] o 0)])
 |_,_=>False
def A2l(P:Program)(C:Ba)(X:Inl)(L:Nat)(o0:Bool)(rs:List ResultVar)(ec:EC)(cells:List PV)(args:List PV)(k:PV->Prop):Prop:=
 Ws P C X L ec { fr:=Xj 0 (.loc 0 0::args),ob:= [(0,cells)],base:=V3 [(0,cells)] } (At7 P rs (kSt o0 k))
def Ax7(P:Program)(C:Ba)(X:Inl)(L:Nat)(rs:List ResultVar)(ec:EC)(args:List PV)(k:PV->Prop):Prop:=match Adv args with
 |true=>False
 |false=>Ws P C X L ec { fr:=Xj 0 args,ob:= [],base:=0 } (A60 P rs k)
theorem All{P:Program}{C:Ba}{X:Inl}{L:Nat}{rs:List ResultVar}{ec:EC}{args:List PV}{k:PV->Prop}(h:Ax7 P C X L rs ec args k):Adv args=false/\Ws P C X L ec { fr:=Xj 0 args,ob:= [],base:=0 } (A60 P rs k):=by
 unfold Ax7 at h;cases hh:Adv args with
 |true=>rw[hh]at h;exact h.elim
 |false=>rw[hh]at h;exact⟨rfl,h⟩
end Go.Proofs.YtgacplpjamkieaaGreat.Ev
namespace Go.Proofs.YtgacplpjamkieaaGreat.Ev
open Go Go.RowKit
abbrev Jw:=Nat->Option Nat
abbrev Kh:=Nat->Option (Nat×Nat)
def imm(M:Jw)(a:Addr):Prop:=∀n,M a.block=some n->a.off<n
def dH(w:World)(b:Nat):Nat:=match w.heap[b]? with
 |some (.cells cs _ _)=>cs.size
 |_=>0
theorem Axx{w w':World}{b:Nat}(h:w'.heap[b]? =w.heap[b]?):dH w b<=dH w' b:=by unfold dH;rw[h];exact Nat.le_refl _
theorem Vg{w:World}{b:Nat}{cs:Array Value}{t:Nat}{f:Nat×Nat}(h:w.heap[b]? =some (.cells cs t f)):dH w b=cs.size:=by unfold dH;rw[h]
theorem Te{w w':World}(h:Below w.heap.size w w')(b:Nat):dH w b<=dH w' b:=by
 rcases Nat.lt_or_ge b w.heap.size with hb|hb
 ·exact Axx (h.block b hb)
 ·unfold dH;rw[Array.getElem?_eq_none hb];exact Nat.zero_le _
theorem Ajx{w w':World}{g:Nat}(hoth:∀k,k≠g->w'.heap[k]? =w.heap[k]?)(hg:dH w g<=dH w' g)(b:Nat):dH w b<=dH w' b:=by
 by_cases e:b=g
 ·subst e;exact hg
 ·exact Axx (hoth b e)
structure D7 where
 w:World
 old:Nat->Prop
 lt:∀b,old b->b<w.heap.size
structure Bel (B:D7) (w:World):Prop where
 os:w.os=B.w.os
 tape:w.tape=B.w.tape
 output:w.output=B.w.output
 size:B.w.heap.size<=w.heap.size
 block:∀k,B.old k->w.heap[k]? =B.w.heap[k]?
 dH:∀k,dH B.w k<=dH w k
inductive Bk (w:World) (M:Jw) (β :Kh) (B:Nat->Prop):PV->Value->Prop
 |any (v:Value):Bk w M β B .any v
 |val (v:Value) (h:v.oneCell'=true):Bk w M β B (.val v) v
 |agg (l:List PV) (cs:List Value) (hl:l.length=cs.length) (h1:∀v∈cs,v.oneCell'=true)
   (hr:∀(i:Nat) (p:PV) (v:Value),l[i]? =some p->cs[i]? =some v->Bk w M β B p v):Bk w M β B (.agg l) (.agg cs.toArray)
 |aY (l:List PV) (cs:List Value) (hl:l.length=cs.length)
   (hr:∀(i:Nat) (p:PV) (v:Value),l[i]? =some p->cs[i]? =some v->Bk w M β B p v):Bk w M β B (.aY l) (.tuple cs.toArray)
 |row (p:PV) (s:SV) (hs:p.sv=some s) (a:Option Addr) (c:Nat) (vs:Nat->Nat->Value)
   (hc:s.n<=c)(hsz:∀(i:Nat),i<s.n->(s.f i).length=s.sz)(ha:∀(i:Nat),i<s.n->∃ad,a=some ad)
   (hm:∀(ad:Addr) (i:Nat) (j:Nat) (p:PV),a=some ad->i<s.n->(s.f i)[j]? =some p->imm M (ad.add (i*s.sz+j))/\w.cell? (ad.add (i*s.sz+j))=some (vs i j)/\(vs i j).oneCell'=true)
   (hr:∀(i:Nat) (j:Nat) (p:PV),i<s.n->(s.f i)[j]? =some p->Bk w M β B p (vs i j)):Bk w M β B p (.slice a s.n c)
 |loc (d off b n:Nat) (h: β d=some (b,n)):Bk w M β B (.loc d off) (.pointer (some ⟨b,off,none⟩))
 |el (d sz i off b n:Nat) (h: β d=some (b,n)) (hi:i<n):Bk w M β B (.el d sz i off) (.pointer (some ⟨b,i*sz+off,none⟩))
 |vw (cf:Bool) (d e sz n b c:Nat) (h: β d=some (b,n)) (hc:n<=c) (hz:c*sz<=dH w b):Bk w M β B (.vw cf d e sz n) (.slice (some ⟨b,0,none⟩) n c)
 |mp (d b n:Nat) (h: β d=some (b,n)):Bk w M β B (.mp d) (.map (some b))
 |bA (f n:Nat) (l:List PV) (cs:List Value) (hl:l.length=cs.length)
   (hr:∀(i:Nat) (p:PV) (v:Value),l[i]? =some p->cs[i]? =some v->Bk w M β B p v):Bk w M β B (.bA f n l) (.func (.func f) (cs.take n).toArray (cs.drop n).toArray)
 |ref (l:List PV) (ad:Addr) (vs:Nat->Value) (hm:∀(i:Nat) (p:PV),l[i]? =some p->(B ad.block\/Ev.imm M (ad.add i))/\w.cell? (ad.add i)=some (vs i)/\(vs i).oneCell'=true)
   (hr:∀(i:Nat) (p:PV),l[i]? =some p->Bk w M β B p (vs i)):Bk w M β B (.ref l) (.pointer (some ad))
def Ext(w:World)(M:Jw)(w':World)(M':Jw):Prop:=∀a v,imm M a->w.cell? a=some v->imm M' a/\w'.cell? a=some v
theorem Ext.refl(w:World)(M:Jw):Ext w M w M:=λ_ _ h h'=>⟨h,h'⟩
theorem Ext.trans{w w' w'':World}{M M' M'':Jw}(h:Ext w M w' M')(h':Ext w' M' w'' M''):Ext w M w'' M'':=
 λa v hi hc=>let ⟨h1,h2⟩:=h a v hi hc;h' a v h1 h2
theorem Ag4(a:Addr)(n:Nat):(a.add n).block=a.block:=by unfold Addr.add;split<;>rfl
theorem add_add(a:Addr)(i j:Nat):(a.add i).add j=a.add (i+j):=by
 unfold Addr.add;by_cases hi:i=0<;>by_cases hj:j=0<;>simp[hi,hj,Nat.add_assoc]
theorem add_lit(g k:Nat):(⟨g,0,none⟩:Addr).add k=⟨g,k,none⟩:=by unfold Addr.add;split<;>simp_all
theorem m7(g o k:Nat):(⟨g,o,none⟩:Addr).add k=⟨g,o+k,none⟩:=by unfold Addr.add;split<;>simp_all
section
variable {w w':World} {M M':Jw} {β β':Kh} {B:Nat->Prop}
theorem Bk.ext1(h:∀a v,v.oneCell'=true->imm M a->w.cell? a=some v->imm M' a/\w'.cell? a=some v)(hB:∀a:Addr,B a.block->w'.cell? a=w.cell? a)(hβ :∀d x,β d=some x->β' d=some x)(hz:∀d b n,β d=some (b,n)->dH w b<=dH w' b){p:PV}{v:Value}(hr:Bk w M β B p v):Bk w' M' β' B p v:=by
 induction hr with
 |any v=>exact .any v
 |val v h=>exact .val v h
 |agg l cs hl h1 _ ih=>exact .agg l cs hl h1 ih
 |aY l cs hl _ ih=>exact .aY l cs hl ih
 |row p s hs a c vs hc hsz ha hm _ ih=>
  exact .row p s hs a c vs hc hsz ha (λad i j p h1 h2 h3=>let ⟨g1,g2,g3⟩:=hm ad i j p h1 h2 h3;let ⟨k1,k2⟩:=h _ _ g3 g1 g2;⟨k1,k2,g3⟩) ih
 |loc d off b n h=>exact .loc d off b n (hβ _ _ h)
 |el d sz i off b n h hi=>exact .el d sz i off b n (hβ _ _ h) hi
 |vw cf d e sz n b c h hc h2=>exact .vw cf d e sz n b c (hβ _ _ h) hc (Nat.le_trans h2 (hz _ _ _ h))
 |mp d b n h=>exact .mp d b n (hβ _ _ h)
 |bA f n l cs hl _ ih=>exact .bA f n l cs hl ih
 |ref l ad vs hm _ ih=>
  refine .ref l ad vs (λi p hp=>?_) ih;obtain⟨g1,g2,g3⟩:=hm i p hp;rcases g1 with g1|g1
  ·exact⟨.inl g1,by rw[hB _ (by rw[Ag4];exact g1)];exact g2,g3⟩
  ·obtain⟨k1,k2⟩:=h _ _ g3 g1 g2;exact⟨.inr k1,k2,g3⟩
theorem Bk.ext(h:Ext w M w' M')(hB:∀a:Addr,B a.block->w'.cell? a=w.cell? a)(hβ :∀d x,β d=some x->β' d=some x)(hz:∀d b n,β d=some (b,n)->dH w b<=dH w' b){p:PV}{v:Value}(hr:Bk w M β B p v):Bk w' M' β' B p v:=
 hr.ext1 (λa v _ hi hc=>h a v hi hc) hB hβ hz
theorem Abq{p:PV}{s:SV}(h:p.view.sv=some s):s.own=false:=by
 cases p with
 |aY l=>cases l<;>cases h
 |_=>simp only[PV.view,PV.sv]at h;first|(injection h with h;subst h;rfl)|cases h
theorem A8e{p:PV}{s:SV}(h:p.sv=some s):p.dD.sv=some { s with own:=false } :=by
 cases p<;>simp only[PV.sv]at h<;>first|(injection h with h;subst h;rfl)|cases h
theorem A5d{p:PV}{s:SV}(h:p.dD.sv=some s):s.own=false:=by
 cases p<;>simp only[PV.dD,PV.sv]at h<;>first|(injection h with h;subst h;rfl)|cases h
theorem Jx{p:PV}{s:SV}(h:p.view.dQ=some s):s.own=false:=by
 cases p with
 |aY l=>
  cases l with
  |nil=>cases h
  |cons q r=>exact A5d h
 |aO o x=>injection h with h;subst h;rfl
 |sl o e sz es=>injection h with h;subst h;rfl
 |_=>cases h
theorem M9{p:PV}{s:SV}(h:p.sv=some s):p.dQ=some s/\∀v,ohd p v=v:=by
 cases p<;>simp only[PV.sv]at h<;>first|(injection h with h;subst h;exact⟨rfl,λ_=>rfl⟩)|cases h
theorem A28{p:PV}(h:p.one=true):p.dQ=p.sv/\∀v,ohd p v=v:=by
 cases p<;>first|exact⟨rfl,λ_=>rfl⟩|cases h
theorem A5e{p:PV}{x:LX}(h:p.view=.bG x):p=.bG x:=by
 cases p with
 |aY l=>cases l<;>cases h
 |_=>first|exact h|cases h
theorem A5g{p:PV}{a b:Bool}{c d:LX}(h:p.view=.aL a b c d):p=.aL a b c d:=by
 cases p with
 |aY l=>cases l<;>cases h
 |_=>first|exact h|cases h
theorem A5f{p:PV}{a:Array MapEntry}{b:Nat}{c d:Bool}{e f:LX}(h:p.view=.bV a b c d e f):p=.bV a b c d e f:=by
 cases p with
 |aY l=>cases l<;>cases h
 |_=>first|exact h|cases h
theorem Ato{p:PV}(h:p.sv=none):p.dD=p:=by
 cases p<;>first|rfl|(simp only[PV.sv]at h;cases h)
theorem Bk.dD{p:PV}{v:Value}(h:Bk w M β B p v):Bk w M β B p.dD v:=by
 cases hq:p.sv with
 |none=>rw[Ato hq];exact h
 |some s=>
  have key:∀(p q:PV) (s:SV),p.sv=some s->q.sv=some { s with own:=false } ->Bk w M β B p v->Bk w M β B q v:=by
   intro p q s hp hq hr;cases hr with
   |row p s' hs a c vs hc hsz ha hm hr=>
    rw[hp]at hs;injection hs with hs;subst hs
    exact .row q { s with own:=false } hq a c vs hc hsz ha hm hr
   |_=>simp only[PV.sv]at hp;cases hp
  exact key p p.dD s hq (A8e hq) h
theorem Bk.view{p:PV}{v:Value}(h:Bk w M β B p v):Bk w M β B p.view v:=by
 cases p with
 |aY l=>
  cases l with
  |nil=>exact h
  |cons q r=>
   cases h with
   |row p s hs=>cases hs
   |aY l cs hl hr=>
    refine .aY _ cs hl (λi p v hp hv=>?_);cases i with
    |zero=>injection hp with hp;subst hp;exact(hr 0 q v rfl hv).dD
    |succ i=>exact hr (i+1) p v hp hv
 |_=>exact h.dD
theorem Awo(v:Value):Ams v=v.oneCell':=by cases v<;>rfl
theorem Bk.one{p:PV}{v:Value}(h:Bk w M β B p v)(h1:p.one=true):v.oneCell'=true:=by
 cases h with
 |any=>simp[PV.one]at h1
 |val v h=>exact h
 |agg=>simp[PV.one]at h1
 |aY=>simp[PV.one]at h1
 |_=>rfl
theorem A6k{p:PV}{s:SV}(hf:p.flat=true)(hs:p.sv=some s):∀(i j:Nat) (q:PV),(s.f i)[j]? =some q->q.flat=true:=by
 intro i j q hq;cases p with
 |aO own x=>injection hs with hs;subst hs;exact LX.row_flat _ _ _ (List.mem_of_getElem? hq)
 |sl=>cases hf
 |_=>cases hs
theorem Bk.flat{B':Nat->Prop}{p:PV}{v:Value}(h:Bk w M β B p v)(hf:p.flat=true):Bk w M β' B' p v:=by
 induction h with
 |any v=>exact .any v
 |val v h=>exact .val v h
 |row p s hs a c vs hc hsz ha hm hr ih=>
  exact .row p s hs a c vs hc hsz ha hm (λi j q hi hq=>ih i j q hi hq (A6k hf hs i j q hq))
 |_=>simp[PV.flat]at hf
theorem Bk.pure0{B':Nat->Prop}{p:PV}{v:Value}(h:Bk w M β B p v):Bk w M β' B' p.pure0 v:=by
 unfold PV.pure0;cases hf:p.flat with
 |true=>exact(h.flat hf).view
 |false=>exact .any v
theorem Bk.val_eq{v u:Value}(h:Bk w M β B (.val v) u):u=v:=by
 cases h with
 |val v h=>rfl
 |row p s hs=>cases hs
theorem Bk.le{p q:PV}{v:Value}(hl:PV.Le p q)(h:Bk w M β B p v):Bk w M β B q v:=by
 cases hl with
 |view=>exact h.view
 |nil own y hy=>
  have:=h.val_eq;subst this;have:Bk w M β B (.aO own y) (.slice none (SV.mk own y.e y.sz y.len y.row).n 0):=
   .row _ ⟨own,y.e,y.sz,y.len,y.row⟩ rfl none 0 (λ_ _=>undef) (by simp[hy]) (λi hi=>by simp[hy]at hi) (λi hi=>by simp[hy]at hi) (λad i j p ha=>by cases ha) (λi j p hi=>by simp[hy]at hi)
  simpa[hy]using this
theorem W2{s:PV->Bool} :∀ {l:List PV},Ah5 s l=true->∀(i:Nat) (p:PV),l[i]? =some p->s p=true
 | [],_,i,p,h=>by simp at h
 |q::r,h,i,p,hp=>by
  simp only[Ah5]at h;cases hq:s q with
  |false=>rw[hq]at h;cases h
  |true=>
   rw[hq]at h;cases i with
   |zero=>simp at hp;subst hp;exact hq
   |succ i=>exact W2 h i p (by simpa using hp)
theorem Ash{s:PV->Bool} :∀ {l:List (List PV)},Awy s l=true->∀(i:Nat),Ah5 s (l.getD i [])=true
 | [],_,i=>rfl
 |q::r,h,i=>by
  simp only[Awy]at h;cases hq:Ah5 s q with
  |false=>rw[hq]at h;cases h
  |true=>
   rw[hq]at h;cases i with
   |zero=>exact hq
   |succ i=>exact Ash h i
def Kh.cut(β :Kh)(D:Nat->Bool):Kh:=λd=>if D d then none else β d
theorem Kh.cut_some{β :Kh}{D:Nat->Bool}{d:Nat}{x:Nat×Nat}(h: β.cut D d=some x): β d=some x/\D d=false:=by
 unfold Kh.cut at h;cases hd:D d with
 |true=>rw[hd]at h;simp at h
 |false=>rw[hd]at h;exact⟨by simpa using h,rfl⟩
theorem Kh.cut_eq{β :Kh}{D:Nat->Bool}{d:Nat}(h:D d=false): β.cut D d= β d:=by unfold Kh.cut;rw[h];rfl
theorem Bk.safe0{D:Nat->Bool}{p:PV}{v:Value}(hs:p.safe0 D=true)(h:Bk w M β B p v):Bk w M (β.cut D) B p v:=by
 cases h with
 |any v=>exact .any v
 |val v h=>exact .val v h
 |row p s hsv a c vs hc hsz ha hm hr=>
  cases p with
  |sl=>simp[PV.safe0]at hs
  |aO own x=>exact(Bk.row (β := β) (B:=B) _ s hsv a c vs hc hsz ha hm hr).flat rfl
  |_=>cases hsv
 |loc d off b n h=>exact .loc d off b n (by rw[Kh.cut_eq (by simpa[PV.safe0]using hs)];exact h)
 |el d sz i off b n h hi=>exact .el d sz i off b n (by rw[Kh.cut_eq (by simpa[PV.safe0]using hs)];exact h) hi
 |vw cf d e sz n b c h hc h2=>exact .vw cf d e sz n b c (by rw[Kh.cut_eq (by simpa[PV.safe0]using hs)];exact h) hc h2
 |mp d b n h=>exact .mp d b n (by rw[Kh.cut_eq (by simpa[PV.safe0]using hs)];exact h)
 |_=>simp[PV.safe0]at hs
theorem Bk.safeUp{s:PV->Bool}(hs:∀p v,s p=true->Bk w M β B p v->Bk w M β' B p v){p:PV}{v:Value}(h1:p.safeUp s=true)(h:Bk w M β B p v):Bk w M β' B p v:=by
 cases h with
 |agg l cs hl h1' hr=>exact .agg l cs hl h1' (λi p v hp hv=>hs _ _ (W2 h1 i p hp) (hr i p v hp hv))
 |aY l cs hl hr=>exact .aY l cs hl (λi p v hp hv=>hs _ _ (W2 h1 i p hp) (hr i p v hp hv))
 |bA f n l cs hl hr=>exact .bA f n l cs hl (λi p v hp hv=>hs _ _ (W2 h1 i p hp) (hr i p v hp hv))
 |ref l ad vs hm hr=>exact .ref l ad vs hm (λi p hp=>hs _ _ (W2 h1 i p hp) (hr i p hp))
 |row p sv hsv a c vs hc hsz ha hm hr=>
  cases p with
  |sl own e sz es=>
   injection hsv with hsv;subst hsv
   exact .row _ _ rfl a c vs hc hsz ha hm (λi j q hi hq=>hs _ _ (W2 (Ash h1 i) j q hq) (hr i j q hi hq))
  |aO own x=>exact(Bk.row (β := β) (B:=B) _ sv hsv a c vs hc hsz ha hm hr).flat rfl
  |_=>cases hsv
 |any v=>exact .any v
 |val v h=>exact .val v h
 |loc d off b n h=>exact hs _ _ h1 (.loc d off b n h)
 |el d sz i off b n h hi=>exact hs _ _ h1 (.el d sz i off b n h hi)
 |vw cf d e sz n b c h hc h2=>exact hs _ _ h1 (.vw cf d e sz n b c h hc h2)
 |mp d b n h=>exact hs _ _ h1 (.mp d b n h)
theorem Bk.clean{D:Nat->Bool}{p:PV}{v:Value}(h:Bk w M β B p v):Bk w M (β.cut D) B (p.clean D) v:=by
 unfold PV.clean;cases hs:p.safe D with
 |false=>exact .any v
 |true=>
  refine Bk.safeUp (s:=PV.safeUp (PV.safeUp (PV.safe0 D))) (λp v h1 h=>?_) hs h;refine Bk.safeUp (s:=PV.safeUp (PV.safe0 D)) (λp v h1 h=>?_) h1 h;exact Bk.safeUp (s:=PV.safe0 D) (λp v h1 h=>h.safe0 h1) h1 h
theorem A56{D:Nat->Bool}{p:PV}{s:SV}(h:(p.clean D).sv=some s):p.sv=some s:=by
 unfold PV.clean at h;split at h
 ·exact h
 ·cases h
theorem Atv{D:Nat->Bool}{p:PV} :(p.clean D)=p\/(p.clean D)=.any:=by
 unfold PV.clean;split
 ·exact .inl rfl
 ·exact .inr rfl
end
def tb:Value->Option Nat
 | .slice (some a) n c=>match Nat.blt n c with
  |true=>some a.block
  |false=>none
 |_=>none
theorem T2{a:Addr}{n c g:Nat}(h:tb (.slice (some a) n c)=some g):a.block=g:=by
 simp only[tb]at h;split at h
 ·injection h
 ·cases h
theorem A8c{a:Addr}{n c:Nat}(h:n<c):tb (.slice (some a) n c)=some a.block:=by
 simp only[tb,show Nat.blt n c=true from Nat.ble_eq_true_of_le h]
theorem Adq{a:Option Addr}{n g:Nat} :tb (.slice a n n)≠some g:=by
 cases a with
 |none=>intro h;cases h
 |some a=>
  have:Nat.blt n n=false:=by
   cases hb:Nat.blt n n with
   |false=>rfl
   |true=>exact absurd (Nat.le_of_ble_eq_true hb) (Nat.lt_irrefl n)
  simp only[tb,this];intro h;cases h
def Wg(w:World)(M:Jw)(B:Nat->Prop)(s:SV)(v:Value):Prop:=
 (∃a,v=.slice a s.n s.n)\/
 ∃g c cur,v=.slice (some ⟨g,0,none⟩) s.n (c+1)/\¬B g/\M g=some (s.n*s.sz)/\w.heap[g]? =some (.cells cur s.e (0,0))/\s.n<=c+1/\c+1<=maxLen/\cur.size=(c+1)*s.sz
theorem Wg.z{w:World}{M:Jw}{B:Nat->Prop}{s:SV}{v:Value}{a:Option Addr}(h:v=.slice a 0 0)(hn:s.n=0):Wg w M B s v:=.inl ⟨a,by rw[h,hn]⟩
theorem Wg.cut{w:World}{M:Jw}{B:Nat->Prop}{s:SV}{v:Value}(h:Wg w M B s v):(∃a,v=.slice a s.n s.n)\/
  ∃g c cur,v=.slice (some ⟨g,0,none⟩) s.n (c+1)/\¬B g/\M g=some (s.n*s.sz)/\w.heap[g]? =some (.cells cur s.e (0,0))/\s.n<=c+1/\c+1<=maxLen/\cur.size=(c+1)*s.sz/\tb v=some g:=by
 rcases h with h|⟨g,c,cur,h1,h2,h3,h4,h5,h6,h7⟩
 ·exact .inl h
 ·rcases Nat.lt_or_ge s.n (c+1)with h|h
  ·exact .inr ⟨g,c,cur,h1,h2,h3,h4,h5,h6,h7,by rw[h1];exact A8c h⟩
  ·exact .inl ⟨_,by rw[h1];congr 1;omega⟩
def K7(es:Array MapEntry)(clock:Nat):Prop:=(∀(i j:Nat) (ei ej:MapEntry),es[i]? =some ei->es[j]? =some ej->ei.born=ej.born->i=j)/\∀(i:Nat) (e:MapEntry),es[i]? =some e->e.born<clock
theorem K7.nil(clock:Nat):K7 #[] clock:=⟨λi j ei ej h=>by simp at h,λi e h=>by simp at h⟩
theorem K7.push{es:Array MapEntry}{clock:Nat}(h:K7 es clock)(k v:Value):K7 (es.push { key:=k,val:=v,born:=clock }) (clock+1):=by
 have old:∀(i:Nat) (e:MapEntry),(es.push { key:=k,val:=v,born:=clock })[i]? =some e->(i=es.size/\e.born=clock)\/(es[i]? =some e/\e.born<clock):=λi e he=>by
  rw[Array.getElem?_push]at he;by_cases hi:i=es.size
  ·rw[if_pos hi]at he;injection he with he;subst he;exact .inl ⟨hi,rfl⟩
  ·rw[if_neg hi]at he;exact .inr ⟨he,h.2 i e he⟩
 refine⟨λi j ei ej hi hj hb=>?_,λi e he=>?_⟩
 ·rcases old i ei hi with⟨a1,a2⟩|⟨a1,a2⟩<;>rcases old j ej hj with⟨b1,b2⟩|⟨b1,b2⟩
  ·omega
  ·omega
  ·omega
  ·exact h.1 i j ei ej a1 b1 hb
 ·rcases old i e he with⟨_,a2⟩|⟨_,a2⟩<;>omega
theorem K7.modify{es:Array MapEntry}{clock:Nat}(h:K7 es clock)(n:Nat)(k v:Value):K7 (es.modify n λe=> { e with key:=k,val:=v }) clock:=by
 have old:∀(i:Nat) (e:MapEntry),(es.modify n λe=> { e with key:=k,val:=v })[i]? =some e->∃e0,es[i]? =some e0/\e0.born=e.born:=λi e he=>by
  rw[Array.getElem?_modify]at he;split at he
  ·cases h0:es[i]? with
   |none=>rw[h0]at he;cases he
   |some e0=>rw[h0]at he;injection he with he;subst he;exact⟨e0,rfl,rfl⟩
  ·exact⟨e,he,rfl⟩
 refine⟨λi j ei ej hi hj hb=>?_,λi e he=>?_⟩
 ·obtain⟨e1,a1,a2⟩:=old i ei hi;obtain⟨e2,b1,b2⟩:=old j ej hj;exact h.1 i j e1 e2 a1 b1 (by omega)
 ·obtain⟨e1,a1,a2⟩:=old i e he;have:=h.2 i e1 a1;omega
theorem Alk(es:Array MapEntry)(n:Nat)(hn:n<es.size)(i:Nat):(es.eraseIdxIfInBounds n)[i]? =es[if i<n then i else i+1]? :=by
 unfold Array.eraseIdxIfInBounds;rw[dif_pos hn,Array.getElem?_eraseIdx];split<;>rfl
theorem K7.erase{es:Array MapEntry}{clock:Nat}(h:K7 es clock)(n:Nat)(hn:n<es.size):K7 (es.eraseIdxIfInBounds n) clock:=by
 refine⟨λi j ei ej hi hj hb=>?_,λi e he=>?_⟩
 ·rw[Alk es n hn]at hi hj;have:=h.1 _ _ ei ej hi hj hb;split at this<;>split at this<;>omega
 ·rw[Alk es n hn]at he;exact h.2 _ e he
inductive Jr (w:World) (M:Jw) (β :Kh) (B:Nat->Prop) (b n:Nat):List PV->Prop
 |cells (l:List PV) (cs:Array Value) (t:Nat) (hh:w.heap[b]? =some (.cells cs t (0,0))) (hs:l.length<=cs.size)
   (hr:∀(i:Nat) (p:PV) (v:Value),l[i]? =some p->cs[i]? =some v->Bk w M β B p v/\v.oneCell'=true):Jr w M β B b n l
 |arr (x:LX) (cs:Array Value) (t:Nat) (hh:w.heap[b]? =some (.cells cs t (0,0))) (hn:x.len=n) (hs:n*x.sz<=cs.size)
   (hr:∀(i j:Nat) (p:PV) (v:Value),i<n->(x.row i)[j]? =some p->cs[i*x.sz+j]? =some v->Bk w M β B p v/\v.oneCell'=true):Jr w M β B b n [.bG x]
 |map (gk gv:Bool) (ks vs:LX) (es:Array MapEntry) (clock:Nat) (hh:w.heap[b]? =some (.map es clock)) (hk:es.size=ks.len) (hv:vs.len=ks.len)
   (hr:∀(i:Nat) (e:MapEntry),es[i]? =some e->Bk w M β B (V2 gk (ks.row i)) e.key/\Bk w M β B (V2 gv (vs.row i)) e.val)(hbn:K7 es clock):Jr w M β B b n [.aL gk gv ks vs]
 |bV (gk gv:Bool) (ks vs:LX) (es:Array MapEntry) (clock:Nat) (hh:w.heap[b]? =some (.map es clock)) (hk:es.size=ks.len) (hv:vs.len=ks.len)
   (hr:∀(i:Nat) (e:MapEntry),es[i]? =some e->Bk w M β B (V2 gk (ks.row i)) e.key/\Bk w M β B (V2 gv (vs.row i)) e.val)(hbn:K7 es clock):Jr w M β B b n [.bV es clock gk gv ks vs]
inductive P4 (κ :Type) where
 |slot (k: κ)
 |cell (d i:Nat)
def P5{κ :Type}(H: κ->PV×Value)(O:Nat->List PV)(w:World)(β :Kh):P4 κ->SV->Value->Prop
 | .slot k,s,v=>(H k).1.dQ=some s/\s.own=true/\ohd (H k).1 (H k).2=v
 | .cell d i,s,v=>∃b n p,β d=some (b,n)/\(O d)[i]? =some p/\p.sv=some s/\s.own=true/\w.cell? ⟨b,i,none⟩=some v
theorem Bel.lt{B:D7}{w:World}(h:Bel B w){b:Nat}(hb:B.old b):b<w.heap.size:=Nat.lt_of_lt_of_le (B.lt b hb) h.size
theorem Bel.new{B:D7}{w:World}(h:Bel B w):¬B.old w.heap.size:=λhb=>Nat.lt_irrefl _ (h.lt hb)
structure Kp (B:D7) (w w':World):Prop where
 os:w'.os=w.os
 tape:w'.tape=w.tape
 output:w'.output=w.output
 size:w.heap.size<=w'.heap.size
 block:∀k,B.old k->w'.heap[k]? =w.heap[k]?
 dH:∀k,Ev.dH w k<=Ev.dH w' k
theorem Bel.trans{B:D7}{w w':World}(h:Bel B w)(k:Kp B w w'):Bel B w':=
 ⟨k.os.trans h.os,k.tape.trans h.tape,k.output.trans h.output,Nat.le_trans h.size k.size,λi hi=>(k.block i hi).trans (h.block i hi),λi=>Nat.le_trans (h.dH i) (k.dH i)⟩
theorem Kp.of{B:D7}{w w':World}(h:Bel B w)(hb:Below w.heap.size w w'):Kp B w w':=⟨hb.os,hb.tape,hb.output,hb.size,λk hk=>hb.block k (h.lt hk),Te hb⟩
def D7.all(w:World):D7:=⟨w,λb=>b<w.heap.size,λ_ h=>h⟩
theorem Bel.below{w w':World}(h:Bel (D7.all w) w'):Below w.heap.size w w':=⟨h.os,h.tape,h.output,h.size,h.block⟩
theorem Bel.of(w:World)(B:D7)(hB:B.w=w):Bel B w:=by subst hB;exact⟨rfl,rfl,rfl,Nat.le_refl _,λ_ _=>rfl,λ_=>Nat.le_refl _⟩
theorem Bel.later{B:D7}{w w':World}(h:Bel B w)(hb:Below w.heap.size w w'):Bel B w':=
 ⟨hb.os.trans h.os,hb.tape.trans h.tape,hb.output.trans h.output,Nat.le_trans h.size hb.size,λk hk=>(hb.block k (Nat.lt_of_lt_of_le (B.lt k hk) h.size)).trans (h.block k hk),λk=>Nat.le_trans (h.dH k) (Te hb k)⟩
theorem Bel.alloc{B:D7}{w:World}(h:Bel B w)(o:Obj):Bel B (w.alloc o):=h.later ((Below.refl _ w).alloc (Nat.le_refl _) o)
def Ajk(N:Jw)(B:D7):Prop:=∃M0:Jw,(∀a:Addr,imm M0 a->B.old a.block/\imm N a)/\
 (∀g x,Aub GL g=some x->B.old g/\∃v,B.w.cell? ⟨g,0,none⟩=some v/\Bk B.w M0 (λ_=>none) (λ_=>False) (.aO false x) v)/\
 ∀g vs,(g,vs)∈GA->B.old g/\∃t f,B.w.heap[g]? =some (.cells vs.toArray t f)
structure MN (B:D7) (N M:Jw):Prop where
 eq:∀b,B.old b->M b=N b
 gl:Ajk N B
instance {B:D7} {N M:Jw} :CoeFun (MN B N M) (λ_=>∀b,B.old b->M b=N b):=⟨λh=>h.eq⟩
theorem Bel.cell{B:D7}{w:World}(h:Bel B w){a:Addr}(ha:B.old a.block):w.cell? a=B.w.cell? a:=by
 unfold World.cell?;rw[h.block _ ha]
theorem Ajk.here{B:D7}{N M:Jw}{w:World}(h:Ajk N B)(hb:Bel B w)(hM:∀b,B.old b->M b=N b)(β :Kh)(old:Nat->Prop){g:Nat}{x:LX}(hg:Aub GL g=some x):
  B.old g/\∃v,w.cell? ⟨g,0,none⟩=some v/\Bk w M β old (.aO false x) v:=by
 obtain⟨M0,h1,h2,_⟩:=h;obtain⟨q1,v,q2,q3⟩:=h2 g x hg;refine⟨q1,v,by rw[hb.cell q1];exact q2,?_⟩;exact Bk.flat (Bk.ext (β':=λ_=>none) (λa u hi hc=>⟨λn hn=>(h1 a hi).2 n (by rw[<-hM _ (h1 a hi).1];exact hn),by rw[hb.cell (h1 a hi).1];exact hc⟩) (λa ha=>ha.elim) (λ_ _ e=>e) (λ_ _ _ e=>by cases e) q3) rfl
theorem Ajk.to{B:D7}{N M:Jw}{w:World}(h:Ajk N B)(hb:Bel B w)(hM:∀b,B.old b->M b=N b)(B':D7)(hw:B'.w=w)(ho:∀b,B.old b->B'.old b):Ajk M B':=by
 subst hw;obtain⟨M0,h1,h2,h3⟩:=h;refine⟨M0,λa hi=>⟨ho _ (h1 a hi).1,λn hn=>(h1 a hi).2 n (by rw[<-hM _ (h1 a hi).1];exact hn)⟩,λg x hg=>?_,λg vs hg=>⟨ho _ (h3 g vs hg).1,let ⟨t,f,hv⟩:=(h3 g vs hg).2;⟨t,f,(hb.block _ (h3 g vs hg).1).trans hv⟩⟩⟩;obtain⟨q1,v,q2,q3⟩:=h2 g x hg;exact⟨ho _ q1,v,(hb.cell q1).trans q2,Bk.ext (λa u hi hc=>⟨hi,by rw[<-hc];exact hb.cell (h1 a hi).1⟩) (λa ha=>ha.elim) (λ_ _ e=>e) (λ_ _ _ e=>by cases e) q3⟩
theorem Ajk.arr{B:D7}{N M:Jw}{w:World}(h:Ajk N B)(hb:Bel B w){g:Nat}{vs:List Value}(hg:(g,vs)∈GA):B.old g/\∃t f,w.heap[g]? =some (.cells vs.toArray t f):=by
 obtain⟨M0,h1,h2,h3⟩:=h;exact⟨(h3 g vs hg).1,let ⟨t,f,hv⟩:=(h3 g vs hg).2;⟨t,f,(hb.block _ (h3 g vs hg).1).trans hv⟩⟩
theorem Ajk.all{B:D7}{N M:Jw}{w:World}(h:Ajk N B)(hb:Bel B w)(hM:∀b,B.old b->M b=N b):Ajk M (D7.all w):=h.to hb hM _ rfl λ_ ho=>hb.lt ho
structure SH {κ :Type} (H: κ->PV×Value) (w0:D7) (N:Jw) (O:Nat->List PV) (D:Nat->Bool) (w:World) (M:Jw) (β :Kh):Prop where
 bS:Bel w0 w
 mN:MN w0 N M
 mlt:∀b n,M b=some n->b<w.heap.size
 box:∀d b n,β d=some (b,n)->¬w0.old b/\M b=some 0/\Jr w M β w0.old b n (O d)
 inj:∀d d' b n n',β d=some (b,n)->β d'=some (b,n')->d=d'\/O d= []\/O d'= []
 dom:∀d,D d=true->β d=none
 reg:∀k,Bk w M β w0.old (H k).1 (H k).2
 tok:∀key s v,P5 H O w β key s v->Wg w M w0.old s v
 bX:∀key key' s s' v v' g,P5 H O w β key s v->P5 H O w β key' s' v'->key≠key'->tb v=some g->tb v'≠some g
 bH:∀key s v g d n,P5 H O w β key s v->tb v=some g->β d≠some (g,n)
section
variable {κ κ':Type} {H: κ->PV×Value} {H': κ'->PV×Value} {w0:D7} {w w':World} {N M M':Jw} {O O':Nat->List PV} {D D':Nat->Bool} {β β':Kh}
theorem SH.perm(h:SH H w0 N O D w M β)(hr:∀k,Bk w M β w0.old (H' k).1 (H' k).2)(hbox:∀d b n,β d=some (b,n)->Jr w M β w0.old b n (O' d))(hD:∀d,D' d=true->β d=none)
  (φ :P4 κ'->Option (P4 κ))(hφ :∀key s v,P5 H' O' w β key s v->∃key',φ key=some key'/\P5 H O w β key' s v)
  (hinj:∀k k' j,φ k=some j->φ k'=some j->k=k')(hv:∀d b n,β d=some (b,n)->O d= []->O' d= []:=by intro d b n _ h;exact h):SH H' w0 N O' D' w M β :=by
 refine⟨h.bS,h.mN,h.mlt,λd b n hd=>⟨(h.box d b n hd).1,(h.box d b n hd).2.1,hbox d b n hd⟩,λd d' b n n' h1 h2=>(h.inj d d' b n n' h1 h2).imp id (Or.imp (hv d b n h1) (hv d' b n' h2)),hD,hr,?_,?_,?_⟩
 ·intro key s v ho;obtain⟨k',_,h2⟩:=hφ key s v ho;exact h.tok k' s v h2
 ·intro key key' s s' v v' g ho ho' hne hg;obtain⟨j,h1,h2⟩:=hφ key s v ho;obtain⟨j',h1',h2'⟩:=hφ key' s' v' ho';refine h.bX j j' s s' v v' g h2 h2' (λe=>hne (hinj _ _ j h1 (by rw[e];exact h1'))) hg
 ·intro key s v g d n ho hg;obtain⟨j,h1,h2⟩:=hφ key s v ho;exact h.bH j s v g d n h2 hg
theorem SH.hold(h:SH H w0 N O D w M β)(hr:∀k,Bk w M β w0.old (H' k).1 (H' k).2)(g: κ'->Option κ)
  (hg:∀k s,(H' k).1.dQ=some s->s.own=true->∃j,g k=some j/\(H j).1.dQ=some s/\ohd (H j).1 (H j).2=ohd (H' k).1 (H' k).2)(hinj:∀k k' j,g k=some j->g k'=some j->k=k'):SH H' w0 N O D w M β :=by
 refine h.perm hr (λd b n hd=>(h.box d b n hd).2.2) h.dom (λkey=>match key with| .slot k=>(g k).map .slot| .cell d i=>some (.cell d i)) ?_ ?_
 ·intro key s v ho;cases key with
  |slot k=>
   obtain⟨h1,h2,h3⟩:=ho;obtain⟨j,q1,q2,q3⟩:=hg k s h1 h2;exact⟨.slot j,by simp[q1],q2,h2,by rw[q3];exact h3⟩
  |cell d i=>exact⟨.cell d i,rfl,ho⟩
 ·intro k k' j hk hk';cases k with
  |slot k=>
   cases k' with
   |slot k'=>
    simp only[Option.map_eq_some_iff]at hk hk';obtain⟨a,ha,rfl⟩:=hk;obtain⟨a',ha',e⟩:=hk';injection e with e;subst e
    rw[hinj k k' _ ha ha']
   |cell d i=>
    simp only[Option.map_eq_some_iff]at hk hk';obtain⟨a,ha,rfl⟩:=hk;cases hk'
  |cell d i=>
   cases k' with
   |slot k'=>
    simp only[Option.map_eq_some_iff]at hk hk';obtain⟨a,ha,rfl⟩:=hk';cases hk
   |cell d' i'=>injection hk with hk;injection hk' with hk';have e:=hk.trans hk'.symm;injection e with e1 e2;rw[e1,e2]
def H2(x:PV×Value)(H: κ->PV×Value):Option κ->PV×Value
 |none=>x
 |some k=>H k
theorem SH.cons(h:SH H w0 N O D w M β)(p:PV)(v:Value)(hr:Bk w M β w0.old p v)
  (ht:∀s,p.dQ=some s->s.own=true->Wg w M w0.old s (ohd p v)/\(∀key s' v' g,P5 H O w β key s' v'->tb (ohd p v)=some g->tb v'≠some g)/\(∀g d n,tb (ohd p v)=some g->β d≠some (g,n))):
  SH (H2 (p,v) H) w0 N O D w M β :=by
 have old:∀(key:P4 (Option κ)) s u,P5 (H2 (p,v) H) O w β key s u->(key=.slot none/\p.dQ=some s/\s.own=true/\ohd p v=u)\/∃key':P4 κ,P5 H O w β key' s u/\(∀key2:P4 (Option κ),P5 (H2 (p,v) H) O w β key2 s u->True)/\
   (match key' with| .slot k=>key=.slot (some k)| .cell d i=>key=.cell d i):=by
  intro key s u ho;cases key with
  |slot k=>
   cases k with
   |none=>exact .inl ⟨rfl,ho.1,ho.2.1,ho.2.2⟩
   |some k=>exact .inr ⟨.slot k,ho,λ_ _=>trivial,rfl⟩
  |cell d i=>exact .inr ⟨.cell d i,ho,λ_ _=>trivial,rfl⟩
 refine⟨h.bS,h.mN,h.mlt,h.box,h.inj,h.dom,?_,?_,?_,?_⟩
 ·intro k;cases k with
  |none=>exact hr
  |some k=>exact h.reg k
 ·intro key s u ho;rcases old key s u ho with⟨_,h1,h2,rfl⟩|⟨k',h1,_⟩
  ·exact(ht s h1 h2).1
  ·exact h.tok k' s u h1
 ·intro key key' s s' u u' g ho ho' hne hg;rcases old key s u ho with⟨e1,h1,h2,rfl⟩|⟨k1,h1,_,e1⟩
  ·rcases old key' s' u' ho' with⟨e2,_⟩|⟨k2,h2',_,e2⟩
   ·exact absurd (e1.trans e2.symm) hne
   ·exact(ht s h1 h2).2.1 k2 s' u' g h2' hg
  ·rcases old key' s' u' ho' with⟨e2,h3,h4,rfl⟩|⟨k2,h2',_,e2⟩
   ·exact λhv=>(ht s' h3 h4).2.1 k1 s u g h1 hv hg
   ·refine h.bX k1 k2 s s' u u' g h1 h2' (λe=>hne ?_) hg;subst e;cases k1<;>exact e1.trans e2.symm
 ·intro key s u g d n ho hg;rcases old key s u ho with⟨_,h1,h2,rfl⟩|⟨k',h1,_⟩
  ·exact(ht s h1 h2).2.2 g d n hg
  ·exact h.bH k' s u g d n h1 hg
theorem Rs{w:World}{x:Addr}{v:Value}(hx:w.cell? x=some v):x.block<w.heap.size:=by
 unfold World.cell? at hx;rcases Nat.lt_or_ge x.block w.heap.size with h1|h1
 ·exact h1
 ·rw[Array.getElem?_eq_none h1]at hx;simp at hx
theorem Jr.ext{B B':Nat->Prop}{b n:Nat}{l:List PV}(h:Jr w M β B b n l)(hh:w'.heap[b]? =w.heap[b]?)(hR:∀p v,Bk w M β B p v->Bk w' M' β' B' p v):Jr w' M' β' B' b n l:=by
 cases h with
 |cells l cs t q1 q2 q3=>exact .cells l cs t (by rw[hh];exact q1) q2 (λi p v hp hv=>⟨hR _ _ (q3 i p v hp hv).1,(q3 i p v hp hv).2⟩)
 |arr x cs t q1 q2 q3 q4=>exact .arr x cs t (by rw[hh];exact q1) q2 q3 (λi j p v hi hp hv=>⟨hR _ _ (q4 i j p v hi hp hv).1,(q4 i j p v hi hp hv).2⟩)
 |map gk gv ks vs es clock q1 q2 q3 q4 q5=>exact .map gk gv ks vs es clock (by rw[hh];exact q1) q2 q3 (λi e he=>⟨hR _ _ (q4 i e he).1,hR _ _ (q4 i e he).2⟩) q5
 |bV gk gv ks vs es clock q1 q2 q3 q4 q5=>exact .bV gk gv ks vs es clock (by rw[hh];exact q1) q2 q3 (λi e he=>⟨hR _ _ (q4 i e he).1,hR _ _ (q4 i e he).2⟩) q5
theorem Wg.ext{B:Nat->Prop}{s:SV}{v:Value}(h:Wg w M B s v)(hh:∀g,tb v=some g->w'.heap[g]? =w.heap[g]? /\M' g=M g):Wg w' M' B s v:=by
 rcases h.cut with h|⟨g,c,cur,h1,h2,h3,h4,h5,h6,h7,h8⟩
 ·exact .inl h
 ·have:=hh g h8;exact .inr ⟨g,c,cur,h1,h2,by rw[this.2];exact h3,by rw[this.1];exact h4,h5,h6,h7⟩
theorem Wg.lt{B:Nat->Prop}{s:SV}{v:Value}(h:Wg w M B s v){g:Nat}(hg:tb v=some g):¬B g/\∃k,M g=some k:=by
 rcases h with⟨a,h⟩|⟨g',c,cur,h1,h2,h3,_⟩
 ·rw[h]at hg;exact absurd hg Adq
 ·rw[h1]at hg;have:g'=g:=T2 hg;subst this;exact⟨h2,_,h3⟩
theorem SH.world(h:SH H w0 N O D w M β)(hb:Below w.heap.size w w'):SH H w0 N O D w' M β :=by
 have hc:∀(x:Addr) v,w.cell? x=some v->w'.cell? x=some v:=λx v hv=>by rw[hb.cell (Rs hv)];exact hv
 have hE:Ext w M w' M:=λx v hi hv=>⟨hi,hc x v hv⟩;have hle:w0.w.heap.size<=w.heap.size:=h.bS.size;have hR:∀p v,Bk w M β w0.old p v->Bk w' M β w0.old p v:=λp v hr=>hr.ext hE (λx hx=>hb.cell (Nat.lt_of_lt_of_le (w0.lt _ hx) hle)) (λ_ _ h=>h) (λ_ b _ _=>Te hb b);have hO:∀key s v,P5 H O w' β key s v->P5 H O w β key s v:=by
  intro key s v ho;cases key with
  |slot k=>exact ho
  |cell d i=>
   obtain⟨b,n,p,h1,h2,h3,h4,h5⟩:=ho;have hbl:=h.mlt b 0 (h.box d b n h1).2.1;exact⟨b,n,p,h1,h2,h3,h4,by rw[<-hb.cell (p:=⟨b,i,none⟩) hbl];exact h5⟩
 refine⟨h.bS.later hb,h.mN,λb n hn=>Nat.lt_of_lt_of_le (h.mlt b n hn) hb.size,?_,h.inj,h.dom,λk=>hR _ _ (h.reg k),?_,?_,?_⟩
 ·intro d b n hd;obtain⟨h1,h2,h3⟩:=h.box d b n hd;exact⟨h1,h2,h3.ext (hb.block b (h.mlt b 0 h2)) hR⟩
 ·intro key s v ho;have ht:=h.tok key s v (hO _ _ _ ho);exact ht.ext (λg hg=>⟨hb.block g (let ⟨_,k,hk⟩:=ht.lt hg;h.mlt g k hk),rfl⟩)
 ·intro key key' s s' v v' g ho ho';exact h.bX key key' s s' v v' g (hO _ _ _ ho) (hO _ _ _ ho')
 ·intro key s v g d n ho;exact h.bH key s v g d n (hO _ _ _ ho)
theorem SH.drawn(h:SH H w0 N O D w M β):SH H w0 N O D { w with drawn:=w.drawn+1 } M β :=
 h.world ⟨rfl,rfl,rfl,Nat.le_refl _,λ_ _=>rfl⟩
end
end Go.Proofs.YtgacplpjamkieaaGreat.Ev
namespace Go.Proofs.YtgacplpjamkieaaGreat.Ev
open Go Go.RowKit
section
variable {κ κ':Type} {H: κ->PV×Value} {H': κ'->PV×Value} {w0:D7} {w w':World} {N M M':Jw} {O O':Nat->List PV} {D D':Nat->Bool} {β β':Kh}
theorem Af3(w:World)(o:Obj){x:Addr}{v:Value}(h:w.cell? x=some v):(w.alloc o).cell? x=some v:=by
 rw[World.cell?_of_block (w:=w) (Below.heap_alloc w o x.block (Rs h))];exact h
theorem SH.alloc(h:SH H w0 N O D w M β)(d n:Nat)(l:List PV)(o:Obj)(hnew:D d=true)
  (hO1:O' d=l)(hO2:∀x,x≠d->O' x=O x)(hD:∀x,D' x=true->D x=true/\x≠d)
  (hown:∀(i:Nat) (p:PV) (s:SV),l[i]? =some p->p.sv=some s->s.own=true->∀v,(w.alloc o).cell? ⟨w.heap.size,i,none⟩=some v->s.n=0/\∃a,v=.slice a 0 0)
  (hobj:∀(M':Jw) (β':Kh),(∀p v,Bk w M β w0.old p v->Bk (w.alloc o) M' β' w0.old p v)->β' d=some (w.heap.size,n)->Jr (w.alloc o) M' β' w0.old w.heap.size n l):
  ∃M' β',SH H w0 N O' D' (w.alloc o) M' β'/\β' d=some (w.heap.size,n)/\(∀p v,Bk w M β w0.old p v->Bk (w.alloc o) M' β' w0.old p v):=by
 have hβ : β d=none:=h.dom d hnew
 let M':Jw:=λb=>if b=w.heap.size then some 0 else M b
 let β':Kh:=λx=>if x=d then some (w.heap.size,n)else β x
 have hMw:M w.heap.size=none:=by
  cases hm:M w.heap.size with
  |none=>rfl
  |some n=>exact absurd (h.mlt _ _ hm) (by omega)
 have hE:Ext w M (w.alloc o) M':=λx v hi hc=>by
  have hx:=Rs hc;refine⟨λn hn=>hi n ?_,Af3 w _ hc⟩;simp only[M']at hn;rw[if_neg (by omega)]at hn;exact hn
 have hle:w0.w.heap.size<=w.heap.size:=h.bS.size;have hβb:∀x b n,β x=some (b,n)->b<w.heap.size:=λx b n hb=>h.mlt b 0 (h.box x b n hb).2.1;have hmono:∀x y,β x=some y->β' x=some y:=λx y hb=>by
  simp only[β'];by_cases e:x=d
  ·subst e;rw[hβ]at hb;cases hb
  ·rw[if_neg e];exact hb
 have hB:∀x:Addr,w0.old x.block->(w.alloc o).cell? x=w.cell? x:=λx hx=>
  World.cell?_of_block (w:=w) (Below.heap_alloc w _ x.block (h.bS.lt hx))
 have hR:∀p v,Bk w M β w0.old p v->Bk (w.alloc o) M' β' w0.old p v:=λp v hr=>hr.ext hE hB hmono (λ_ b _ _=>Te ((Below.refl _ w).alloc (Nat.le_refl _) o) b);have hd: β' d=some (w.heap.size,n):=by simp[β']
 have hOwn:∀key s v,P5 H O' (w.alloc o) β' key s v->P5 H O w β key s v\/((∃a,v=.slice a 0 0)/\s.n=0):=by
  intro key s v ho;cases key with
  |slot k=>exact .inl ho
  |cell x i=>
   obtain⟨b,m,p,h1,h2,h3,h4,h5⟩:=ho;simp only[β']at h1;by_cases e:x=d
   ·subst e;rw[if_pos rfl]at h1;injection h1 with h1
    injection h1 with h1 _
    subst h1;rw[hO1]at h2;have:=hown i p s h2 h3 h4 v h5;exact .inr ⟨this.2,this.1⟩
   ·rw[if_neg e]at h1;have hbl:=hβb x b m h1;refine .inl ⟨b,m,p,h1,by rw[<-hO2 x e];exact h2,h3,h4,?_⟩;rw[<-World.cell?_of_block (w:=w) (a:=⟨b,i,none⟩) (Below.heap_alloc w o b hbl)];exact h5
 have tb0:∀v g,(∃a,v=.slice a 0 0)->tb v=some g->False:=by
  rintro v g ⟨a,rfl⟩ hg
  exact absurd hg Adq
 refine⟨M',β',⟨h.bS.alloc _,?_,?_,?_,?_,?_,λk=>hR _ _ (h.reg k),?_,?_,?_⟩,hd,hR⟩
 ·refine⟨λb hb=>?_,h.mN.gl⟩;simp only[M'];rw[if_neg (by have:=h.bS.lt hb;omega)];exact h.mN b hb
 ·intro b n hn;simp only[M']at hn;by_cases e:b=w.heap.size
  ·subst e;simp
  ·rw[if_neg e]at hn;have:=h.mlt b n hn;simp;omega
 ·intro x b m hb;by_cases e:x=d
  ·subst e;rw[hd]at hb;injection hb with hb
   injection hb with hb hb2
   subst hb;subst hb2
   exact⟨h.bS.new,by simp[M'],by rw[hO1];exact hobj M' β' hR hd⟩
  ·simp only[β']at hb;rw[if_neg e]at hb;obtain⟨h1,h2,h3⟩:=h.box x b m hb;have hbl:=h.mlt b 0 h2;exact⟨h1,by simp only[M'];rw[if_neg (by omega)];exact h2,by rw[hO2 x e];exact h3.ext (Below.heap_alloc w _ b hbl) hR⟩
 ·intro x y b m m' hx hy;simp only[β']at hx hy;by_cases e1:x=d<;>by_cases e2:y=d
  ·exact .inl (by rw[e1,e2])
  ·rw[if_pos e1]at hx;rw[if_neg e2]at hy
   injection hx with hx;injection hx with hx _
   have:=hβb y b m' hy;exfalso;omega
  ·rw[if_neg e1]at hx;rw[if_pos e2]at hy
   injection hy with hy;injection hy with hy _
   have:=hβb x b m hx;exfalso;omega
  ·rw[if_neg e1]at hx;rw[if_neg e2]at hy
   rw[hO2 x e1,hO2 y e2];exact h.inj x y b m m' hx hy
 ·intro x hx;obtain⟨h1,h2⟩:=hD x hx;simp only[β'];rw[if_neg h2];exact h.dom x h1
 ·intro key s v ho;rcases hOwn key s v ho with ho|⟨⟨a,ha⟩,hn⟩
  ·have ht:=h.tok key s v ho;refine ht.ext (λg hg=>?_);obtain⟨_,k,hk⟩:=ht.lt hg;have hgl:=h.mlt g k hk;exact⟨Below.heap_alloc w _ g hgl,by simp only[M'];rw[if_neg (by omega)]⟩
  ·exact .z ha hn
 ·intro key key' s s' v v' g ho ho' hne hg;rcases hOwn key s v ho with ho|⟨ha,_⟩
  ·rcases hOwn key' s' v' ho' with ho'|⟨ha,_⟩
   ·exact h.bX key key' s s' v v' g ho ho' hne hg
   ·exact λhg'=>tb0 _ _ ha hg'
  ·exact(tb0 _ _ ha hg).elim
 ·intro key s v g x m ho hg;rcases hOwn key s v ho with ho|⟨ha,_⟩
  ·simp only[β'];by_cases e:x=d
   ·rw[if_pos e];intro e3;injection e3 with e3
    injection e3 with e3 _
    obtain⟨_,k,hk⟩:=(h.tok key s v ho).lt hg;have:=h.mlt g k hk;omega
   ·rw[if_neg e];exact h.bH key s v g x m ho hg
  ·exact(tb0 _ _ ha hg).elim
theorem SH.adopt(h:SH H w0 N O D w M β)(d g n:Nat)(l:List PV)(hnew:D d=true)(hgB:¬w0.old g)(hM:M g=some 0)(hbx:∀x n,β x=some (g,n)->O x= [])
  (hno:∀key s v,P5 H O w β key s v->tb v≠some g)(hO1:O' d=l)(hO2:∀x,x≠d->O' x=O x)(hD:∀x,D' x=true->D x=true/\x≠d)
  (hown:∀(i:Nat) (p:PV) (s:SV),l[i]? =some p->p.sv=some s->s.own=true->False)
  (hobj:∀(β':Kh),(∀p v,Bk w M β w0.old p v->Bk w M β' w0.old p v)->β' d=some (g,n)->Jr w M β' w0.old g n l):
  ∃β',SH H w0 N O' D' w M β'/\β' d=some (g,n):=by
 have hβ : β d=none:=h.dom d hnew
 let β':Kh:=λx=>if x=d then some (g,n)else β x
 have hmono:∀x y,β x=some y->β' x=some y:=λx y hb=>by
  simp only[β'];by_cases e:x=d
  ·subst e;rw[hβ]at hb;cases hb
  ·rw[if_neg e];exact hb
 have hR:∀p v,Bk w M β w0.old p v->Bk w M β' w0.old p v:=λp v hr=>hr.ext (Ext.refl w M) (λ_ _=>rfl) hmono (λ_ _ _ _=>Nat.le_refl _);have hd: β' d=some (g,n):=by simp[β']
 have hOwn:∀key s v,P5 H O' w β' key s v->P5 H O w β key s v:=by
  intro key s v ho;cases key with
  |slot k=>exact ho
  |cell x i=>
   obtain⟨b,m,p,h1,h2,h3,h4,h5⟩:=ho;simp only[β']at h1;by_cases e:x=d
   ·subst e;rw[hO1]at h2;exact(hown i p s h2 h3 h4).elim
   ·rw[if_neg e]at h1;exact⟨b,m,p,h1,by rw[<-hO2 x e];exact h2,h3,h4,h5⟩
 refine⟨β',⟨h.bS,h.mN,h.mlt,?_,?_,?_,λk=>hR _ _ (h.reg k),λkey s v ho=>h.tok key s v (hOwn _ _ _ ho),λkey key' s s' v v' g ho ho'=>h.bX key key' s s' v v' g (hOwn _ _ _ ho) (hOwn _ _ _ ho'),?_⟩,hd⟩
 ·intro x b m hb;by_cases e:x=d
  ·subst e;rw[hd]at hb;injection hb with hb
   injection hb with hb hb2
   subst hb;subst hb2
   exact⟨hgB,hM,by rw[hO1];exact hobj β' hR hd⟩
  ·simp only[β']at hb;rw[if_neg e]at hb;obtain⟨h1,h2,h3⟩:=h.box x b m hb;exact⟨h1,h2,by rw[hO2 x e];exact h3.ext rfl hR⟩
 ·intro x y b m m' hx hy;simp only[β']at hx hy;by_cases e1:x=d<;>by_cases e2:y=d
  ·exact .inl (by rw[e1,e2])
  ·rw[if_pos e1]at hx;rw[if_neg e2]at hy
   injection hx with hx;injection hx with hx _
   subst hx;exact .inr (.inr (by rw[hO2 y e2];exact hbx y m' hy))
  ·rw[if_neg e1]at hx;rw[if_pos e2]at hy
   injection hy with hy;injection hy with hy _
   subst hy;exact .inr (.inl (by rw[hO2 x e1];exact hbx x m hx))
  ·rw[if_neg e1]at hx;rw[if_neg e2]at hy
   rw[hO2 x e1,hO2 y e2];exact h.inj x y b m m' hx hy
 ·intro x hx;obtain⟨h1,h2⟩:=hD x hx;simp only[β'];rw[if_neg h2];exact h.dom x h1
 ·intro key s v b x m ho hg;have ho':=hOwn key s v ho;simp only[β'];by_cases e:x=d
  ·rw[if_pos e];intro e3;injection e3 with e3
   injection e3 with e3 _
   subst e3;exact hno key s v ho' hg
  ·rw[if_neg e];exact h.bH key s v b x m ho' hg
theorem SH.setObj(h:SH H w0 N O D w M β)(d b n:Nat)(hβ : β d=some (b,n))(hne:O d≠ [])(l:List PV)(hkd:∀cs t,w.heap[b]? =some (.cells cs t (0,0))->∃cs' t',w'.heap[b]? =some (.cells cs' t' (0,0)))(hO1:O' d=l)(hO2:∀x,x≠d->O' x=O x)
  (hoth:∀k,k≠b->w'.heap[k]? =w.heap[k]?)(hsz:w'.heap.size=w.heap.size)(hdl:Kp w0 w w')
  (hobj:(∀p v,Bk w M β w0.old p v->Bk w' M β w0.old p v)->Jr w' M β w0.old b n l)
  (hown:∀(i:Nat) (p:PV) (s:SV) (v:Value),l[i]? =some p->p.sv=some s->s.own=true->w'.cell? ⟨b,i,none⟩=some v->((∃q,(O d)[i]? =some q/\q.sv=some s)/\w.cell? ⟨b,i,none⟩=some v)\/(s.n=0/\∃a,v=.slice a 0 0)):
  SH H w0 N O' D w' M β/\(∀p v,Bk w M β w0.old p v->Bk w' M β w0.old p v):=by
 obtain⟨hb1,hb2,hb3⟩:=h.box d b n hβ;have hbw:b<w.heap.size:=h.mlt b 0 hb2;have hE:Ext w M w' M:=λx v hi hc=>by
  have hx:x.block≠b:=λe=>by have:=hi 0 (by rw[e];exact hb2);omega
  exact⟨hi,by rw[World.cell?_of_block (w:=w) (hoth _ hx)];exact hc⟩
 have hR:∀p v,Bk w M β w0.old p v->Bk w' M β w0.old p v:=λp v hr=>hr.ext hE (λx hx=>World.cell?_of_block (w:=w) (hoth _ (λe=>hb1 (by rw[<-e];exact hx)))) (λ_ _ h=>h) (λ_ b _ _=>hdl.dH b);have tb0:∀v g,(∃a,v=.slice a 0 0)->tb v=some g->False:=by
  rintro v g ⟨a,rfl⟩ hg
  exact absurd hg Adq
 have hOwn:∀key s v,P5 H O' w' β key s v->P5 H O w β key s v\/(s.n=0/\∃a,v=.slice a 0 0):=by
  intro key s v ho;cases key with
  |slot k=>exact .inl ho
  |cell x i=>
   obtain⟨b',m,p,h1,h2,h3,h4,h5⟩:=ho;by_cases e:x=d
   ·subst e;rw[hβ]at h1;injection h1 with h1
    injection h1 with h1 h1'
    subst h1;subst h1'
    rw[hO1]at h2;rcases hown i p s v h2 h3 h4 h5 with⟨⟨q,q1,q2⟩,q3⟩|hz
    ·exact .inl ⟨b,n,q,hβ,q1,q2,h4,q3⟩
    ·exact .inr hz
   ·have hne:b'≠b:=λe'=>(h.inj x d b' m n h1 (by rw[e'];exact hβ)).elim e λq=>q.elim (λq=>by rw[hO2 x e,q]at h2;simp at h2) hne;exact .inl ⟨b',m,p,h1,by rw[<-hO2 x e];exact h2,h3,h4,by rw[<-World.cell?_of_block (w:=w) (a:=⟨b',i,none⟩) (hoth b' hne)];exact h5⟩
 refine⟨⟨h.bS.trans hdl,h.mN,λx n hn=>by rw[hsz];exact h.mlt x n hn,?_,λx y b' m m' hx hy=>?_,h.dom,λk=>hR _ _ (h.reg k),?_,?_,?_⟩,hR⟩
 ·intro x b' m hx;by_cases e:x=d
  ·subst e;rw[hβ]at hx;injection hx with hx
   injection hx with hx hx'
   subst hx;subst hx'
   exact⟨hb1,hb2,by rw[hO1];exact hobj hR⟩
  ·obtain⟨h1,h2,h3⟩:=h.box x b' m hx;refine⟨h1,h2,?_⟩;rw[hO2 x e];by_cases e':b'=b
   ·rcases h.inj x d b' m n hx (by rw[e'];exact hβ)with q|q|q
    ·exact absurd q e
    ·rw[q]at h3 ⊢;cases h3 with
     |cells l cs t q1 q2 q3=>
      obtain⟨cs',t',q4⟩:=hkd cs t (by rw[<-e'];exact q1);exact .cells _ cs' t' (by rw[e'];exact q4) (Nat.zero_le _) (λi p v hp=>by simp at hp)
    ·exact absurd q hne
   ·exact h3.ext (hoth b' e') hR
 ·by_cases e1:x=d
  ·by_cases e2:y=d
   ·exact .inl (e1.trans e2.symm)
   ·rcases h.inj x y b' m m' hx hy with q|q|q
    ·exact .inl q
    ·exact absurd (by rw[<-e1];exact q) hne
    ·exact .inr (.inr (by rw[hO2 y e2];exact q))
  ·by_cases e2:y=d
   ·rcases h.inj x y b' m m' hx hy with q|q|q
    ·exact .inl q
    ·exact .inr (.inl (by rw[hO2 x e1];exact q))
    ·exact absurd (by rw[<-e2];exact q) hne
   ·rw[hO2 x e1,hO2 y e2];exact h.inj x y b' m m' hx hy
 ·intro key s v ho;rcases hOwn key s v ho with ho'|⟨hn,a,ha⟩
  ·refine(h.tok key s v ho').ext (λg hg=>⟨hoth g (λe=>?_),rfl⟩);exact h.bH key s v g d n ho' hg (by rw[e];exact hβ)
  ·exact .z ha hn
 ·intro key key' s s' v v' g ho ho' hne hg;rcases hOwn _ _ _ ho with q|⟨_,q⟩
  ·rcases hOwn _ _ _ ho' with q'|⟨_,q'⟩
   ·exact h.bX key key' s s' v v' g q q' hne hg
   ·exact λhg'=>tb0 _ _ q' hg'
  ·exact(tb0 _ _ q hg).elim
 ·intro key s v g x m ho hg;rcases hOwn _ _ _ ho with q|⟨_,q⟩
  ·exact h.bH key s v g x m q hg
  ·exact(tb0 _ _ q hg).elim
theorem SH.rowWrite(h:SH H w0 N O D w M β)(g k k':Nat)(cur cs:Array Value)(t:Nat)(hgB:¬w0.old g)(hM:M g=some k)(hk:k<=k')
  (hh:w.heap[g]? =some (.cells cur t (0,0)))(hcz:cur.size<=cs.size)(hsame:∀i,i<k->cs[i]? =cur[i]?)
  (hbox:∀x n,β x≠some (g,n))(hno:∀key s v,P5 H O w β key s v->tb v≠some g):
  Ext w M (w.setRow g cs) (λb=>if b=g then some k' else M b)/\SH H w0 N O D (w.setRow g cs) (λb=>if b=g then some k' else M b) β/\
  (∀p v,Bk w M β w0.old p v->Bk (w.setRow g cs) (λb=>if b=g then some k' else M b) β w0.old p v)/\
  (∀key s v,P5 H O (w.setRow g cs) β key s v->P5 H O w β key s v):=by
 have hw1:(w.setRow g cs).heap[g]? =some (.cells cs t (0,0)):=setRow_heap w g cur _ t (0,0) hh;have hoth:∀x,x≠g->(w.setRow g cs).heap[x]? =w.heap[x]? :=λx hx=>setRow_other w g x _ hx;have hsz:(w.setRow g cs).heap.size=w.heap.size:=by simp[World.setRow]
 have hgw:g<w.heap.size:=h.mlt g k hM;have hbz:∀x,dH w x<=dH (w.setRow g cs) x:=Ajx hoth (by rw[Vg hh,Vg hw1];exact hcz);have hE:Ext w M (w.setRow g cs) (λb=>if b=g then some k' else M b):=by
  intro x v hi hc;by_cases e:x.block=g
  ·have hlt:=hi k (by rw[e];exact hM);refine⟨λn hn=>?_,?_⟩
   ·rw[e]at hn;simp only[if_true]at hn;injection hn with hn;omega
   ·unfold World.cell? at hc ⊢;rw[e,hh]at hc;rw[e,hw1];simp only at hc ⊢;rw[hsame _ hlt];exact hc
  ·refine⟨λn hn=>?_,by rw[World.cell?_of_block (w:=w) (hoth _ e)];exact hc⟩;simp only[e,if_false]at hn;exact hi n hn
 have hR:∀p v,Bk w M β w0.old p v->Bk (w.setRow g cs) (λb=>if b=g then some k' else M b) β w0.old p v:=λp v hr=>hr.ext hE (λx hx=>World.cell?_of_block (w:=w) (hoth _ (λe=>hgB (by rw[<-e];exact hx)))) (λ_ _ h=>h) (λ_ b _ _=>hbz b);have hOwn:∀key s v,P5 H O (w.setRow g cs) β key s v->P5 H O w β key s v:=by
  intro key s v ho;cases key with
  |slot k=>exact ho
  |cell x i=>
   obtain⟨b',m,p,h1,h2,h3,h4,h5⟩:=ho;have hne:b'≠g:=λe=>hbox x m (by rw[h1,e]);exact⟨b',m,p,h1,h2,h3,h4,by rw[<-World.cell?_of_block (w:=w) (a:=⟨b',i,none⟩) (hoth b' hne)];exact h5⟩
 refine⟨hE,⟨h.bS.trans ⟨rfl,rfl,rfl,by omega,λx hx=>hoth x (λe=>hgB (by rw[<-e];exact hx)),hbz⟩,?_,?_,?_,h.inj,h.dom,λk=>hR _ _ (h.reg k),?_,?_,?_⟩,hR,hOwn⟩
 ·refine⟨λb hb=>?_,h.mN.gl⟩;simp only[show b≠g from λe=>hgB (by rw[<-e];exact hb),if_false];exact h.mN b hb
 ·intro b n hn;by_cases e:b=g
  ·rw[e,hsz];exact hgw
  ·simp only[e,if_false]at hn;rw[hsz];exact h.mlt b n hn
 ·intro d b m hd;have hne:b≠g:=λe=>hbox d m (by rw[hd,e]);obtain⟨h1,h2,h3⟩:=h.box d b m hd;exact⟨h1,by simp only[hne,if_false];exact h2,h3.ext (hoth b hne) hR⟩
 ·intro key s v ho;have ho':=hOwn key s v ho;refine(h.tok key s v ho').ext (λg' hg=>?_);have hne:g'≠g:=λe=>hno key s v ho' (by rw[hg,e]);exact⟨hoth g' hne,by simp only[hne,if_false]⟩
 ·intro key key' s s' v v' g ho ho';exact h.bX key key' s s' v v' g (hOwn _ _ _ ho) (hOwn _ _ _ ho')
 ·intro key s v g x m ho;exact h.bH key s v g x m (hOwn _ _ _ ho)
theorem SH.fixed(h:SH H w0 N O D w M β)(g k:Nat)(hM:M g=some 0)(hbox:∀x n,β x≠some (g,n))(hno:∀key s v,P5 H O w β key s v->tb v≠some g)(hgB:¬w0.old g):
  SH H w0 N O D w (λb=>if b=g then some k else M b) β/\(∀p v,Bk w M β w0.old p v->Bk w (λb=>if b=g then some k else M b) β w0.old p v):=by
 have hE:Ext w M w (λb=>if b=g then some k else M b):=by
  intro x v hi hc;refine⟨λn hn=>?_,hc⟩;by_cases e:x.block=g
  ·have:=hi 0 (by rw[e];exact hM);omega
  ·simp only[e,if_false]at hn;exact hi n hn
 have hR:∀p v,Bk w M β w0.old p v->Bk w (λb=>if b=g then some k else M b) β w0.old p v:=λp v hr=>hr.ext hE (λ_ _=>rfl) (λ_ _ h=>h) (λ_ _ _ _=>Nat.le_refl _);refine⟨⟨h.bS,?_,?_,?_,h.inj,h.dom,λk=>hR _ _ (h.reg k),?_,h.bX,h.bH⟩,hR⟩
 ·refine⟨λb hb=>?_,h.mN.gl⟩;simp only[show b≠g from λe=>hgB (by rw[<-e];exact hb),if_false];exact h.mN b hb
 ·intro b n hn;by_cases e:b=g
  ·rw[e];exact h.mlt g 0 hM
  ·simp only[e,if_false]at hn;exact h.mlt b n hn
 ·intro d b m hd;have hne:b≠g:=λe=>hbox d m (by rw[hd,e]);obtain⟨h1,h2,h3⟩:=h.box d b m hd;exact⟨h1,by simp only[hne,if_false];exact h2,h3.ext rfl hR⟩
 ·intro key s v ho;refine(h.tok key s v ho).ext (λg' hg=>⟨rfl,?_⟩);have hne:g'≠g:=λe=>hno key s v ho (by rw[hg,e]);simp only[hne,if_false]
theorem SH.rowNew(h:SH H w0 N O D w M β)(cs:Array Value)(t k:Nat):
  Ext w M (w.alloc (.cells cs t)) (λb=>if b=w.heap.size then some k else M b)/\SH H w0 N O D (w.alloc (.cells cs t)) (λb=>if b=w.heap.size then some k else M b) β/\
  (∀p v,Bk w M β w0.old p v->Bk (w.alloc (.cells cs t)) (λb=>if b=w.heap.size then some k else M b) β w0.old p v)/\
  (∀x n,β x≠some (w.heap.size,n))/\(∀key s v,P5 H O (w.alloc (.cells cs t)) β key s v->P5 H O w β key s v/\tb v≠some w.heap.size):=by
 have hoth:∀x,x<w.heap.size->(w.alloc (.cells cs t)).heap[x]? =w.heap[x]? :=λx hx=>Below.heap_alloc w _ x hx;have hle:w0.w.heap.size<=w.heap.size:=h.bS.size;have hE:Ext w M (w.alloc (.cells cs t)) (λb=>if b=w.heap.size then some k else M b):=λx v hi hc=>by
  have hx:=Rs hc;refine⟨λn hn=>hi n ?_,Af3 w _ hc⟩;simp only[show x.block≠w.heap.size by omega,if_false]at hn;exact hn
 have hβb:∀x b n,β x=some (b,n)->b<w.heap.size:=λx b n hb=>h.mlt b 0 (h.box x b n hb).2.1;have hR:∀p v,Bk w M β w0.old p v->Bk (w.alloc (.cells cs t)) (λb=>if b=w.heap.size then some k else M b) β w0.old p v:=λp v hr=>
  hr.ext hE (λx hx=>World.cell?_of_block (w:=w) (hoth _ (h.bS.lt hx))) (λ_ _ h=>h) (λ_ b _ _=>Te ((Below.refl _ w).alloc (Nat.le_refl _) (.cells cs t)) b)
 have hOwn:∀key s v,P5 H O (w.alloc (.cells cs t)) β key s v->P5 H O w β key s v:=by
  intro key s v ho;cases key with
  |slot k=>exact ho
  |cell x i=>
   obtain⟨b',m,p,h1,h2,h3,h4,h5⟩:=ho;exact⟨b',m,p,h1,h2,h3,h4,by rw[<-World.cell?_of_block (w:=w) (a:=⟨b',i,none⟩) (hoth b' (hβb x b' m h1))];exact h5⟩
 have hlt:∀key s v,P5 H O w β key s v->∀g,tb v=some g->g<w.heap.size:=λkey s v ho g hg=>by
  obtain⟨_,k,hk⟩:=(h.tok key s v ho).lt hg;exact h.mlt g k hk
 refine⟨hE,⟨h.bS.alloc _,?_,?_,?_,h.inj,h.dom,λk=>hR _ _ (h.reg k),?_,?_,?_⟩,hR,?_,?_⟩
 ·refine⟨λb hb=>?_,h.mN.gl⟩;simp only[show b≠w.heap.size by have:=h.bS.lt hb;omega,if_false];exact h.mN b hb
 ·intro b n hn;by_cases e:b=w.heap.size
  ·subst e;simp
  ·simp only[e,if_false]at hn;have:=h.mlt b n hn;simp;omega
 ·intro d b m hd;obtain⟨h1,h2,h3⟩:=h.box d b m hd;have hbl:=hβb d b m hd;exact⟨h1,by simp only[show b≠w.heap.size by omega,if_false];exact h2,h3.ext (hoth b hbl) hR⟩
 ·intro key s v ho;have ho':=hOwn key s v ho;refine(h.tok key s v ho').ext (λg hg=>?_);have:=hlt key s v ho' g hg;exact⟨hoth g this,by simp only[show g≠w.heap.size by omega,if_false]⟩
 ·intro key key' s s' v v' g ho ho';exact h.bX key key' s s' v v' g (hOwn _ _ _ ho) (hOwn _ _ _ ho')
 ·intro key s v g x m ho;exact h.bH key s v g x m (hOwn _ _ _ ho)
 ·intro x n hx;have:=hβb x _ n hx;omega
 ·intro key s v ho;have ho':=hOwn key s v ho;refine⟨ho',λhg=>?_⟩;have:=hlt key s v ho' _ hg;omega
end
end Go.Proofs.YtgacplpjamkieaaGreat.Ev
namespace Go.Proofs.YtgacplpjamkieaaGreat.Ev
open Go Go.RowKit
def hold{ι :Type}(cx: ι->PV×Value)(st:St)(a:Act):Nat ⊕ ι->PV×Value
 | .inl s=>(st.get s,a.tmps.getD s undef)
 | .inr i=>cx i
structure SR {ι :Type} (cx: ι->PV×Value) (w0:D7) (N:Jw) (nt:Nat) (st:St) (a:Act) (w:World) (M:Jw) (β :Kh):Prop where
 defs:a.defers= []
 nt:a.tmps.size=nt
 sh:SH (hold cx st a) w0 N st.obj (λd=>Ar d (st.ob.map Prod.fst)) w M β
theorem B3{α :Type}(d x: α)(r:List (Nat×α))(a s:Nat):B4 d ((a,x)::r) s=if a=s then x else B4 d r s:=by
 by_cases h:a=s
 ·subst h;simp[B4]
 ·have:Nat.beq a s=false:=by
   cases hb:Nat.beq a s
   ·rfl
   ·exact absurd (Nat.eq_of_beq_eq_true hb) h
  simp[B4,this,h]
theorem Be(d:Nat)(l:List Nat):Ar d l=true↔d∉l:=by
 induction l with
 |nil=>simp[Ar]
 |cons a l ih=>
  by_cases h:a=d
  ·subst h;simp[Ar]
  ·have:Nat.beq a d=false:=by
    cases hb:Nat.beq a d
    ·rfl
    ·exact absurd (Nat.eq_of_beq_eq_true hb) h
   have h':d≠a:=λe=>h e.symm;simp[Ar,this,ih,h']
theorem Gk{α :Type}(d: α)(l r:List (Nat×α))(s:Nat):B4 d (l++r) s=if s∈l.map Prod.fst then B4 d l s else B4 d r s:=by
 induction l with
 |nil=>simp
 |cons x l ih=>
  obtain⟨a,y⟩:=x;rw[List.cons_append,B3,B3,ih];by_cases h:a=s
  ·subst h;simp
  ·have:¬s=a:=λe=>h e.symm;simp only[h,if_false,List.map_cons,List.mem_cons,this,false_or]
theorem H1(l r:List Nat)(d:Nat):Ar d (l++r)=(Ar d l && Ar d r):=by
 rw[Bool.eq_iff_iff];simp[Be]
theorem Asg(K:List Nat):∀(l:List (Nat×List PV)) (d:Nat),B4 [] (rem K l) d=if d∈K then[]else B4 [] l d
 | [],d=>by simp[rem,B4]
 |(a,x)::r,d=>by
  simp only[rem];cases h:Ar a K with
  |true=>
   have ha:=(Be _ _).1 h;simp only;rw[B3,B3,Asg K r d];by_cases e:a=d
   ·subst e;simp[ha]
   ·simp[e]
  |false=>
   have ha:a∈K:=by
    have:¬Ar a K=true:=by rw[h];simp
    rw[Be]at this;exact Classical.not_not.1 this
   simp only;rw[B3,Asg K r d];by_cases e:a=d
   ·subst e;simp[ha]
   ·simp[e]
theorem Aww(K:List Nat):∀(l:List (Nat×List PV)) (d:Nat),d∈(rem K l).map Prod.fst↔d∈l.map Prod.fst/\d∉K
 | [],d=>by simp[rem]
 |(a,x)::r,d=>by
  simp only[rem];cases h:Ar a K with
  |true=>
   have ha:=(Be _ _).1 h;simp only[List.map_cons,List.mem_cons,Aww K r d];constructor
   ·rintro (rfl|⟨h1,h2⟩)
    ·exact⟨.inl rfl,ha⟩
    ·exact⟨.inr h1,h2⟩
   ·rintro ⟨h1|h1,h2⟩
    ·exact .inl h1
    ·exact .inr ⟨h1,h2⟩
  |false=>
   have ha:a∈K:=by
    have:¬Ar a K=true:=by rw[h];simp
    rw[Be]at this;exact Classical.not_not.1 this
   simp only[List.map_cons,List.mem_cons,Aww K r d];constructor
   ·rintro ⟨h1,h2⟩;exact⟨.inr h1,h2⟩
   ·rintro ⟨h1|h1,h2⟩
    ·subst h1;exact absurd ha h2
    ·exact⟨h1,h2⟩
theorem Ako{a b:List Nat}{d:Nat}(h:d∈a↔d∈b):Ar d a=Ar d b:=by
 rw[Bool.eq_iff_iff,Be,Be,h]
theorem Ks{α :Type}{d: α}(f:Nat->α):∀(keys:List Nat) (s:Nat),B4 d (keys.map λx=>(x,f x)) s=if s∈keys then f s else d:=by
 intro keys
 induction keys with
 |nil=>intro s;simp[B4]
 |cons x keys ih=>
  intro s;rw[List.map_cons,B3,ih];by_cases e:x=s
  ·subst e;simp
  ·have:¬s=x:=λe'=>e e'.symm;simp only[e,if_false,List.mem_cons,this,false_or]
theorem Ayn(d:Nat):∀(l:List Nat) (x:Nat),x∈A6z d l↔x=d\/x∈l
 | [],x=>by simp[A6z]
 |b::r,x=>by
  simp only[A6z];cases h1:Nat.blt d b with
  |true=>simp
  |false=>
   cases h2:Nat.beq d b with
   |true=>
    have:=Nat.eq_of_beq_eq_true h2;subst this;simp
   |false=>
    simp only[List.mem_cons,Ayn d r x];constructor
    ·rintro (h|h|h)
     ·exact .inr (.inl h)
     ·exact .inl h
     ·exact .inr (.inr h)
    ·rintro (h|h|h)
     ·exact .inr (.inl h)
     ·exact .inl h
     ·exact .inr (.inr h)
theorem N9:∀(l:List Nat) (x:Nat),x∈Asm l↔x∈l
 | [],x=>Iff.rfl
 |d::r,x=>by simp only[Asm,Ayn,N9 r x,List.mem_cons]
theorem Ame{α :Type}(d: α):∀(l:List (Nat×α)) (s:Nat),s∉l.map Prod.fst->B4 d l s=d
 | [],s,_=>rfl
 |(a,x)::r,s,h=>by
  rw[B3,if_neg (λe=>h (by simp[e]))];exact Ame d r s (λhs=>h (by simp at hs ⊢;exact .inr hs))
theorem Ag9(l:List (Nat×List PV))(d:Nat):(d∈(S9 l).map Prod.fst)=(d∈l.map Prod.fst):=by
 have e:(S9 l).map Prod.fst=Asm (l.map Prod.fst):=by
  unfold S9;rw[List.map_map];exact List.map_id' _
 rw[e];exact propext (N9 _ _)
theorem Aiv(l:List (Nat×List PV))(d:Nat):B4 [] (S9 l) d=B4 [] l d:=by
 unfold S9;rw[Ks];by_cases h:d∈Asm (l.map Prod.fst)
 ·rw[if_pos h]
 ·rw[if_neg h,Ame [] l d (λhm=>h ((N9 _ _).2 hm))]
theorem Amm(l:List (Nat×List PV))(d:Nat):Ar d ((S9 l).map Prod.fst)=Ar d (l.map Prod.fst):=Ako (by rw[Ag9])
theorem Aao(o l:List (Nat×List PV))(d:Nat):B4 [] (Awc o l) d=B4 [] (o++l) d:=by
 match o with
 | []=>rfl
 | [x]=>rfl
 |x::y::r=>
  show B4 [] ((x::y::r)++rem ((x::y::r).map Prod.fst) l) d=_
  rw[Gk,Gk,Asg];by_cases h:d∈(x::y::r).map Prod.fst
  ·rw[if_pos h,if_pos h]
  ·rw[if_neg h,if_neg h,if_neg h]
theorem Ag8(o l:List (Nat×List PV))(d:Nat):Ar d ((Awc o l).map Prod.fst)=Ar d ((o++l).map Prod.fst):=by
 match o with
 | []=>rfl
 | [x]=>rfl
 |x::y::r=>
  refine Ako ?_;show d∈((x::y::r)++rem ((x::y::r).map Prod.fst) l).map Prod.fst↔_
  rw[List.map_append,List.map_append,List.mem_append,List.mem_append,Aww];constructor
  ·rintro (h|⟨h,_⟩)
   ·exact .inl h
   ·exact .inr h
  ·rintro (h|h)
   ·exact .inl h
   ·by_cases e:d∈(x::y::r).map Prod.fst
    ·exact .inl e
    ·exact .inr ⟨h,e⟩
theorem Xk(a:Act)(d s:Nat)(v:Value)(hd:d<a.tmps.size):(a.put (some d) v).tmps.getD s undef=if d=s then v else a.tmps.getD s undef:=by
 simp only[Act.put,Array.getD_eq_getD_getElem?,Array.getElem?_setIfInBounds];by_cases h:d=s
 ·subst h;simp[hd]
 ·simp[h]
theorem Gc(st:St)(d s:Nat)(p:PV):(st.app ⟨[(d,p)],[]⟩).get s=if d=s then p else st.get s:=B3 _ _ _ _ _
section
variable {ι :Type} {cx: ι->PV×Value} {w0:D7} {w w':World} {N M M':Jw} {β β':Kh} {nt:Nat} {st st':St} {a:Act}
theorem SR.reg(h:SR cx w0 N nt st a w M β)(s:Nat):Bk w M β w0.old (st.get s) (a.tmps.getD s undef):=h.sh.reg (.inl s)
def Ak7(d:Nat):P4 (Nat ⊕ ι)->Option (P4 (Option (Nat ⊕ ι)))
 | .slot (.inl s)=>if d=s then some (.slot none)else some (.slot (some (.inl s)))
 | .slot (.inr i)=>some (.slot (some (.inr i)))
 | .cell x i=>some (.cell x i)
def Beu(d:Nat):P4 (Option (Nat ⊕ ι))->P4 (Nat ⊕ ι)
 | .slot none=>.slot (.inl d)
 | .slot (some k)=>.slot k
 | .cell x i=>.cell x i
theorem Aoh{d:Nat}{k:P4 (Nat ⊕ ι)}{j:P4 (Option (Nat ⊕ ι))}(h:Ak7 d k=some j):k=Beu d j:=by
 cases k with
 |slot k=>
  cases k with
  |inl s=>
   simp only[Ak7]at h;by_cases e:d=s
   ·rw[if_pos e]at h;injection h with h;subst h;rw[<-e];rfl
   ·rw[if_neg e]at h;injection h with h;subst h;rfl
  |inr i=>injection h with h;subst h;rfl
 |cell x i=>injection h with h;subst h;rfl
theorem SR.of_cons{O:Nat->List PV}{D:Nat->Bool}(hdef:a.defers= [])(hnt:a.tmps.size=nt){d:Nat}(hd:d<nt){p:PV}{v:Value}{st0:St}
  (h:SH (H2 (p,v) (hold cx st0 a)) w0 N O D w M β)(hg:∀s,st'.get s=if d=s then p else st0.get s)(hO:∀x,st'.obj x=O x)
  (hD:∀x,Ar x (st'.ob.map Prod.fst)=true->D x=true):SR cx w0 N nt st' (a.put (some d) v) w M β :=by
 have hds:d<a.tmps.size:=by rw[hnt];exact hd
 have e:st'.obj=O:=funext hO;refine⟨hdef,by simp[Act.put,hnt],?_⟩;rw[e];have hH:∀s,hold cx st' (a.put (some d) v) (.inl s)=(if d=s then p else st0.get s,if d=s then v else a.tmps.getD s undef):=λs=>by
  simp only[hold];rw[hg,Xk a d s v hds]
 refine h.perm (λk=>?_) (λd b n hb=>(h.box d b n hb).2.2) (λx hx=>h.dom x (hD x hx)) (Ak7 d) ?_ (λk k' j h1 h2=>(Aoh h1).trans (Aoh h2).symm)
 ·cases k with
  |inl s=>
   rw[hH];by_cases e:d=s
   ·simp only[e,if_true];exact h.reg none
   ·simp only[e,if_false];exact h.reg (some (.inl s))
  |inr i=>exact h.reg (some (.inr i))
 ·intro key s u ho;cases key with
  |slot k=>
   cases k with
   |inl t=>
    have ho':(hold cx st' (a.put (some d) v) (.inl t)).1.dQ=some s/\s.own=true/\ohd (hold cx st' (a.put (some d) v) (.inl t)).1 (hold cx st' (a.put (some d) v) (.inl t)).2=u:=ho;rw[hH]at ho';by_cases e:d=t
    ·refine⟨.slot none,by simp only[Ak7];rw[if_pos e],?_⟩;rw[if_pos e,if_pos e]at ho';exact ho'
    ·refine⟨.slot (some (.inl t)),by simp only[Ak7];rw[if_neg e],?_⟩;rw[if_neg e,if_neg e]at ho';exact ho'
   |inr i=>exact⟨_,rfl,ho⟩
  |cell x i=>exact⟨_,rfl,ho⟩
theorem SR.put(h:SR cx w0 N nt st a w M β)(d:Nat)(p:PV)(v:Value)(hd:d<nt)(hr:Bk w M β w0.old p v)(hn:∀s,p.dQ=some s->s.own=false):
  SR cx w0 N nt (st.app ⟨[(d,p)],[]⟩) (a.put (some d) v) w M β :=
 SR.of_cons h.defs h.nt hd (h.sh.cons p v hr (λs h1 h2=>by rw[hn s h1]at h2;cases h2)) (λs=>Gc st d s p) (λ_=>rfl) (λ_ h=>h)
theorem SR.dput(h:SR cx w0 N nt st a w M β)(d:Option Nat)(p:PV)(v:Value)(hd:∀x,d=some x->x<nt)(hr:Bk w M β w0.old p v)(hn:∀s,p.dQ=some s->s.own=false):
  SR cx w0 N nt (st.app (dput d p)) (a.put d v) w M β :=by
 cases d with
 |none=>exact h
 |some x=>exact h.put x p v (hd x rfl) hr hn
theorem SR.world(h:SR cx w0 N nt st a w M β)(hb:Below w.heap.size w w'):SR cx w0 N nt st a w' M β :=⟨h.defs,h.nt,h.sh.world hb⟩
theorem SR.drawn(h:SR cx w0 N nt st a w M β):SR cx w0 N nt st a { w with drawn:=w.drawn+1 } M β :=⟨h.defs,h.nt,h.sh.drawn⟩
theorem SR.drop(h:SR cx w0 N nt st a w M β)(s:Nat):SR cx w0 N nt (st.app ⟨[(s,(st.get s).view)],[]⟩) a w M β :=by
 refine⟨h.defs,h.nt,h.sh.hold (λk=>?_) some (λk sv h1 h2=>?_) (λk k' j h1 h2=>by injection h1 with h1;injection h2 with h2;rw[h1,h2])⟩
 ·cases k with
  |inl t=>
   simp only[hold];rw[Gc];by_cases e:s=t
   ·subst e;rw[if_pos rfl];exact(h.reg s).view
   ·rw[if_neg e];exact h.reg t
  |inr i=>exact h.sh.reg (.inr i)
 ·cases k with
  |inl t=>
   simp only[hold]at h1;rw[Gc]at h1;by_cases e:s=t
   ·rw[if_pos e]at h1;rw[Jx h1]at h2;cases h2
   ·rw[if_neg e]at h1;exact⟨_,rfl,h1,by simp only[hold];rw[Gc,if_neg e]⟩
  |inr i=>exact⟨_,rfl,h1,rfl⟩
theorem Aug{O:Nat->List PV}{s:Nat}{sv:SV}(h1:(st.get s).dQ=some sv)(h2:sv.own=true):P5 (hold cx st a) O w β (.slot (.inl s)) sv (ohd (st.get s) (a.tmps.getD s undef)):=⟨h1,h2,rfl⟩
theorem Asc{O:Nat->List PV}{s:Nat}{sv:SV}(h1:(st.get s).sv=some sv)(h2:sv.own=true):P5 (hold cx st a) O w β (.slot (.inl s)) sv (a.tmps.getD s undef):=⟨(M9 h1).1,h2,(M9 h1).2 _⟩
theorem Zk{O:Nat->List PV}{s:Nat}{key:P4 (Nat ⊕ ι)}{sv:SV}{v:Value}(h:P5 (hold cx (st.app ⟨[(s,(st.get s).view)],[]⟩) a) O w β key sv v):
  P5 (hold cx st a) O w β key sv v/\key≠ .slot (.inl s):=by
 cases key with
 |slot k=>
  cases k with
  |inl t=>
   obtain⟨h1,h2,h3⟩:=h;simp only[hold]at h1;rw[Gc]at h1;by_cases e:s=t
   ·rw[if_pos e]at h1;rw[Jx h1]at h2;cases h2
   ·simp only[hold]at h3;rw[Gc,if_neg e]at h3;rw[if_neg e]at h1;exact⟨⟨h1,h2,h3⟩,λe'=>by injection e' with e';injection e' with e';exact e e'.symm⟩
  |inr i=>exact⟨h,λe=>by injection e with e;cases e⟩
 |cell d i=>exact⟨h,λe=>by cases e⟩
theorem I5(l:List PV):∀(off:Nat) (new:List PV),(Hy l off new).length=l.length:=by
 induction l with
 |nil=>intro off new;simp[Hy]
 |cons p r ih=>
  intro off new;cases new with
  |nil=>cases off<;>simp[Hy]
  |cons q new=>
   cases off with
   |zero=>simp[Hy,ih]
   |succ n=>simp[Hy,ih]
theorem U6(l:List PV):∀(off:Nat) (new:List PV) (i:Nat),off+new.length<=l.length->
  (Hy l off new)[i]? =if off<=i/\i<off+new.length then new[i-off]? else l[i]? :=by
 induction l with
 |nil=>
  intro off new i h;have h1:off=0:=by simp at h;omega
  have h2:new= []:=List.eq_nil_of_length_eq_zero (by simp only[List.length_nil]at h;omega);subst h1;subst h2;simp[Hy]
 |cons p r ih=>
  intro off new i h;cases new with
  |nil=>
   have:Hy (p::r) off []=p::r:=by cases off<;>rfl
   rw[this,if_neg (λhh=>absurd hh.2 (by simp only[List.length_nil];omega))]
  |cons q new=>
   cases off with
   |zero=>
    have e:Hy (p::r) 0 (q::new)=q::Hy r 0 new:=rfl;rw[e];cases i with
    |zero=>simp
    |succ i=>
     rw[List.getElem?_cons_succ,ih 0 new i (by simp at h ⊢;omega)];by_cases hi:i<new.length
     ·rw[if_pos ⟨by omega,by omega⟩,if_pos ⟨by omega,by simp;omega⟩];simp
     ·rw[if_neg (by omega),if_neg (by simp;omega)];simp
   |succ n=>
    have e:Hy (p::r) (n+1) (q::new)=p::Hy r n (q::new):=rfl;rw[e];cases i with
    |zero=>rw[if_neg (by omega)];simp
    |succ i=>
     rw[List.getElem?_cons_succ,ih n (q::new) i (by simp at h ⊢;omega)];by_cases hi:n<=i/\i<n+(q::new).length
     ·rw[if_pos hi,if_pos ⟨by omega,by omega⟩]
      congr 1;omega
     ·rw[if_neg hi,if_neg (by omega)];simp
theorem W1(l:List PV):∀n,Qm l n=true↔l.length=n:=by
 induction l with
 |nil=>intro n;cases n<;>simp[Qm]
 |cons p r ih=>intro n;cases n<;>simp[Qm,ih]
theorem L6(l:List PV):∀n,Mj l n=true↔n<=l.length:=by
 induction l with
 |nil=>intro n;cases n<;>simp[Mj]
 |cons p r ih=>intro n;cases n<;>simp[Mj,ih]
theorem Awb(cs:List Value)(off:Nat)(vs:List Value)(h:off+vs.length<=cs.length)(i:Nat):
  (cs.take off++vs++cs.drop (off+vs.length))[i]? =if off<=i/\i<off+vs.length then vs[i-off]? else cs[i]? :=by
 rw[List.append_assoc];by_cases h1:i<off
 ·rw[if_neg (by omega),List.getElem?_append_left (by simp;omega),List.getElem?_take,if_pos h1]
 ·rw[List.getElem?_append_right (by simp;omega)];have hl:(cs.take off).length=off:=by simp;omega
  rw[hl];by_cases h2:i<off+vs.length
  ·rw[if_pos ⟨by omega,h2⟩,List.getElem?_append_left (by omega)]
  ·rw[if_neg (by omega),List.getElem?_append_right (by omega),List.getElem?_drop]
   congr 1;omega
def RC(w:World)(M:Jw)(β :Kh)(B:Nat->Prop)(l:List PV)(cs:Array Value):Prop:=l.length=cs.size/\∀(i:Nat) (p:PV) (v:Value),l[i]? =some p->cs[i]? =some v->Bk w M β B p v/\v.oneCell'=true
theorem A55{B:Nat->Prop}{p:PV}{v:Value}(h:Bk w M β B p v)(h1:Sx p.cells=true):
  v.cells.toList.length=p.cells.length/\(∀(i:Nat) (q:PV) (u:Value),p.cells[i]? =some q->v.cells.toList[i]? =some u->Bk w M β B q u/\u.oneCell'=true):=by
 have single:∀p v,Bk w M β B p v->p.one=true->p.cells= [p]->v.cells.toList.length=p.cells.length/\(∀(i:Nat) (q:PV) (u:Value),p.cells[i]? =some q->v.cells.toList[i]? =some u->Bk w M β B q u/\u.oneCell'=true):=by
  intro p v h h1 h2;have ho:=h.one h1;have hv:v.cells= #[v]:=by cases v<;>first|rfl|(simp[Value.oneCell']at ho)
  rw[h2,hv];refine⟨rfl,λi q u hq hu=>?_⟩;cases i with
  |zero=>simp at hq hu;subst hq;subst hu;exact⟨h,ho⟩
  |succ i=>simp at hq
 cases p with
 |agg l=>
  cases h with
  |agg l cs hl ho hr=>
   refine⟨hl.symm,λi q u hq hu=>⟨hr i q u hq hu,ho u ?_⟩⟩;exact List.mem_of_getElem? hu
  |row p s hs=>cases hs
 |any=>simp[PV.cells,Sx,PV.one]at h1
 |aY l=>simp[PV.cells,Sx,PV.one]at h1
 |ref l=>simp[PV.cells,Sx,PV.one]at h1
 |bG x=>simp[PV.cells,Sx,PV.one]at h1
 |aL _ _ _ _=>simp[PV.cells,Sx,PV.one]at h1
 |bV _ _ _ _ _ _=>simp[PV.cells,Sx,PV.one]at h1
 |val v=>exact single _ _ h (by simp only[PV.cells,Sx]at h1;split at h1;assumption;cases h1) rfl
 |_=>exact single _ _ h rfl rfl
theorem F8{l:List PV}{i:Nat}{q:PV}(h:(l.map PV.view)[i]? =some q):∃p,l[i]? =some p/\q=p.view:=by
 rw[List.getElem?_map]at h;cases hp:l[i]? with
 |none=>rw[hp]at h;cases h
 |some p=>rw[hp]at h;injection h with h;exact⟨p,rfl,h.symm⟩
theorem Tg{B:Nat->Prop}{p:PV}{v:Value}(h:Bk w M β B p v)(h1:Sx p.cells=true):
  v.cells.toList.length=(p.cells.map PV.view).length/\(∀(i:Nat) (q:PV) (u:Value),(p.cells.map PV.view)[i]? =some q->v.cells.toList[i]? =some u->Bk w M β B q u/\u.oneCell'=true):=by
 obtain⟨c1,c2⟩:=A55 h h1;refine⟨by rw[c1];simp,λi q u hq hu=>?_⟩;obtain⟨p',hp',rfl⟩:=F8 hq;obtain⟨r1,r2⟩:=c2 i p' u hp' hu;exact⟨r1.view,r2⟩
theorem SR.aM(h:SR cx w0 N nt st a w M β)(x:Operand):Bk w M β w0.old (st.aM x) (a.eval x):=by
 cases x with
 |tmp t=>exact h.reg t
 |const v=>
  show Bk w M β w0.old (match Ams v with|true=>.val v|false=>.any) v
  cases hv:Ams v with
  |true=>exact .val v (by rw[<-Awo];exact hv)
  |false=>exact .any v
 |global g=>
  show Bk w M β w0.old (match Aub GL g with|some x=>.ref [.aO false x]|none=>.any) (.pointer (some ⟨g,0,none⟩))
  cases hg:Aub GL g with
  |none=>exact .any _
  |some x=>
   obtain⟨q1,v,q2,q3⟩:=h.sh.mN.gl.here h.sh.bS h.sh.mN.eq β w0.old hg;refine .ref [.aO false x] ⟨g,0,none⟩ (λ_=>v) (λi p hp=>?_) (λi p hp=>?_)
   ·cases i with
    |zero=>rw[add_lit];exact⟨.inl q1,q2,q3.one rfl⟩
    |succ i=>simp at hp
   ·cases i with
    |zero=>injection hp with hp;subst hp;exact q3
    |succ i=>simp at hp
 |func f=>exact .bA f 0 [] [] rfl (λi p v hp=>by simp at hp)
theorem SR.valOf(h:SR cx w0 N nt st a w M β):∀(l:List Operand),g7 st l=true->∀x∈l,a.eval x=st.valOf x:=by
 intro l
 induction l with
 |nil=>intro _ x hx;cases hx
 |cons y l ih=>
  intro hl x hx;simp only[g7]at hl;split at hl
  ·rename_i v hy;rcases List.mem_cons.1 hx with e|e
   ·subst e;have:=h.aM x;rw[hy]at this;simp only[St.valOf,hy];exact this.val_eq
   ·exact ih hl x e
  ·cases hl
theorem Ayv{l:List PV}{Q:Nat->PV->Value->Prop}(h:∀(i:Nat) (p:PV),l[i]? =some p->∃v,Q i p v):
  ∃vs:List Value,vs.length=l.length/\∀(i:Nat) (p:PV) (v:Value),l[i]? =some p->vs[i]? =some v->Q i p v:=by
 induction l generalizing Q with
 |nil=>exact⟨[],rfl,λi p v hp=>by simp at hp⟩
 |cons p r ih=>
  obtain⟨v,hv⟩:=h 0 p rfl;obtain⟨vs,h1,h2⟩:=ih (Q:=λi=>Q (i+1)) (λi q hq=>h (i+1) q (by simpa using hq));refine⟨v::vs,by simp[h1],λi q u hq hu=>?_⟩;cases i with
  |zero=>simp at hq hu;subst hq;subst hu;exact hv
  |succ i=>exact h2 i q u (by simpa using hq) (by simpa using hu)
def Qy(w:World)(M:Jw)(β :Kh)(B:Nat->Prop)(ad:Addr)(l:List PV):Prop:=∀(i:Nat) (p:PV),l[i]? =some p->∃v,w.cell? (ad.add i)=some v/\Bk w M β B p v/\v.oneCell'=true
theorem Qy.views{B:Nat->Prop}{ad:Addr}{l:List PV}(h:Qy w M β B ad l):Qy w M β B ad (l.map PV.view):=λi p hp=>by
 obtain⟨q,h1,rfl⟩:=F8 hp;obtain⟨v,a,b,c⟩:=h i q h1;exact⟨v,a,b.view,c⟩
theorem Azd:∀(l:List PV),Er (l.map PV.view)=Er l:=by
 intro l
 induction l with
 |nil=>rfl
 |cons p l ih=>cases p with
  |aY k=>cases k<;>exact ih
  |_=>simp only[List.map,PV.view,Er]<;>exact ih
theorem A8f{b:Nat}{x:LX}(h:st.vobj b= [.bG x]):st.obj b= [.bG x]:=by
 unfold St.vobj at h;generalize st.obj b=l at h ⊢
 match l,h with
 | [],h=>cases h
 | [p],h=>cases p with
  |aY k=>cases k<;>cases h
  |_=>simp[PV.view]at h ⊢ <;>exact h
 |p::q::r,h=>simp at h
theorem A5h(b off sz:Nat):((st.vobj b).drop off).take sz=(((st.obj b).drop off).take sz).map PV.view:=by
 simp only[St.vobj,List.map_drop,List.map_take]
theorem A7q{B:Nat->Prop}{x:LX}{v:Value}(h:Bk w M β B (.bG x) v):False:=by
 cases h with
 |row p s hs=>cases hs
theorem Azm{B:Nat->Prop}{g1 g2:Bool}{x y:LX}{v:Value}(h:Bk w M β B (.aL g1 g2 x y) v):False:=by
 cases h with
 |row p s hs=>cases hs
theorem Azl{B:Nat->Prop}{es:Array MapEntry}{c:Nat}{g1 g2:Bool}{x y:LX}{v:Value}(h:Bk w M β B (.bV es c g1 g2 x y) v):False:=by
 cases h with
 |row p s hs=>cases hs
theorem Aqz{B:Nat->Prop}{b n:Nat}{l:List PV}{x:LX}(h:Jr w M β B b n l)(hl:l= [.bG x]):∃cs t,w.heap[b]? =some (.cells cs t (0,0))/\x.len=n/\n*x.sz<=cs.size/\
  ∀(i j:Nat) (p:PV) (v:Value),i<n->(x.row i)[j]? =some p->cs[i*x.sz+j]? =some v->Bk w M β B p v/\v.oneCell'=true:=by
 cases h with
 |cells l cs t q1 q2 q3=>
  subst hl;have hs:1<=cs.size:=q2;have:=(q3 0 _ (cs[0]'(by omega)) rfl (Array.getElem?_eq_getElem (by omega))).1;exact(A7q this).elim
 |arr y cs t q1 q2 q3 q4=>injection hl with hl;injection hl with hl;subst hl;exact⟨cs,t,q1,q2,q3,q4⟩
 |map=>injection hl with hl;cases hl
 |bV=>injection hl with hl;cases hl
theorem Awa{B:Nat->Prop}{b n:Nat}{l:List PV}{gk gv:Bool}{ks vs:LX}(h:Jr w M β B b n l)(hl:l= [.aL gk gv ks vs]):∃es clock,w.heap[b]? =some (.map es clock)/\es.size=ks.len/\vs.len=ks.len/\
  (∀(i:Nat) (e:MapEntry),es[i]? =some e->Bk w M β B (V2 gk (ks.row i)) e.key/\Bk w M β B (V2 gv (vs.row i)) e.val)/\K7 es clock:=by
 cases h with
 |cells l cs t q1 q2 q3=>
  subst hl;have hs:1<=cs.size:=q2;have:=(q3 0 _ (cs[0]'(by omega)) rfl (Array.getElem?_eq_getElem (by omega))).1;exact(Azm this).elim
 |arr=>injection hl with hl;cases hl
 |bV=>injection hl with hl;cases hl
 |map gk' gv' ks' vs' es clock q1 q2 q3 q4 q5=>injection hl with hl;injection hl with e1 e2 e3 e4;subst e1;subst e2;subst e3;subst e4;exact⟨es,clock,q1,q2,q3,q4,q5⟩
theorem Bc6{B:Nat->Prop}{b n:Nat}{l:List PV}{gk gv:Bool}{ks vs:LX}(h:Jr w M β B b n l)(hl:A22 l=some (gk,gv,ks,vs)):∃es clock,w.heap[b]? =some (.map es clock)/\es.size=ks.len/\vs.len=ks.len/\
  ∀(i:Nat) (e:MapEntry),es[i]? =some e->Bk w M β B (V2 gk (ks.row i)) e.key/\Bk w M β B (V2 gv (vs.row i)) e.val:=by
 cases h with
 |cells l cs t q1 q2 q3=>
  unfold A22 at hl;split at hl
  ·have hs:1<=cs.size:=q2;have:=(q3 0 _ (cs[0]'(by omega)) rfl (Array.getElem?_eq_getElem (by omega))).1;exact(Azm this).elim
  ·have hs:1<=cs.size:=q2;have:=(q3 0 _ (cs[0]'(by omega)) rfl (Array.getElem?_eq_getElem (by omega))).1;exact(Azl this).elim
  ·cases hl
 |arr=>cases hl
 |map gk' gv' ks' vs' es clock q1 q2 q3 q4 q5=>injection hl with hl;injection hl with e1 hl;injection hl with e2 hl;injection hl with e3 e4;subst e1;subst e2;subst e3;subst e4;exact⟨es,clock,q1,q2,q3,q4⟩
 |bV gk' gv' ks' vs' es clock q1 q2 q3 q4 q5=>injection hl with hl;injection hl with e1 hl;injection hl with e2 hl;injection hl with e3 e4;subst e1;subst e2;subst e3;subst e4;exact⟨es,clock,q1,q2,q3,q4⟩
theorem Auh:∀ {l:List PV},Er l=true->∀(i:Nat) (p:PV),l[i]? =some p->(∀x,p≠ .bG x)/\(∀g1 g2 x y,p≠ .aL g1 g2 x y)
 | [],_,i,p,h=>by simp at h
 |q::r,h,i,p,hp=>by
  have hq:(∀x,q≠ .bG x)/\(∀g1 g2 x y,q≠ .aL g1 g2 x y)/\Er r=true:=by
   cases q with
   |bG x=>cases h
   |aL a b c d=>cases h
   |bV a b c d e f=>cases h
   |_=>exact⟨λx e=>(by cases e),λa b c d e=>(by cases e),h⟩
  cases i with
  |zero=>simp at hp;subst hp;exact⟨hq.1,hq.2.1⟩
  |succ i=>exact Auh hq.2.2 i p (by simpa using hp)
theorem Aui:∀ {l:List PV},Er l=true->∀(i:Nat) (es:Array MapEntry) (c:Nat) (g1 g2:Bool) (x y:LX),l[i]? ≠some (.bV es c g1 g2 x y)
 | [],_,i,_,_,_,_,_,_,h=>by simp at h
 |q::r,h,0,_,_,_,_,_,_,e=>by injection e with e;subst e;cases h
 |q::r,h,i+1,es,c,g1,g2,x,y,e=>by
  have:Er r=true:=by cases q<;>first|exact h|cases h
  exact Aui this i es c g1 g2 x y (by simpa using e)
theorem SR.cellsAt(h:SR cx w0 N nt st a w M β){d off b n:Nat}(hβ : β d=some (b,n)){l:List PV}(hl:∀(i:Nat) (p:PV),l[i]? =some p->(st.obj d)[off+i]? =some p)(hp:Er l=true):Qy w M β w0.old ⟨b,off,none⟩ l:=by
 intro i p hp';obtain⟨_,_,h3⟩:=h.sh.box d b n hβ;have hn:=Auh hp i p hp';have hq:=hl i p hp';generalize st.obj d=od at h3 hq;cases h3 with
 |cells l cs t q1 q2 q3=>
  have hlt:off+i<cs.size:=by
   have:=(List.getElem?_eq_some_iff.1 hq).1;omega
  have hv:cs[off+i]? =some cs[off+i]:=Array.getElem?_eq_getElem hlt;refine⟨_,?_,(q3 _ p _ hq hv)⟩;rw[m7,World.cell?,q1];exact hv
 |arr x cs t q1 q2 q3 q4=>
  rw[List.getElem?_cons]at hq;split at hq
  ·injection hq with hq;exact absurd hq.symm (hn.1 x)
  ·simp at hq
 |map g1 g2 ks vs es clock q1 q2 q3 q4=>
  rw[List.getElem?_cons]at hq;split at hq
  ·injection hq with hq;exact absurd hq.symm (hn.2 _ _ _ _)
  ·simp at hq
 |bV g1 g2 ks vs es clock q1 q2 q3 q4=>
  rw[List.getElem?_cons]at hq;split at hq
  ·injection hq with hq;subst hq;exact absurd hp' (Aui hp i _ _ _ _ _ _)
  ·simp at hq
theorem j6{l:List PV}{off sz i:Nat}{p:PV}(h:((l.drop off).take sz)[i]? =some p):l[off+i]? =some p:=by
 rw[List.getElem?_take]at h;split at h
 ·rw[List.getElem?_drop]at h;exact h
 ·cases h
end
end Go.Proofs.YtgacplpjamkieaaGreat.Ev
