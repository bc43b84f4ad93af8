/-  Chapter 11, plainly: Check of the program: its parts. -/
import Derived.Test.YtofcpkmnhmnfcaaGreatRQA
import Derived.Test.YtofcpkmnhmnfcaaGreatRCA
import Derived.Test.YtofcpkmnhmnfcaaGreatRPM
namespace Go.Proofs.YtofcpkmnhmnfcaaGreatR.Ev
open Go An
set_option maxRecDepth 100000
set_option linter.unusedVariables false
set_option linter.unusedSimpArgs false
set_option linter.unnecessarySimpa false
def pvA(l:List F7)(i:Nat):Option Int:=if i=0 then none else some (l.getD (i - 1) default).At
def geq(p:Option Int)(a:Int):Bool:=match p with
 |some q=>decide (a≤q)
 |none=>false
theorem Bma(cy:Int)(p:Option Int)(c:F7)(k:List F7):A9v cy p (c::k)=if (B1 0 (cy - 1) c.At && B1 0 1000 c.Units)=false then 2 else if geq p c.At=true then 12 else A9v cy (some c.At) k:=rfl
theorem Bzy{β :Type}(l:List F7)(i:Nat)(hi:i < l.length)(hl:l.length≤maxLen)(a:Int)(A B:Option β):
  (bif decide ((i:Int) > 0) then (if (0:Int)≤B6 ((i:Int) - 1) then (if B6 ((i:Int) - 1) < ((l.length:Nat):Int) then (bif decide (a≤(l.getD (Int.toNat (B6 ((i:Int) - 1))) default).At) then A else B) else none) else none) else B)=if geq (pvA l i) a=true then A else B:=by
 have hM:=Bx
 cases i with
 |zero=>rfl
 |succ i=>
  have e:B6 (((i+1:Nat):Int) - 1)=(i:Int):=by rw [A4l (by omega)];omega
  rw [e,decide_eq_true (show ((i+1:Nat):Int) > 0 by omega),cond_true,if_pos (by omega),if_pos (by omega),toN]
  have e2:pvA l (i+1)=some (l.getD i default).At:=by unfold pvA;rw [if_neg (by omega),Nat.add_sub_cancel]
  rw [e2]
  show (bif decide (a≤(l.getD i default).At) then A else B)=if decide (a≤(l.getD i default).At)=true then A else B
  cases decide (a≤(l.getD i default).At)<;>rfl
theorem Brv{l:List F7}{i:Nat}{x:F7}{k:List F7}(h:l.drop i=x::k):pvA l (i+1)=some x.At:=by
 obtain ⟨_,h2,_⟩:=Rk h
 unfold pvA
 rw [if_neg (by omega),Nat.add_sub_cancel,h2]
theorem Ast(L:Nat)(r:Ah)(hl:r.Shift.length≤maxLen)(hc:B6 (r.Cycle - 1)=r.Cycle - 1):∀(k:List F7) (i:Nat) (v:Int),r.Shift.drop i=k→
  ∃j,Du L r k i v=some (if A9v r.Cycle (pvA r.Shift i) k=0 then (1,(v,j)) else (0,(A9v r.Cycle (pvA r.Shift i) k,j))):=by
 intro k
 induction k with
 |nil=>intro i v _;exact ⟨i,rfl⟩
 |cons x k ih=>
  intro i v h
  obtain ⟨hi,hx,hk⟩:=Rk h
  obtain ⟨j,hj⟩:=ih (i+1) v hk
  rw [Brv h] at hj
  rw [Du]
  simp only [H1,Option.bind_some,hc,Bzy r.Shift i hi hl,hj,Bma]
  rcases Bool.eq_false_or_eq_true (B1 0 (r.Cycle - 1) x.At) with hA|hA
  ·rcases Bool.eq_false_or_eq_true (B1 0 1000 x.Units) with hB|hB
   ·rcases Bool.eq_false_or_eq_true (geq (pvA r.Shift i) x.At) with hC|hC
    ·exact ⟨i,by simp [hA,hB,hC]⟩
    ·exact ⟨j,by simp [hA,hB,hC]⟩
   ·exact ⟨i,by simp [hA,hB]⟩
  ·exact ⟨i,by simp [hA]⟩
theorem cyc{c:Int}(h:B1 1 1000000000 c=true):B6 (c - 1)=c - 1:=by
 unfold B1 at h
 rw [Bool.and_eq_true,decide_eq_true_iff,decide_eq_true_iff] at h
 exact Agm (by omega) (by omega)
theorem Bmu(r:Ah):A39 r=if r.Shift.length=0 then unl (r.Cycle == 0) 1 else if 20 < r.Shift.length then 6 else if B1 1 1000000000 r.Cycle=false then 2 else A9v r.Cycle none r.Shift:=rfl
theorem B7o{α :Type}(l:List α):((l.length:Int) == 0)=decide (l.length=0):=by
 by_cases h:l.length=0
 ·simp [h]
 ·rw [decide_eq_false h,beq_false_of_ne (by omega)]
theorem gtN(n m:Nat):decide ((n:Int) > (m:Int))=decide (m < n):=decide_eq_decide.2 (by omega)
theorem Auv(L:Nat)(r:Ah)(hl:r.Shift.length≤maxLen)(hL:maxLen < L):Vs L r=some (A39 r):=by
 have e20:decide ((r.Shift.length:Int) > 20)=decide (20 < r.Shift.length):=gtN _ 20
 simp only [Ait,Rb,Mr,Vs,Rb,Mr,aN,aB,H1,Option.bind_some,B7o,e20,Bmu]
 by_cases h0:r.Shift.length=0
 ·rw [decide_eq_true h0,if_pos h0,cond_true]
  unfold unl
  by_cases hz:r.Cycle=0
  ·simp [hz]
  ·simp [ne0 hz,beq_false_of_ne hz]
 ·rw [decide_eq_false h0,if_neg h0,cond_false]
  by_cases h2:20 < r.Shift.length
  ·rw [decide_eq_true h2,if_pos h2];rfl
  ·rw [decide_eq_false h2,if_neg h2,cond_false]
   cases hr:B1 1 1000000000 r.Cycle with
   |false=>rfl
   |true=>
    obtain ⟨j,hj⟩:=Ast L r hl (cyc hr) r.Shift 0 0 rfl
    rw [An2 L r L hl (by omega),hj]
    simp only [Bool.not_true,cond_false,Option.bind_some,Bool.true_eq_false,if_false]
    have e:pvA r.Shift 0=none:=rfl
    rw [e]
    by_cases hz:A9v r.Cycle none r.Shift=0
    ·rw [if_pos hz,Sr,hz]
    ·rw [if_neg hz,Nb]
theorem A79{d:Bm}(h:Pw d≤1048576):okD d:=by
 unfold Pw at h
 have h1:=Hv (g:=fun _:Int=>1) (l:=d.Values) fun _=>Nat.le_refl 1
 have h2:=Hv (g:=fun _:Int=>1) (l:=d.Weights) fun _=>Nat.le_refl 1
 exact ⟨by omega,by omega⟩
theorem Bou(s:Aa)(f:Jq):Bfz s f=if f.Stream.size=0 then unl (Ajt f.Up Ao6 && Ajt f.Down Ao6) 1 else if s.Streams.any (fun x=>decide (x=f.Stream))=false then 5 else fE (Aym f.Up) (Aym f.Down):=rfl
theorem Auu(L:Nat)(s:Aa)(f:Jq)(hs:s.Streams.length≤maxLen)(hb:Px f≤1048576)(hL:maxLen < L):Vr L s f=some (Bfz s f):=by
 unfold Px at hb
 have h1:okD f.Up:=A79 (by omega)
 have h2:okD f.Down:=A79 (by omega)
 simp only [v5,Vr,aN,aB,Jo,Bk7,Ak6 L f.Up _ h1 hL,Ak6 L f.Down _ h2 hL,Aia L f.Up h1 hL,Aia L f.Down h2 hL,Xi L _ _ hs hL,Option.bind_some,Bou]
 have hz:(⟨0,0,0,0,[],[]⟩:Bm)=Ao6:=rfl
 rw [hz]
 by_cases h0:f.Stream.size=0
 ·simp only [h0,decide_true,cond_true,if_true]
  cases Ajt f.Up Ao6<;>cases Ajt f.Down Ao6<;>rfl
 ·simp only [h0,decide_false,cond_false,if_false]
  cases s.Streams.any (fun x=>decide (x=f.Stream)) with
  |false=>rfl
  |true=>
   simp only [Bool.not_true,cond_false,Bool.true_eq_false,if_false]
   by_cases hd:Aym f.Up=0
   ·simp [hd,v8]
   ·simp [ne0 hd,Ace hd]
theorem Bd0(L:Nat)(a b:List Ao)(ha:a.length≤1048576)(hb:b.length≤1048576)(hL:maxLen < L):J6 L [a,b]=some (a++b):=by
 have hM:=Bx
 have e1:∀n:Nat,n≤1048576→B6 (0+(n:Int))=(n:Int):=fun n hn=>by rw [Int.zero_add];exact Agm (by omega) (by omega)
 have e2:B6 ((a.length:Int)+(b.length:Int))=((a.length+b.length:Nat):Int):=by rw [Agm (by omega) (by omega)];omega
 simp only [Xh,H4,H5,F3,J6,H4,H5,F3,aN,aB,Acg L [a,b] L (by simp;omega) (by simp;omega),Ach L [a,b] L (by simp;omega) (by simp;omega),D1,D2,e1 _ ha,e2,Option.bind_some,Nb]
 rw [decide_eq_false (show¬(a.length:Int) < 0 by omega),decide_eq_false (show¬((a.length+b.length:Nat):Int) < 0 by omega)]
 simp only [cond_false,Option.bind_some,Nb,List.nil_append,List.length_nil]
 repeat rw [ifp (by omega)]
 rfl
theorem Aht(L:Nat)(n:ByteArray)(hs:okS n)(hL:maxLen < L)(ks:List ByteArray):B5a (C9 L n) n ks (tr ks)=some (k4 ks n,nx ks n,tr (nx ks n)):=
 Bwk ks (Vk L n hs (Nat.lt_of_le_of_lt hs hL))
theorem A4y{ks:List ByteArray}{n:ByteArray}{e:Int}(h:fE (k4 ks n) e=0):nx ks n=ks++ [n]:=if_pos (Apk.1 h).1
def rtB(L:Nat)(r:Ap)(x:Ao)(ks:List ByteArray)(vs:List Bool):Option (Int×List ByteArray×List Bool):=
 (Ki L x.Name r x ks vs).bind fun o=>bif o.1 != 0 then some o else (K6 L x.Type_).bind fun r4=>bif !r4 then some (1,o.2.1,o.2.2) else some (0,o.2.1,o.2.2)
theorem B0n(L:Nat)(fs:List Ao)(r:Ap)(x:Ao)(k:List Ao)(i:Nat)(v:Int)(ks:List ByteArray)(vs:List Bool):
  D9 L fs r (x::k) i v ks vs=(rtB L r x ks vs).bind fun o=>bif o.1 != 0 then some (0,(o.1,(i:Int),o.2.1,o.2.2)) else D9 L fs r k (i+1) v o.2.1 o.2.2:=by
 rw [D9,rtB]
 cases Ki L x.Name r x ks vs with
 |none=>rfl
 |some o=>
  simp only [Option.bind_some]
  by_cases h0:o.1=0
  ·simp only [h0,bne_self_eq_false,cond_false]
   cases K6 L x.Type_ with
   |none=>rfl
   |some b=>cases b<;>rfl
  ·simp only [ne0 h0,cond_true,Option.bind_some]
theorem Car(L:Nat)(r:Ap)(x:Ao)(hx:Pv x)(hL:maxLen < L)(ks:List ByteArray):
  ∃ks',rtB L r x ks (tr ks)=some (fE (k4 ks x.Name) (unl (T1 x.Type_) 1),ks',tr ks')∧(fE (k4 ks x.Name) (unl (T1 x.Type_) 1)=0→ks'=ks++ [x.Name]):=by
 refine ⟨nx ks x.Name,?_,A4y⟩
 have e:Ki L x.Name r x ks (tr ks)=some (k4 ks x.Name,nx ks x.Name,tr (nx ks x.Name)):=Aht L x.Name hx.1 hL ks
 rw [rtB,e,Option.bind_some,Afm,Option.bind_some]
 by_cases h0:k4 ks x.Name=0
 ·simp only [h0,v8]
  cases T1 x.Type_<;>rfl
 ·simp only [ne0 h0,cond_true,Ace h0]
def U5:Nat:=maxLen+4194304
theorem Vu{L:Nat}(h:U5≤L):maxLen < L:=Nat.lt_of_lt_of_le (Nat.lt_add_of_pos_right (by decide)) h
theorem Az9{L:Nat}{l:List Ad}(hL:U5≤L)(hb:Ds l≤1048576):Fu L l:=by
 have h1:=Avl l
 refine ⟨Nat.lt_of_lt_of_le ?_ hL,hb⟩
 unfold U5
 rw [Nat.add_assoc]
 exact Nat.add_lt_add_left (by omega) _
theorem Br2(r:Ap):A6c r=if 6 < r.Params.length∨16 < r.Params.length+r.Locals.length then 6 else fE (Qt (fun f:Ao=>f.Name) (fun f=>unl (T1 f.Type_) 1) [] (r.Params++r.Locals)).1 (Asy r.Body):=rfl
theorem Aoc{r:Ap}(hb:Ep r≤1048576):r.Params.length≤1048576∧r.Locals.length≤1048576∧Ds r.Body≤1048576:=by
 unfold Ep at hb
 have h1:r.Params.length≤Gh Py r.Params:=Hv fun x=>by unfold Py;omega
 have h2:r.Locals.length≤Gh Py r.Locals:=Hv fun x=>by unfold Py;omega
 rw [Ow]
 exact ⟨by omega,by omega,by omega⟩
theorem Awt(L:Nat)(r:Ap)(hr:Lj r)(hb:Ep r≤1048576)(hL:U5≤L):X3 L r=some (A6c r):=by
 have hM:=Bx
 obtain ⟨b1,b2,b3⟩:=Aoc hb
 have hL':maxLen < L:=Vu hL
 have e1:decide ((r.Params.length:Int) > 6)=decide (6 < r.Params.length):=gtN _ 6
 have e2:B6 ((r.Params.length:Int)+(r.Locals.length:Int))=((r.Params.length+r.Locals.length:Nat):Int):=by rw [Agm (by omega) (by omega)];omega
 have e3:decide (((r.Params.length+r.Locals.length:Nat):Int) > 16)=decide (16 < r.Params.length+r.Locals.length):=gtN _ 16
 have c1:=Bd0 L r.Params r.Locals b1 b2 hL'
 have c2:=Aqw (show∀y∈r.Body,Ct y from hr.2.2.2.2) L (Az9 hL b3)
 simp only [Alk,Sz,Oa,X3,Sz,Oa,aN,aB,e1,e2,e3,Zl,Br2]
 by_cases h0:6 < r.Params.length∨16 < r.Params.length+r.Locals.length
 ·rw [if_pos h0]
  have:(decide (6 < r.Params.length) || decide (16 < r.Params.length+r.Locals.length))=true:=by simpa using h0
  rw [this];rfl
 ·rw [if_neg h0]
  have:(decide (6 < r.Params.length) || decide (16 < r.Params.length+r.Locals.length))=false:=by simpa using h0
  rw [this,cond_false,c1,Option.bind_some,Apq L _ r L (by simp;omega) (by simp;omega)]
  obtain ⟨j,ks',hj,_⟩:=Boq (nm:=fun f:Ao=>f.Name) (f:=fun f=>unl (T1 f.Type_) 1) (lq:=D9 L (r.Params++r.Locals) r) (bd:=rtB L r) (fun _ _ _ _=>rfl) (B0n L _ r) (r.Params++r.Locals) 0 0 [] (fun x hx ks=>Car L r x (by
   rcases List.mem_append.1 hx with h|h
   ·exact hr.2.1.2 x h
   ·exact hr.2.2.1.2 x h) hL' ks)
  have hj':D9 L (r.Params++r.Locals) r (r.Params++r.Locals) 0 0 [] []=_:=hj
  rw [hj',Option.bind_some]
  by_cases hz:(Qt (fun f:Ao=>f.Name) (fun f=>unl (T1 f.Type_) 1) [] (r.Params++r.Locals)).1=0
  ·rw [if_pos hz,Sr,hz,v8,c2];rfl
  ·rw [if_neg hz,Nb,Ace hz]
def A17(p:List Ao)(a:List Int):Bool:=(p.zip a).all fun q=>Aeu q.1.Type_ q.2
theorem Bm1(s:Aa)(d:Bt):Beo s d=match s.Routines.find? fun r=>decide (r.Name=d.Routine) with
 |none=>5
 |some r=>if d.Args.length≠r.Params.length then 8 else if A17 r.Params d.Args=false then 2
  else unl (B1 0 1000000000 d.At && B1 0 1000000000 d.Every && B1 0 1000000000 d.Until && (d.Every != 0 || d.Until == 0)) 2:=rfl
theorem Azv(L:Nat)(s:Aa)(n:Nat)(d:Bt)(p:List Ao)(hp:(s.Routines.getD n default).Params=p):∀(k:List Int) (i:Nat) (v:Int),i+k.length=p.length→
  ∃j,Ip L s (n:Int) d k i v=some (if A17 (p.drop i) k=true then (1,(v,j)) else (0,(2,j))):=by
 intro k
 induction k with
 |nil=>intro i v _;exact ⟨i,by unfold A17;simp [Ip]⟩
 |cons x k ih=>
  intro i v h
  rw [List.length_cons] at h
  have hi:i < p.length:=by omega
  obtain ⟨j,hj⟩:=ih (i+1) v (by omega)
  rw [Ip]
  simp only [toN,hp,Qu hi,if_true,Aib,Option.bind_some,hj]
  have e:A17 (p.drop i) (x::k)=(Aeu (p.getD i default).Type_ x && A17 (p.drop (i+1)) k):=by
   unfold A17
   rw [Aty p i hi,List.zip_cons_cons,List.all_cons]
  rw [e]
  cases Aeu (p.getD i default).Type_ x with
  |false=>exact ⟨i,rfl⟩
  |true=>exact ⟨j,by simp⟩
theorem A3k(L:Nat)(s:Aa)(d:Bt)(hs:s.Routines.length≤maxLen)(hd:d.Args.length≤maxLen)(hL:maxLen < L):Tr L s d=some (Beo s d):=by
 have hM:=Bx
 simp only [Ap9,Xc,R5,Tr,Xc,R5,aN,aB,Rp L s d.Routine hs (by omega),Option.bind_some,Aco,Ana,Bm1,Aiz]
 cases hf:s.Routines.findIdx? (fun x=>decide (x.Name=d.Routine)) with
 |none=>rfl
 |some i=>
  have hi:=Akx hf
  simp only [Option.isNone_some,cond_false,Sf,nn,if_true,Qu hi,toN,Option.map_some]
  by_cases hn:d.Args.length=(s.Routines.getD i default).Params.length
  ·rw [if_neg (by simpa using hn)]
   have:((d.Args.length:Int) != ((s.Routines.getD i default).Params.length:Int))=false:=by rw [hn];simp
   rw [this,cond_false,Aul L s _ d L hd (by omega)]
   obtain ⟨j,hj⟩:=Azv L s i d _ rfl d.Args 0 0 (by omega)
   rw [hj,Option.bind_some,List.drop_zero]
   cases A17 (s.Routines.getD i default).Params d.Args with
   |false=>rfl
   |true=>
    simp only [if_true,Sr,H1,Option.bind_some,Bool.true_eq_false,if_false]
    cases B1 0 1000000000 d.At<;>cases B1 0 1000000000 d.Every<;>cases B1 0 1000000000 d.Until<;>try rfl
    by_cases h1:d.Every=0<;>by_cases h2:d.Until=0<;>simp [h1,h2,unl,ne0,beq_false_of_ne]
  ·rw [if_pos (by simpa using hn)]
   have:((d.Args.length:Int) != ((s.Routines.getD i default).Params.length:Int))=true:=bne_iff_ne.2 (by omega)
   rw [this];rfl
theorem A3x(L:Nat)(l:List Ar)(s:Aa)(t:Ay):∀(k:List Ar) (i:Nat) (v:Int),Mk L l s t k i v=some (match k.findIdx? (fun x=>x.Name.toList == t.Name.toList) with|some j=>(0,(((i+j:Nat):Int),((i+j:Nat):Int)))|none=>(1,(v,((i+k.length:Nat):Int)))):=by
 intro k
 induction k with
 |nil=>intro i v;rfl
 |cons x k ih=>
  intro i v
  rw [Mk,ih,List.findIdx?_cons]
  cases hc:x.Name.toList == t.Name.toList with
  |true=>simp only [cond_true,if_true];rfl
  |false=>
   simp only [cond_false,if_false,Bool.false_eq_true]
   cases k.findIdx? (fun x=>x.Name.toList == t.Name.toList) with
   |some j=>simp [Nat.add_assoc,Nat.add_comm 1]
   |none=>simp [Nat.add_assoc,Nat.add_comm 1]
theorem Asr(L:Nat)(l:List Ar)(s:Aa)(t:Ay)(hl:l.length≤maxLen)(hL:maxLen < L):Eo L l s t=some (Sf (l.findIdx? fun x=>decide (x.Name=t.Name))):=by
 simp only [Eo,Alt,Yy,aN,aB,Awj L l s t L hl (by omega),A3x,Jo,Option.bind_some]
 cases l.findIdx? (fun x=>decide (x.Name=t.Name)) with
 |none=>rfl
 |some i=>simp [Sf,Nb]
theorem Btt(s:Aa)(t:Ay):X2 s t=if A4m t.What=0 then 1
 else if (if A4m t.What=1 then s.Routines.any (fun r=>decide (r.Name=t.Name)) else if A4m t.What=2 then s.Stores.any (fun x=>decide (x.Name=t.Name)) else s.Counts.any (fun x=>decide (x=t.Name)))=false then 5
 else Bfs t:=rfl
theorem B47(t:Ay)(b:Bool):(bif !b then some (5:Int) else bif !B1 (-1000) 1000 t.Coef || t.Coef == 0 then some 2 else some 0)=some (if b=false then 5 else Bfs t):=by
 cases b with
 |false=>rfl
 |true=>
  unfold Bfs unl
  simp only [Bool.not_true,cond_false,Bool.true_eq_false,if_false]
  by_cases h:t.Coef=0<;>cases B1 (-1000) 1000 t.Coef<;>simp [h,ne0,beq_false_of_ne]
def wd1:ByteArray:=⟨#[99,114,101,97,116,101,100]⟩
theorem Cif:(⟨#[99,114,101,97,116,101,100]⟩:ByteArray)=wd1:=rfl
def wd2:ByteArray:=⟨#[101,110,100,101,100]⟩
theorem Cig:(⟨#[101,110,100,101,100]⟩:ByteArray)=wd2:=rfl
def wd3:ByteArray:=⟨#[105,110,115,105,100,101]⟩
theorem Cih:(⟨#[105,110,115,105,100,101]⟩:ByteArray)=wd3:=rfl
def wd4:ByteArray:=⟨#[115,116,111,114,101,100]⟩
theorem Cii:(⟨#[115,116,111,114,101,100]⟩:ByteArray)=wd4:=rfl
def wd5:ByteArray:=⟨#[101,110,116,101,114,101,100]⟩
theorem Cij:(⟨#[101,110,116,101,114,101,100]⟩:ByteArray)=wd5:=rfl
def wd6:ByteArray:=⟨#[108,101,102,116]⟩
theorem Cik:(⟨#[108,101,102,116]⟩:ByteArray)=wd6:=rfl
def wd7:ByteArray:=⟨#[99,111,117,110,116,101,100]⟩
theorem Cil:(⟨#[99,111,117,110,116,101,100]⟩:ByteArray)=wd7:=rfl
theorem wdn:¬wd2=wd1∧¬wd3=wd1∧¬wd3=wd2∧¬wd4=wd1∧¬wd4=wd2∧¬wd4=wd3∧¬wd5=wd1∧¬wd5=wd2∧¬wd5=wd3∧¬wd5=wd4∧¬wd6=wd1∧¬wd6=wd2∧¬wd6=wd3∧¬wd6=wd4∧¬wd6=wd5∧¬wd7=wd1∧¬wd7=wd2∧¬wd7=wd3∧¬wd7=wd4∧¬wd7=wd5∧¬wd7=wd6:=by decide
theorem Bty(w:ByteArray):A4m w=if w=wd1∨w=wd2∨w=wd3 then 1 else if w=wd4∨w=wd5∨w=wd6 then 2 else if w=wd7 then 3 else 0:=rfl
theorem A45(L:Nat)(s:Aa)(t:Ay)(h:Ajp s maxLen)(hL:maxLen < L):Vt L s t=some (X2 s t):=by
 have hM:=Bx
 obtain ⟨_,_,h2,_,_,_,_,_,h8,h9⟩:=h
 have hR:decide (Aco s t.Name≥0)=s.Routines.any (fun x=>decide (x.Name=t.Name)):=Apa _ _
 simp only [Atm,Y3,Td,Te,Tf,Tg,Th,Ti,Tj,R6,R7,Vt,Y3,Td,Te,Tf,Tg,Th,Ti,Tj,R6,R7,aN,aB,Jo,Rp L s t.Name h9 (by omega),Asr L _ s t h2 hL,Xi L _ t.Name h8 hL,H1,Option.bind_some,hR,Apa,Zl,B47,Btt,Bty]
 simp only [Cif,Cig,Cih,Cii,Cij,Cik,Cil]
 by_cases c1:t.What=wd1
 ·simp [c1]
 by_cases c2:t.What=wd2
 ·simp [c1,c2,wdn]
 by_cases c3:t.What=wd3
 ·simp [c1,c2,c3,wdn]
 by_cases c4:t.What=wd4
 ·simp [c1,c2,c3,c4,wdn]
 by_cases c5:t.What=wd5
 ·simp [c1,c2,c3,c4,c5,wdn]
 by_cases c6:t.What=wd6
 ·simp [c1,c2,c3,c4,c5,c6,wdn]
 by_cases c7:t.What=wd7
 ·simp [c1,c2,c3,c4,c5,c6,c7,wdn]
 ·simp [c1,c2,c3,c4,c5,c6,c7]
end Go.Proofs.YtofcpkmnhmnfcaaGreatR.Ev
