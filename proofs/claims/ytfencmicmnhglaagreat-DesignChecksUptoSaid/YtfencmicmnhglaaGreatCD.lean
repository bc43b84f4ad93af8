/-  Chapter 11, plainly: Check of the program: its parts. -/
import Derived.Test.YtfencmicmnhglaaGreatQA
import Derived.Test.YtfencmicmnhglaaGreatCA
import Derived.Test.YtfencmicmnhglaaGreatPM
namespace Go.Proofs.YtfencmicmnhglaaGreat.Ev
open Go An
set_option maxRecDepth 100000
set_option linter.unusedVariables false
set_option linter.unusedSimpArgs false
set_option linter.unnecessarySimpa false
def pvA(l:List Cx)(i:Nat):Option Int:=if i=0 then none else some (l.getD (i - 1) default).At
def geq(p:Option Int)(a:Int):Bool:=match p with
 |some q=>decide (a≤q)
 |none=>false
theorem Bac(cy:Int)(p:Option Int)(c:Cx)(k:List Cx):A5t cy p (c::k)=if (Br 0 (cy - 1) c.At && Br 0 1000 c.Units)=false then 2 else if geq p c.At=true then 12 else A5t cy (some c.At) k:=rfl
theorem Bqe{β :Type}(l:List Cx)(i:Nat)(hi:i < l.length)(hl:l.length≤maxLen)(a:Int)(A B:Option β):
  (bif decide ((i:Int) > 0) then (if (0:Int)≤Cq ((i:Int) - 1) then (if Cq ((i:Int) - 1) < ((l.length:Nat):Int) then (bif decide (a≤(l.getD (Int.toNat (Cq ((i:Int) - 1))) default).At) then A else B) else none) else none) else B)=if geq (pvA l i) a=true then A else B:=by
 have hM:=Bd
 cases i with
 |zero=>rfl
 |succ i=>
  have e:Cq (((i+1:Nat):Int) - 1)=(i:Int):=by rw [Akk (by omega)];omega
  rw [e,decide_eq_true (show ((i+1:Nat):Int) > 0 by omega),cond_true,if_pos (by omega),if_pos (by omega),toN]
  have e2:pvA l (i+1)=some (l.getD i default).At:=by unfold pvA;rw [if_neg (by omega),Nat.add_sub_cancel]
  rw [e2]
  show (bif decide (a≤(l.getD i default).At) then A else B)=if decide (a≤(l.getD i default).At)=true then A else B
  cases decide (a≤(l.getD i default).At)<;>rfl
theorem Bh8{l:List Cx}{i:Nat}{x:Cx}{k:List Cx}(h:l.drop i=x::k):pvA l (i+1)=some x.At:=by
 obtain ⟨_,h2,_⟩:=Og h
 unfold pvA
 rw [if_neg (by omega),Nat.add_sub_cancel,h2]
theorem Av9(L:Nat)(r:Af)(hl:r.Shift.length≤maxLen)(hc:Cq (r.Cycle - 1)=r.Cycle - 1):∀(k:List Cx) (i:Nat) (v:Int),r.Shift.drop i=k→
  ∃j,Ee L r k i v=some (if A5t r.Cycle (pvA r.Shift i) k=0 then (1,(v,j)) else (0,(A5t r.Cycle (pvA r.Shift i) k,j))):=by
 intro k
 induction k with
 |nil=>intro i v _;exact ⟨i,rfl⟩
 |cons x k ih=>
  intro i v h
  obtain ⟨hi,hx,hk⟩:=Og h
  obtain ⟨j,hj⟩:=ih (i+1) v hk
  rw [Bh8 h] at hj
  rw [Ee]
  simp only [Il,Option.bind_some,hc,Bqe r.Shift i hi hl,hj,Bac]
  rcases Bool.eq_false_or_eq_true (Br 0 (r.Cycle - 1) x.At) with hA|hA
  ·rcases Bool.eq_false_or_eq_true (Br 0 1000 x.Units) with hB|hB
   ·rcases Bool.eq_false_or_eq_true (geq (pvA r.Shift i) x.At) with hC|hC
    ·exact ⟨i,by simp [hA,hB,hC]⟩
    ·exact ⟨j,by simp [hA,hB,hC]⟩
   ·exact ⟨i,by simp [hA,hB]⟩
  ·exact ⟨i,by simp [hA]⟩
theorem cyc{c:Int}(h:Br 1 1000000000 c=true):Cq (c - 1)=c - 1:=by
 unfold Br at h
 rw [Bool.and_eq_true,decide_eq_true_iff,decide_eq_true_iff] at h
 exact S2 (by omega) (by omega)
theorem Bbp(r:Af):Awb r=if r.Shift.length=0 then unl (r.Cycle == 0) 1 else if 20 < r.Shift.length then 6 else if Br 1 1000000000 r.Cycle=false then 2 else A5t r.Cycle none r.Shift:=rfl
theorem Bhe{α :Type}(l:List α):((l.length:Int) == 0)=decide (l.length=0):=by
 by_cases h:l.length=0
 ·simp [h]
 ·rw [decide_eq_false h,beq_false_of_ne (by omega)]
theorem gtN(n m:Nat):decide ((n:Int) > (m:Int))=decide (m < n):=decide_eq_decide.2 (by omega)
theorem Ax6(L:Nat)(r:Af)(hl:r.Shift.length≤maxLen)(hL:maxLen < L):Yh L r=some (Awb r):=by
 have e20:decide ((r.Shift.length:Int) > 20)=decide (20 < r.Shift.length):=gtN _ 20
 simp only [Am6,Ta,Ng,Yh,Ta,Ng,aN,aB,Il,Option.bind_some,Bhe,e20,Bbp]
 by_cases h0:r.Shift.length=0
 ·rw [decide_eq_true h0,if_pos h0,cond_true]
  unfold unl
  by_cases hz:r.Cycle=0
  ·simp [hz]
  ·simp [Uy hz,beq_false_of_ne hz]
 ·rw [decide_eq_false h0,if_neg h0,cond_false]
  by_cases h2:20 < r.Shift.length
  ·rw [decide_eq_true h2,if_pos h2];rfl
  ·rw [decide_eq_false h2,if_neg h2,cond_false]
   cases hr:Br 1 1000000000 r.Cycle with
   |false=>rfl
   |true=>
    obtain ⟨j,hj⟩:=Av9 L r hl (cyc hr) r.Shift 0 0 rfl
    rw [Ask L r L hl (by omega),hj]
    simp only [Bool.not_true,cond_false,Option.bind_some,Bool.true_eq_false,if_false]
    have e:pvA r.Shift 0=none:=rfl
    rw [e]
    by_cases hz:A5t r.Cycle none r.Shift=0
    ·rw [if_pos hz,Qo,hz]
    ·rw [if_neg hz,Hb]
theorem Bds{d:Bj}(h:I0 d≤1048576):okD d:=by
 unfold I0 at h
 have h1:=Jb (g:=fun _:Int=>1) (l:=d.Values) fun _=>Nat.le_refl 1
 have h2:=Jb (g:=fun _:Int=>1) (l:=d.Weights) fun _=>Nat.le_refl 1
 exact ⟨by omega,by omega⟩
theorem Bgc(s:Aa)(f:Gu):Bmy s f=if f.Stream.size=0 then unl (An8 f.Up Ahm && An8 f.Down Ahm) 1 else if s.Streams.any (fun x=>decide (x=f.Stream))=false then 5 else fE (Auf f.Up) (Auf f.Down):=rfl
theorem Ax5(L:Nat)(s:Aa)(f:Gu)(hs:s.Streams.length≤maxLen)(hb:Lk f≤1048576)(hL:maxLen < L):Yg L s f=some (Bmy s f):=by
 unfold Lk at hb
 have h1:okD f.Up:=Bds (by omega)
 have h2:okD f.Down:=Bds (by omega)
 simp only [Ad9,Yg,aN,aB,Ea,A41,Ap2 L f.Up _ h1 hL,Ap2 L f.Down _ h2 hL,Amj L f.Up h1 hL,Amj L f.Down h2 hL,Z4 L _ _ hs hL,Option.bind_some,Bgc]
 have hz:(⟨0,0,0,0,[],[]⟩:Bj)=Ahm:=rfl
 rw [hz]
 by_cases h0:f.Stream.size=0
 ·simp only [h0,decide_true,cond_true,if_true]
  cases An8 f.Up Ahm<;>cases An8 f.Down Ahm<;>rfl
 ·simp only [h0,decide_false,cond_false,if_false]
  cases s.Streams.any (fun x=>decide (x=f.Stream)) with
  |false=>rfl
  |true=>
   simp only [Bool.not_true,cond_false,Bool.true_eq_false,if_false]
   by_cases hd:Auf f.Up=0
   ·simp [hd,Rp]
   ·simp [Uy hd,Mf hd]
theorem Bkm(L:Nat)(a b:List Ap)(ha:a.length≤1048576)(hb:b.length≤1048576)(hL:maxLen < L):Kg L [a,b]=some (a++b):=by
 have hM:=Bd
 have e1:∀n:Nat,n≤1048576→Cq (0+(n:Int))=(n:Int):=fun n hn=>by rw [Int.zero_add];exact S2 (by omega) (by omega)
 have e2:Cq ((a.length:Int)+(b.length:Int))=((a.length+b.length:Nat):Int):=by rw [S2 (by omega) (by omega)];omega
 simp only [Z3,Im,Io,Gq,Kg,Im,Io,Gq,aN,aB,Ag9 L [a,b] L (by simp;omega) (by simp;omega),Aha L [a,b] L (by simp;omega) (by simp;omega),Ek,El,e1 _ ha,e2,Option.bind_some,Hb]
 rw [decide_eq_false (show¬(a.length:Int) < 0 by omega),decide_eq_false (show¬((a.length+b.length:Nat):Int) < 0 by omega)]
 simp only [cond_false,Option.bind_some,Hb,List.nil_append,List.length_nil]
 repeat rw [ifp (by omega)]
 rfl
theorem Al9(L:Nat)(n:ByteArray)(hs:okS n)(hL:maxLen < L)(ks:List ByteArray):Ca9 (Dp L n) n ks (tr ks)=some (Wv ks n,nx ks n,tr (nx ks n)):=
 B2b ks (Xd L n hs (Nat.lt_of_le_of_lt hs hL))
theorem A83{ks:List ByteArray}{n:ByteArray}{e:Int}(h:fE (Wv ks n) e=0):nx ks n=ks++ [n]:=if_pos (Bgb.1 h).1
def rtB(L:Nat)(r:Ak)(x:Ap)(ks:List ByteArray)(vs:List Bool):Option (Int×List ByteArray×List Bool):=
 (Kr L x.Name r x ks vs).bind fun o=>bif o.1 != 0 then some o else (Li L x.Type_).bind fun r4=>bif !r4 then some (1,o.2.1,o.2.2) else some (0,o.2.1,o.2.2)
theorem B6v(L:Nat)(fs:List Ap)(r:Ak)(x:Ap)(k:List Ap)(i:Nat)(v:Int)(ks:List ByteArray)(vs:List Bool):
  Ew L fs r (x::k) i v ks vs=(rtB L r x ks vs).bind fun o=>bif o.1 != 0 then some (0,(o.1,(i:Int),o.2.1,o.2.2)) else Ew L fs r k (i+1) v o.2.1 o.2.2:=by
 rw [Ew,rtB]
 cases Kr L x.Name r x ks vs with
 |none=>rfl
 |some o=>
  simp only [Option.bind_some]
  by_cases h0:o.1=0
  ·simp only [h0,bne_self_eq_false,cond_false]
   cases Li L x.Type_ with
   |none=>rfl
   |some b=>cases b<;>rfl
  ·simp only [Uy h0,cond_true,Option.bind_some]
theorem Cgj(L:Nat)(r:Ak)(x:Ap)(hx:Nx x)(hL:maxLen < L)(ks:List ByteArray):
  ∃ks',rtB L r x ks (tr ks)=some (fE (Wv ks x.Name) (unl (N0 x.Type_) 1),ks',tr ks')∧(fE (Wv ks x.Name) (unl (N0 x.Type_) 1)=0→ks'=ks++ [x.Name]):=by
 refine ⟨nx ks x.Name,?_,A83⟩
 have e:Kr L x.Name r x ks (tr ks)=some (Wv ks x.Name,nx ks x.Name,tr (nx ks x.Name)):=Al9 L x.Name hx.1 hL ks
 rw [rtB,e,Option.bind_some,Akd,Option.bind_some]
 by_cases h0:Wv ks x.Name=0
 ·simp only [h0,Rp]
  cases N0 x.Type_<;>rfl
 ·simp only [Uy h0,cond_true,Mf h0]
def Uf:Nat:=maxLen+4194304
theorem Rm{L:Nat}(h:Uf≤L):maxLen < L:=Nat.lt_of_lt_of_le (Nat.lt_add_of_pos_right (by decide)) h
theorem Axc{L:Nat}{l:List Ac}(hL:Uf≤L)(hb:Em l≤1048576):Fu L l:=by
 have h1:=Ayw l
 refine ⟨Nat.lt_of_lt_of_le ?_ hL,hb⟩
 unfold Uf
 rw [Nat.add_assoc]
 exact Nat.add_lt_add_left (by omega) _
theorem Bii(r:Ak):Ayd r=if 6 < r.Params.length∨16 < r.Params.length+r.Locals.length then 6 else fE (F6 (fun f:Ap=>f.Name) (fun f=>unl (N0 f.Type_) 1) [] (r.Params++r.Locals)).1 (Amo r.Body):=rfl
theorem Akf{r:Ak}(hb:C7 r≤1048576):r.Params.length≤1048576∧r.Locals.length≤1048576∧Em r.Body≤1048576:=by
 unfold C7 at hb
 have h1:r.Params.length≤Dl Ig r.Params:=Jb fun x=>by unfold Ig;omega
 have h2:r.Locals.length≤Dl Ig r.Locals:=Jb fun x=>by unfold Ig;omega
 rw [Qp]
 exact ⟨by omega,by omega,by omega⟩
theorem Az5(L:Nat)(r:Ak)(hr:Ia r)(hb:C7 r≤1048576)(hL:Uf≤L):s8 L r=some (Ayd r):=by
 have hM:=Bd
 obtain ⟨b1,b2,b3⟩:=Akf hb
 have hL':maxLen < L:=Rm hL
 have e1:decide ((r.Params.length:Int) > 6)=decide (6 < r.Params.length):=gtN _ 6
 have e2:Cq ((r.Params.length:Int)+(r.Locals.length:Int))=((r.Params.length+r.Locals.length:Nat):Int):=by rw [S2 (by omega) (by omega)];omega
 have e3:decide (((r.Params.length+r.Locals.length:Nat):Int) > 16)=decide (16 < r.Params.length+r.Locals.length):=gtN _ 16
 have c1:=Bkm L r.Params r.Locals b1 b2 hL'
 have c2:=Auo (show∀y∈r.Body,B6 y from hr.2.2.2.2) L (Axc hL b3)
 simp only [Aqc,U6,Qc,s8,U6,Qc,aN,aB,e1,e2,e3,Kn,Bii]
 by_cases h0:6 < r.Params.length∨16 < r.Params.length+r.Locals.length
 ·rw [if_pos h0]
  have:(decide (6 < r.Params.length) || decide (16 < r.Params.length+r.Locals.length))=true:=by simpa using h0
  rw [this];rfl
 ·rw [if_neg h0]
  have:(decide (6 < r.Params.length) || decide (16 < r.Params.length+r.Locals.length))=false:=by simpa using h0
  rw [this,cond_false,c1,Option.bind_some,Atx L _ r L (by simp;omega) (by simp;omega)]
  obtain ⟨j,ks',hj,_⟩:=Bvg (nm:=fun f:Ap=>f.Name) (f:=fun f=>unl (N0 f.Type_) 1) (lq:=Ew L (r.Params++r.Locals) r) (bd:=rtB L r) (fun _ _ _ _=>rfl) (B6v L _ r) (r.Params++r.Locals) 0 0 [] (fun x hx ks=>Cgj L r x (by
   rcases List.mem_append.1 hx with h|h
   ·exact hr.2.1.2 x h
   ·exact hr.2.2.1.2 x h) hL' ks)
  have hj':Ew L (r.Params++r.Locals) r (r.Params++r.Locals) 0 0 [] []=_:=hj
  rw [hj',Option.bind_some]
  by_cases hz:(F6 (fun f:Ap=>f.Name) (fun f=>unl (N0 f.Type_) 1) [] (r.Params++r.Locals)).1=0
  ·rw [if_pos hz,Qo,hz,Rp,c2];rfl
  ·rw [if_neg hz,Hb,Mf hz]
def Am8(p:List Ap)(a:List Int):Bool:=(p.zip a).all fun q=>Aau q.1.Type_ q.2
theorem Bbr(s:Aa)(d:Bm):A0p s d=match s.Routines.find? fun r=>decide (r.Name=d.Routine) with
 |none=>5
 |some r=>if d.Args.length≠r.Params.length then 8 else if Am8 r.Params d.Args=false then 2
  else unl (Br 0 1000000000 d.At && Br 0 1000000000 d.Every && Br 0 1000000000 d.Until && (d.Every != 0 || d.Until == 0)) 2:=rfl
theorem A3o(L:Nat)(s:Aa)(n:Nat)(d:Bm)(p:List Ap)(hp:(s.Routines.getD n default).Params=p):∀(k:List Int) (i:Nat) (v:Int),i+k.length=p.length→
  ∃j,I7 L s (n:Int) d k i v=some (if Am8 (p.drop i) k=true then (1,(v,j)) else (0,(2,j))):=by
 intro k
 induction k with
 |nil=>intro i v _;exact ⟨i,by unfold Am8;simp [I7]⟩
 |cons x k ih=>
  intro i v h
  rw [List.length_cons] at h
  have hi:i < p.length:=by omega
  obtain ⟨j,hj⟩:=ih (i+1) v (by omega)
  rw [I7]
  simp only [toN,hp,Ip hi,if_true,Amk,Option.bind_some,hj]
  have e:Am8 (p.drop i) (x::k)=(Aau (p.getD i default).Type_ x && Am8 (p.drop (i+1)) k):=by
   unfold Am8
   rw [Af1 p i hi,List.zip_cons_cons,List.all_cons]
  rw [e]
  cases Aau (p.getD i default).Type_ x with
  |false=>exact ⟨i,rfl⟩
  |true=>exact ⟨j,by simp⟩
theorem A7d(L:Nat)(s:Aa)(d:Bm)(hs:s.Routines.length≤maxLen)(hd:d.Args.length≤maxLen)(hL:maxLen < L):Vs L s d=some (A0p s d):=by
 have hM:=Bd
 simp only [Aua,Zy,T7,Vs,Zy,T7,aN,aB,Tq L s d.Routine hs (by omega),Option.bind_some,Tt,Abr,Bbr,Ag5]
 cases hf:s.Routines.findIdx? (fun x=>decide (x.Name=d.Routine)) with
 |none=>rfl
 |some i=>
  have hi:=Amb hf
  simp only [Option.isNone_some,cond_false,Ow,nn,if_true,Ip hi,toN,Option.map_some]
  by_cases hn:d.Args.length=(s.Routines.getD i default).Params.length
  ·rw [if_neg (by simpa using hn)]
   have:((d.Args.length:Int) != ((s.Routines.getD i default).Params.length:Int))=false:=by rw [hn];simp
   rw [this,cond_false,Axt L s _ d L hd (by omega)]
   obtain ⟨j,hj⟩:=A3o L s i d _ rfl d.Args 0 0 (by omega)
   rw [hj,Option.bind_some,List.drop_zero]
   cases Am8 (s.Routines.getD i default).Params d.Args with
   |false=>rfl
   |true=>
    simp only [if_true,Qo,Il,Option.bind_some,Bool.true_eq_false,if_false]
    cases Br 0 1000000000 d.At<;>cases Br 0 1000000000 d.Every<;>cases Br 0 1000000000 d.Until<;>try rfl
    by_cases h1:d.Every=0<;>by_cases h2:d.Until=0<;>simp [h1,h2,unl,Uy,beq_false_of_ne]
  ·rw [if_pos (by simpa using hn)]
   have:((d.Args.length:Int) != ((s.Routines.getD i default).Params.length:Int))=true:=bne_iff_ne.2 (by omega)
   rw [this];rfl
theorem A7o(L:Nat)(l:List Aq)(s:Aa)(t:Av):∀(k:List Aq) (i:Nat) (v:Int),Na L l s t k i v=some (match k.findIdx? (fun x=>x.Name.toList == t.Name.toList) with|some j=>(0,(((i+j:Nat):Int),((i+j:Nat):Int)))|none=>(1,(v,((i+k.length:Nat):Int)))):=by
 intro k
 induction k with
 |nil=>intro i v;rfl
 |cons x k ih=>
  intro i v
  rw [Na,ih,List.findIdx?_cons]
  cases hc:x.Name.toList == t.Name.toList with
  |true=>simp only [cond_true,if_true];rfl
  |false=>
   simp only [cond_false,if_false,Bool.false_eq_true]
   cases k.findIdx? (fun x=>x.Name.toList == t.Name.toList) with
   |some j=>simp [Nat.add_assoc,Nat.add_comm 1]
   |none=>simp [Nat.add_assoc,Nat.add_comm 1]
theorem Av7(L:Nat)(l:List Aq)(s:Aa)(t:Av)(hl:l.length≤maxLen)(hL:maxLen < L):F5 L l s t=some (Ow (l.findIdx? fun x=>decide (x.Name=t.Name))):=by
 simp only [F5,Aqj,w9,aN,aB,Azt L l s t L hl (by omega),A7o,Ea,Option.bind_some]
 cases l.findIdx? (fun x=>decide (x.Name=t.Name)) with
 |none=>rfl
 |some i=>simp [Ow,Hb]
theorem By3(s:Aa)(t:Av):Ud s t=if Aig t.What=0 then 1
 else if (if Aig t.What=1 then s.Routines.any (fun r=>decide (r.Name=t.Name)) else if Aig t.What=2 then s.Stores.any (fun x=>decide (x.Name=t.Name)) else s.Counts.any (fun x=>decide (x=t.Name)))=false then 5
 else A1l t:=rfl
theorem Ca3(t:Av)(b:Bool):(bif !b then some (5:Int) else bif !Br (-1000) 1000 t.Coef || t.Coef == 0 then some 2 else some 0)=some (if b=false then 5 else A1l t):=by
 cases b with
 |false=>rfl
 |true=>
  unfold A1l unl
  simp only [Bool.not_true,cond_false,Bool.true_eq_false,if_false]
  by_cases h:t.Coef=0<;>cases Br (-1000) 1000 t.Coef<;>simp [h,Uy,beq_false_of_ne]
def wd1:ByteArray:=⟨#[99,114,101,97,116,101,100]⟩
theorem B8c:(⟨#[99,114,101,97,116,101,100]⟩:ByteArray)=wd1:=rfl
def wd2:ByteArray:=⟨#[101,110,100,101,100]⟩
theorem B8d:(⟨#[101,110,100,101,100]⟩:ByteArray)=wd2:=rfl
def wd3:ByteArray:=⟨#[105,110,115,105,100,101]⟩
theorem B8e:(⟨#[105,110,115,105,100,101]⟩:ByteArray)=wd3:=rfl
def wd4:ByteArray:=⟨#[115,116,111,114,101,100]⟩
theorem B8f:(⟨#[115,116,111,114,101,100]⟩:ByteArray)=wd4:=rfl
def wd5:ByteArray:=⟨#[101,110,116,101,114,101,100]⟩
theorem B8g:(⟨#[101,110,116,101,114,101,100]⟩:ByteArray)=wd5:=rfl
def wd6:ByteArray:=⟨#[108,101,102,116]⟩
theorem B8h:(⟨#[108,101,102,116]⟩:ByteArray)=wd6:=rfl
def wd7:ByteArray:=⟨#[99,111,117,110,116,101,100]⟩
theorem B8i:(⟨#[99,111,117,110,116,101,100]⟩:ByteArray)=wd7:=rfl
theorem wdn:¬wd2=wd1∧¬wd3=wd1∧¬wd3=wd2∧¬wd4=wd1∧¬wd4=wd2∧¬wd4=wd3∧¬wd5=wd1∧¬wd5=wd2∧¬wd5=wd3∧¬wd5=wd4∧¬wd6=wd1∧¬wd6=wd2∧¬wd6=wd3∧¬wd6=wd4∧¬wd6=wd5∧¬wd7=wd1∧¬wd7=wd2∧¬wd7=wd3∧¬wd7=wd4∧¬wd7=wd5∧¬wd7=wd6:=by decide
theorem Bi3(w:ByteArray):Aig w=if w=wd1∨w=wd2∨w=wd3 then 1 else if w=wd4∨w=wd5∨w=wd6 then 2 else if w=wd7 then 3 else 0:=rfl
theorem A9e(L:Nat)(s:Aa)(t:Av)(h:Wu s maxLen)(hL:maxLen < L):Yi L s t=some (Ud s t):=by
 have hM:=Bd
 obtain ⟨_,_,h2,_,_,_,_,_,h8,h9⟩:=h
 have hR:decide (Tt s t.Name≥0)=s.Routines.any (fun x=>decide (x.Name=t.Name)):=Alf _ _
 simp only [Awq,y7,Vg,Vh,Vi,Vj,Vk,Vl,Vm,T8,T9,Yi,y7,Vg,Vh,Vi,Vj,Vk,Vl,Vm,T8,T9,aN,aB,Ea,Tq L s t.Name h9 (by omega),Av7 L _ s t h2 hL,Z4 L _ t.Name h8 hL,Il,Option.bind_some,hR,Alf,Kn,Ca3,By3,Bi3]
 simp only [B8c,B8d,B8e,B8f,B8g,B8h,B8i]
 by_cases c1:t.What=wd1
 ·simp [c1]
 by_cases c2:t.What=wd2
 ·simp [c1,c2,wdn]
 by_cases c3:t.What=wd3
 ·simp [c1,c2,c3,wdn]
 by_cases c4:t.What=wd4
 ·simp [c1,c2,c3,c4,wdn]
 by_cases c5:t.What=wd5
 ·simp [c1,c2,c3,c4,c5,wdn]
 by_cases c6:t.What=wd6
 ·simp [c1,c2,c3,c4,c5,c6,wdn]
 by_cases c7:t.What=wd7
 ·simp [c1,c2,c3,c4,c5,c6,c7,wdn]
 ·simp [c1,c2,c3,c4,c5,c6,c7]
end Go.Proofs.YtfencmicmnhglaaGreat.Ev
