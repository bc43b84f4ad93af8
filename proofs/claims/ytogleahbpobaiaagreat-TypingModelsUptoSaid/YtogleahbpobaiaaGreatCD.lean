/-  Chapter 11, plainly: Check of the program: its parts. -/
import Derived.Test.YtogleahbpobaiaaGreatQA
import Derived.Test.YtogleahbpobaiaaGreatCA
import Derived.Test.YtogleahbpobaiaaGreatPM
namespace Go.Proofs.YtogleahbpobaiaaGreat.Ev
open Go An
set_option maxRecDepth 100000
set_option linter.unusedVariables false
set_option linter.unusedSimpArgs false
set_option linter.unnecessarySimpa false
def pvA(l:List Cu)(i:Nat):Option Int:=if i=0 then none else some (l.getD (i - 1) default).At
def geq(p:Option Int)(a:Int):Bool:=match p with
 |some q=>decide (a≤q)
 |none=>false
theorem A65(cy:Int)(p:Option Int)(c:Cu)(k:List Cu):A2x cy p (c::k)=if (Bp 0 (cy - 1) c.At && Bp 0 1000 c.Units)=false then 2 else if geq p c.At=true then 12 else A2x cy (some c.At) k:=rfl
theorem Blq{β :Type}(l:List Cu)(i:Nat)(hi:i < l.length)(hl:l.length≤maxLen)(a:Int)(A B:Option β):
  (bif decide ((i:Int) > 0) then (if (0:Int)≤Da ((i:Int) - 1) then (if Da ((i:Int) - 1) < ((l.length:Nat):Int) then (bif decide (a≤(l.getD (Int.toNat (Da ((i:Int) - 1))) default).At) then A else B) else none) else none) else B)=if geq (pvA l i) a=true then A else B:=by
 have hM:=Bd
 cases i with
 |zero=>rfl
 |succ i=>
  have e:Da (((i+1:Nat):Int) - 1)=(i:Int):=by rw [Aro (by omega)];omega
  rw [e,decide_eq_true (show ((i+1:Nat):Int) > 0 by omega),cond_true,if_pos (by omega),if_pos (by omega),Ix]
  have e2:pvA l (i+1)=some (l.getD i default).At:=by unfold pvA;rw [if_neg (by omega),Nat.add_sub_cancel]
  rw [e2]
  show (bif decide (a≤(l.getD i default).At) then A else B)=if decide (a≤(l.getD i default).At)=true then A else B
  cases decide (a≤(l.getD i default).At)<;>rfl
theorem Bez{l:List Cu}{i:Nat}{x:Cu}{k:List Cu}(h:l.drop i=x::k):pvA l (i+1)=some x.At:=by
 obtain ⟨_,h2,_⟩:=Acs h
 unfold pvA
 rw [if_neg (by omega),Nat.add_sub_cancel,h2]
theorem At8(L:Nat)(r:Af)(hl:r.Shift.length≤maxLen)(hc:Da (r.Cycle - 1)=r.Cycle - 1):∀(k:List Cu) (i:Nat) (v:Int),r.Shift.drop i=k→
  ∃j,D2 L r k i v=some (if A2x r.Cycle (pvA r.Shift i) k=0 then (1,(v,j)) else (0,(A2x r.Cycle (pvA r.Shift i) k,j))):=by
 intro k
 induction k with
 |nil=>intro i v _;exact ⟨i,rfl⟩
 |cons x k ih=>
  intro i v h
  obtain ⟨hi,hx,hk⟩:=Acs h
  obtain ⟨j,hj⟩:=ih (i+1) v hk
  rw [Bez h] at hj
  rw [D2]
  simp only [H7,Option.bind_some,hc,Blq r.Shift i hi hl,hj,A65]
  rcases Bool.eq_false_or_eq_true (Bp 0 (r.Cycle - 1) x.At) with hA|hA
  ·rcases Bool.eq_false_or_eq_true (Bp 0 1000 x.Units) with hB|hB
   ·rcases Bool.eq_false_or_eq_true (geq (pvA r.Shift i) x.At) with hC|hC
    ·exact ⟨i,by simp [hA,hB,hC]⟩
    ·exact ⟨j,by simp [hA,hB,hC]⟩
   ·exact ⟨i,by simp [hA,hB]⟩
  ·exact ⟨i,by simp [hA]⟩
theorem cyc{c:Int}(h:Bp 1 1000000000 c=true):Da (c - 1)=c - 1:=by
 unfold Bp at h
 rw [Bool.and_eq_true,decide_eq_true_iff,decide_eq_true_iff] at h
 exact Tn (by omega) (by omega)
theorem A8g(r:Af):Aua r=if r.Shift.length=0 then n5 (r.Cycle == 0) 1 else if 20 < r.Shift.length then 6 else if Bp 1 1000000000 r.Cycle=false then 2 else A2x r.Cycle none r.Shift:=rfl
theorem Bzg{α :Type}(l:List α):((l.length:Int) == 0)=decide (l.length=0):=by
 by_cases h:l.length=0
 ·simp [h]
 ·rw [decide_eq_false h,beq_false_of_ne (by omega)]
theorem gtN(n m:Nat):decide ((n:Int) > (m:Int))=decide (m < n):=decide_eq_decide.2 (by omega)
theorem Av7(L:Nat)(r:Af)(hl:r.Shift.length≤maxLen)(hL:maxLen < L):Wn L r=some (Aua r):=by
 have e20:decide ((r.Shift.length:Int) > 20)=decide (20 < r.Shift.length):=gtN _ 20
 simp only [Alg,Ru,Mu,Wn,Ru,Mu,aN,aB,H7,Option.bind_some,Bzg,e20,A8g]
 by_cases h0:r.Shift.length=0
 ·rw [decide_eq_true h0,if_pos h0,cond_true]
  unfold n5
  by_cases hz:r.Cycle=0
  ·simp [hz]
  ·simp [Um hz,beq_false_of_ne hz]
 ·rw [decide_eq_false h0,if_neg h0,cond_false]
  by_cases h2:20 < r.Shift.length
  ·rw [decide_eq_true h2,if_pos h2];rfl
  ·rw [decide_eq_false h2,if_neg h2,cond_false]
   cases hr:Bp 1 1000000000 r.Cycle with
   |false=>rfl
   |true=>
    obtain ⟨j,hj⟩:=At8 L r hl (cyc hr) r.Shift 0 0 rfl
    rw [Aqv L r L hl (by omega),hj]
    simp only [Bool.not_true,cond_false,Option.bind_some,Bool.true_eq_false,if_false]
    have e:pvA r.Shift 0=none:=rfl
    rw [e]
    by_cases hz:A2x r.Cycle none r.Shift=0
    ·rw [if_pos hz,S0,hz]
    ·rw [if_neg hz,H2]
theorem Baq{d:Bf}(h:Ik d≤1048576):okD d:=by
 unfold Ik at h
 have h1:=Iw (g:=fun _:Int=>1) (l:=d.Values) fun _=>Nat.le_refl 1
 have h2:=Iw (g:=fun _:Int=>1) (l:=d.Weights) fun _=>Nat.le_refl 1
 exact ⟨by omega,by omega⟩
theorem Bc7(s:Aa)(f:F4):Bi6 s f=if f.Stream.size=0 then n5 (Ami f.Up Af4 && Ami f.Down Af4) 1 else if s.Streams.any (fun x=>decide (x=f.Stream))=false then 5 else fE (Asn f.Up) (Asn f.Down):=rfl
theorem Av6(L:Nat)(s:Aa)(f:F4)(hs:s.Streams.length≤maxLen)(hb:Ku f≤1048576)(hL:maxLen < L):Wm L s f=some (Bi6 s f):=by
 unfold Ku at hb
 have h1:okD f.Up:=Baq (by omega)
 have h2:okD f.Down:=Baq (by omega)
 simp only [Aco,Wm,aN,aB,Em,A18,Aoa L f.Up _ h1 hL,Aoa L f.Down _ h2 hL,Akv L f.Up h1 hL,Akv L f.Down h2 hL,Yg L _ _ hs hL,Option.bind_some,Bc7]
 have hz:(⟨0,0,0,0,[],[]⟩:Bf)=Af4:=rfl
 rw [hz]
 by_cases h0:f.Stream.size=0
 ·simp only [h0,decide_true,cond_true,if_true]
  cases Ami f.Up Af4<;>cases Ami f.Down Af4<;>rfl
 ·simp only [h0,decide_false,cond_false,if_false]
  cases s.Streams.any (fun x=>decide (x=f.Stream)) with
  |false=>rfl
  |true=>
   simp only [Bool.not_true,cond_false,Bool.true_eq_false,if_false]
   by_cases hd:Asn f.Up=0
   ·simp [hd,Td]
   ·simp [Um hd,O4 hd]
theorem Bg8(L:Nat)(a b:List Ao)(ha:a.length≤1048576)(hb:b.length≤1048576)(hL:maxLen < L):Jy L [a,b]=some (a++b):=by
 have hM:=Bd
 have e1:∀n:Nat,n≤1048576→Da (0+(n:Int))=(n:Int):=fun n hn=>by rw [Int.zero_add];exact Tn (by omega) (by omega)
 have e2:Da ((a.length:Int)+(b.length:Int))=((a.length+b.length:Nat):Int):=by rw [Tn (by omega) (by omega)];omega
 simp only [Yf,H9,H8,Ia,F2,Jy,H9,H8,Ia,F2,aN,aB,Aft L [a,b] L (by simp;omega) (by simp;omega),Afu L [a,b] L (by simp;omega) (by simp;omega),D9,Ea,e1 _ ha,e2,Option.bind_some,H2]
 rw [decide_eq_false (show¬(a.length:Int) < 0 by omega),decide_eq_false (show¬((a.length+b.length:Nat):Int) < 0 by omega)]
 simp only [cond_false,Option.bind_some,H2,List.nil_append,List.length_nil]
 repeat rw [ifp (by omega)]
 rfl
end Go.Proofs.YtogleahbpobaiaaGreat.Ev
namespace Go.Proofs.YtogleahbpobaiaaGreat.Ev
open Go An
set_option maxRecDepth 100000
set_option linter.unusedVariables false
set_option linter.unusedSimpArgs false
set_option linter.unnecessarySimpa false
theorem Ako(L:Nat)(n:ByteArray)(hs:okS n)(hL:maxLen < L)(ks:List ByteArray):B4j (De L n) n ks (tr ks)=some (Vb ks n,nx ks n,tr (nx ks n)):=
 Bw1 ks (Vq L n hs (Nat.lt_of_le_of_lt hs hL))
theorem A5z{ks:List ByteArray}{n:ByteArray}{e:Int}(h:fE (Vb ks n) e=0):nx ks n=ks++ [n]:=if_pos (B4l.1 h).1
def rtB(L:Nat)(r:Ai)(x:Ao)(ks:List ByteArray)(vs:List Bool):Option (Int×List ByteArray×List Bool):=
 (J5 L x.Name r x ks vs).bind fun o=>bif o.1 != 0 then some o else (Ks L x.Type_).bind fun r4=>bif !r4 then some (1,o.2.1,o.2.2) else some (0,o.2.1,o.2.2)
theorem B0j(L:Nat)(fs:List Ao)(r:Ai)(x:Ao)(k:List Ao)(i:Nat)(v:Int)(ks:List ByteArray)(vs:List Bool):
  Eh L fs r (x::k) i v ks vs=(rtB L r x ks vs).bind fun o=>bif o.1 != 0 then some (0,(o.1,(i:Int),o.2.1,o.2.2)) else Eh L fs r k (i+1) v o.2.1 o.2.2:=by
 rw [Eh,rtB]
 cases J5 L x.Name r x ks vs with
 |none=>rfl
 |some o=>
  simp only [Option.bind_some]
  by_cases h0:o.1=0
  ·simp only [h0,bne_self_eq_false,cond_false]
   cases Ks L x.Type_ with
   |none=>rfl
   |some b=>cases b<;>rfl
  ·simp only [Um h0,cond_true,Option.bind_some]
theorem B99(L:Nat)(r:Ai)(x:Ao)(hx:Nf x)(hL:maxLen < L)(ks:List ByteArray):
  ∃ks',rtB L r x ks (tr ks)=some (fE (Vb ks x.Name) (n5 (Wg x.Type_) 1),ks',tr ks')∧(fE (Vb ks x.Name) (n5 (Wg x.Type_) 1)=0→ks'=ks++ [x.Name]):=by
 refine ⟨nx ks x.Name,?_,A5z⟩
 have e:J5 L x.Name r x ks (tr ks)=some (Vb ks x.Name,nx ks x.Name,tr (nx ks x.Name)):=Ako L x.Name hx.1 hL ks
 rw [rtB,e,Option.bind_some,Aiy,Option.bind_some]
 by_cases h0:Vb ks x.Name=0
 ·simp only [h0,Td]
  cases Wg x.Type_<;>rfl
 ·simp only [Um h0,cond_true,O4 h0]
def m9:Nat:=maxLen+4194304
theorem Ta{L:Nat}(h:m9≤L):maxLen < L:=Nat.lt_of_lt_of_le (Nat.lt_add_of_pos_right (by decide)) h
theorem A1n{L:Nat}{l:List Ac}(hL:m9≤L)(hb:D0 l≤1048576):Fu L l:=by
 have h1:=Ate l
 refine ⟨Nat.lt_of_lt_of_le ?_ hL,hb⟩
 unfold m9
 rw [Nat.add_assoc]
 exact Nat.add_lt_add_left (by omega) _
theorem Be9(r:Ai):Awd r=if 6 < r.Params.length∨16 < r.Params.length+r.Locals.length then 6 else fE (Fs (fun f:Ao=>f.Name) (fun f=>n5 (Wg f.Type_) 1) [] (r.Params++r.Locals)).1 (Ak1 r.Body):=rfl
theorem Amh{r:Ai}(hb:Cp r≤1048576):r.Params.length≤1048576∧r.Locals.length≤1048576∧D0 r.Body≤1048576:=by
 unfold Cp at hb
 have h1:r.Params.length≤Db Gu r.Params:=Iw fun x=>by unfold Gu;omega
 have h2:r.Locals.length≤Db Gu r.Locals:=Iw fun x=>by unfold Gu;omega
 rw [L3]
 exact ⟨by omega,by omega,by omega⟩
theorem Ax1(L:Nat)(r:Ai)(hr:Gm r)(hb:Cp r≤1048576)(hL:m9≤L):Y3 L r=some (Awd r):=by
 have hM:=Bd
 obtain ⟨b1,b2,b3⟩:=Amh hb
 have hL':maxLen < L:=Ta hL
 have e1:decide ((r.Params.length:Int) > 6)=decide (6 < r.Params.length):=gtN _ 6
 have e2:Da ((r.Params.length:Int)+(r.Locals.length:Int))=((r.Params.length+r.Locals.length:Nat):Int):=by rw [Tn (by omega) (by omega)];omega
 have e3:decide (((r.Params.length+r.Locals.length:Nat):Int) > 16)=decide (16 < r.Params.length+r.Locals.length):=gtN _ 16
 have c1:=Bg8 L r.Params r.Locals b1 b2 hL'
 have c2:=Asu (show∀y∈r.Body,B4 y from hr.2.2.2.2) L (A1n hL b3)
 simp only [Aok,Tr,Ox,Y3,Tr,Ox,aN,aB,e1,e2,e3,Kq,Be9]
 by_cases h0:6 < r.Params.length∨16 < r.Params.length+r.Locals.length
 ·rw [if_pos h0]
  have:(decide (6 < r.Params.length) || decide (16 < r.Params.length+r.Locals.length))=true:=by simpa using h0
  rw [this];rfl
 ·rw [if_neg h0]
  have:(decide (6 < r.Params.length) || decide (16 < r.Params.length+r.Locals.length))=false:=by simpa using h0
  rw [this,cond_false,c1,Option.bind_some,Ar4 L _ r L (by simp;omega) (by simp;omega)]
  obtain ⟨j,ks',hj,_⟩:=Bp3 (nm:=fun f:Ao=>f.Name) (f:=fun f=>n5 (Wg f.Type_) 1) (lq:=Eh L (r.Params++r.Locals) r) (bd:=rtB L r) (fun _ _ _ _=>rfl) (B0j L _ r) (r.Params++r.Locals) 0 0 [] (fun x hx ks=>B99 L r x (by
   rcases List.mem_append.1 hx with h|h
   ·exact hr.2.1.2 x h
   ·exact hr.2.2.1.2 x h) hL' ks)
  have hj':Eh L (r.Params++r.Locals) r (r.Params++r.Locals) 0 0 [] []=_:=hj
  rw [hj',Option.bind_some]
  by_cases hz:(Fs (fun f:Ao=>f.Name) (fun f=>n5 (Wg f.Type_) 1) [] (r.Params++r.Locals)).1=0
  ·rw [if_pos hz,S0,hz,Td,c2];rfl
  ·rw [if_neg hz,H2,O4 hz]
def Ali(p:List Ao)(a:List Int):Bool:=(p.zip a).all fun q=>Ajv q.1.Type_ q.2
theorem A8i(s:Aa)(d:Bh):Ayj s d=match s.Routines.find? fun r=>decide (r.Name=d.Routine) with
 |none=>5
 |some r=>if d.Args.length≠r.Params.length then 8 else if Ali r.Params d.Args=false then 2
  else n5 (Bp 0 1000000000 d.At && Bp 0 1000000000 d.Every && Bp 0 1000000000 d.Until && (d.Every != 0 || d.Until == 0)) 2:=rfl
theorem A09(L:Nat)(s:Aa)(n:Nat)(d:Bh)(p:List Ao)(hp:(s.Routines.getD n default).Params=p):∀(k:List Int) (i:Nat) (v:Int),i+k.length=p.length→
  ∃j,It L s (n:Int) d k i v=some (if Ali (p.drop i) k=true then (1,(v,j)) else (0,(2,j))):=by
 intro k
 induction k with
 |nil=>intro i v _;exact ⟨i,by unfold Ali;simp [It]⟩
 |cons x k ih=>
  intro i v h
  rw [List.length_cons] at h
  have hi:i < p.length:=by omega
  obtain ⟨j,hj⟩:=ih (i+1) v (by omega)
  rw [It]
  simp only [Ix,hp,Ky hi,if_true,Akw,Option.bind_some,hj]
  have e:Ali (p.drop i) (x::k)=(Ajv (p.getD i default).Type_ x && Ali (p.drop (i+1)) k):=by
   unfold Ali
   rw [Y8 p i hi,List.zip_cons_cons,List.all_cons]
  rw [e]
  cases Ajv (p.getD i default).Type_ x with
  |false=>exact ⟨i,rfl⟩
  |true=>exact ⟨j,by simp⟩
theorem A4b(L:Nat)(s:Aa)(d:Bh)(hs:s.Routines.length≤maxLen)(hd:d.Args.length≤maxLen)(hL:maxLen < L):Ud L s d=some (Ayj s d):=by
 have hM:=Bd
 simp only [Ash,X4,Sq,Ud,X4,Sq,aN,aB,Sb L s d.Routine hs (by omega),Option.bind_some,Sd,y5,A8i,Aii]
 cases hf:s.Routines.findIdx? (fun x=>decide (x.Name=d.Routine)) with
 |none=>rfl
 |some i=>
  have hi:=Any hf
  simp only [Option.isNone_some,cond_false,Rq,nn,if_true,Ky hi,Ix,Option.map_some]
  by_cases hn:d.Args.length=(s.Routines.getD i default).Params.length
  ·rw [if_neg (by simpa using hn)]
   have:((d.Args.length:Int) != ((s.Routines.getD i default).Params.length:Int))=false:=by rw [hn];simp
   rw [this,cond_false,Avt L s _ d L hd (by omega)]
   obtain ⟨j,hj⟩:=A09 L s i d _ rfl d.Args 0 0 (by omega)
   rw [hj,Option.bind_some,List.drop_zero]
   cases Ali (s.Routines.getD i default).Params d.Args with
   |false=>rfl
   |true=>
    simp only [if_true,S0,H7,Option.bind_some,Bool.true_eq_false,if_false]
    cases Bp 0 1000000000 d.At<;>cases Bp 0 1000000000 d.Every<;>cases Bp 0 1000000000 d.Until<;>try rfl
    by_cases h1:d.Every=0<;>by_cases h2:d.Until=0<;>simp [h1,h2,n5,Um,beq_false_of_ne]
  ·rw [if_pos (by simpa using hn)]
   have:((d.Args.length:Int) != ((s.Routines.getD i default).Params.length:Int))=true:=bne_iff_ne.2 (by omega)
   rw [this];rfl
theorem A4m(L:Nat)(l:List Ap)(s:Aa)(t:Au):∀(k:List Ap) (i:Nat) (v:Int),Mo L l s t k i v=some (match k.findIdx? (fun x=>x.Name.toList == t.Name.toList) with|some j=>(0,(((i+j:Nat):Int),((i+j:Nat):Int)))|none=>(1,(v,((i+k.length:Nat):Int)))):=by
 intro k
 induction k with
 |nil=>intro i v;rfl
 |cons x k ih=>
  intro i v
  rw [Mo,ih,List.findIdx?_cons]
  cases hc:x.Name.toList == t.Name.toList with
  |true=>simp only [cond_true,if_true];rfl
  |false=>
   simp only [cond_false,if_false,Bool.false_eq_true]
   cases k.findIdx? (fun x=>x.Name.toList == t.Name.toList) with
   |some j=>simp [Nat.add_assoc,Nat.add_comm 1]
   |none=>simp [Nat.add_assoc,Nat.add_comm 1]
theorem At6(L:Nat)(l:List Ap)(s:Aa)(t:Au)(hl:l.length≤maxLen)(hL:maxLen < L):Eu L l s t=some (Rq (l.findIdx? fun x=>decide (x.Name=t.Name))):=by
 simp only [Eu,Aor,Ag0,Zp,aN,aB,Axq L l s t L hl (by omega),A4m,Em,Option.bind_some]
 cases l.findIdx? (fun x=>decide (x.Name=t.Name)) with
 |none=>rfl
 |some i=>simp [Rq,H2]
theorem Buf(s:Aa)(t:Au):S4 s t=if Ag3 t.What=0 then 1
 else if (if Ag3 t.What=1 then s.Routines.any (fun r=>decide (r.Name=t.Name)) else if Ag3 t.What=2 then s.Stores.any (fun x=>decide (x.Name=t.Name)) else s.Counts.any (fun x=>decide (x=t.Name)))=false then 5
 else Aza t:=rfl
theorem B3n(t:Au)(b:Bool):(bif !b then some (5:Int) else bif !Bp (-1000) 1000 t.Coef || t.Coef == 0 then some 2 else some 0)=some (if b=false then 5 else Aza t):=by
 cases b with
 |false=>rfl
 |true=>
  unfold Aza n5
  simp only [Bool.not_true,cond_false,Bool.true_eq_false,if_false]
  by_cases h:t.Coef=0<;>cases Bp (-1000) 1000 t.Coef<;>simp [h,Um,beq_false_of_ne]
def wd1:ByteArray:=⟨#[99,114,101,97,116,101,100]⟩
theorem B1n:(⟨#[99,114,101,97,116,101,100]⟩:ByteArray)=wd1:=rfl
def wd2:ByteArray:=⟨#[101,110,100,101,100]⟩
theorem B1o:(⟨#[101,110,100,101,100]⟩:ByteArray)=wd2:=rfl
def wd3:ByteArray:=⟨#[105,110,115,105,100,101]⟩
theorem B1p:(⟨#[105,110,115,105,100,101]⟩:ByteArray)=wd3:=rfl
def wd4:ByteArray:=⟨#[115,116,111,114,101,100]⟩
theorem B1q:(⟨#[115,116,111,114,101,100]⟩:ByteArray)=wd4:=rfl
def wd5:ByteArray:=⟨#[101,110,116,101,114,101,100]⟩
theorem B1r:(⟨#[101,110,116,101,114,101,100]⟩:ByteArray)=wd5:=rfl
def wd6:ByteArray:=⟨#[108,101,102,116]⟩
theorem B1s:(⟨#[108,101,102,116]⟩:ByteArray)=wd6:=rfl
def wd7:ByteArray:=⟨#[99,111,117,110,116,101,100]⟩
theorem B1t:(⟨#[99,111,117,110,116,101,100]⟩:ByteArray)=wd7:=rfl
theorem wdn:¬wd2=wd1∧¬wd3=wd1∧¬wd3=wd2∧¬wd4=wd1∧¬wd4=wd2∧¬wd4=wd3∧¬wd5=wd1∧¬wd5=wd2∧¬wd5=wd3∧¬wd5=wd4∧¬wd6=wd1∧¬wd6=wd2∧¬wd6=wd3∧¬wd6=wd4∧¬wd6=wd5∧¬wd7=wd1∧¬wd7=wd2∧¬wd7=wd3∧¬wd7=wd4∧¬wd7=wd5∧¬wd7=wd6:=by decide
theorem Bfs(w:ByteArray):Ag3 w=if w=wd1∨w=wd2∨w=wd3 then 1 else if w=wd4∨w=wd5∨w=wd6 then 2 else if w=wd7 then 3 else 0:=rfl
theorem A59(L:Nat)(s:Aa)(t:Au)(h:U9 s maxLen)(hL:maxLen < L):Wo L s t=some (S4 s t):=by
 have hM:=Bd
 obtain ⟨_,_,h2,_,_,_,_,_,h8,h9⟩:=h
 have hR:decide (Sd s t.Name≥0)=s.Routines.any (fun x=>decide (x.Name=t.Name)):=Anx _ _
 simp only [Aur,Zy,T0,T1,T2,T3,T4,T5,T6,Sr,Ss,Wo,Zy,T0,T1,T2,T3,T4,T5,T6,Sr,Ss,aN,aB,Em,Sb L s t.Name h9 (by omega),At6 L _ s t h2 hL,Yg L _ t.Name h8 hL,H7,Option.bind_some,hR,Anx,Kq,B3n,Buf,Bfs]
 simp only [B1n,B1o,B1p,B1q,B1r,B1s,B1t]
 by_cases c1:t.What=wd1
 ·simp [c1]
 by_cases c2:t.What=wd2
 ·simp [c1,c2,wdn]
 by_cases c3:t.What=wd3
 ·simp [c1,c2,c3,wdn]
 by_cases c4:t.What=wd4
 ·simp [c1,c2,c3,c4,wdn]
 by_cases c5:t.What=wd5
 ·simp [c1,c2,c3,c4,c5,wdn]
 by_cases c6:t.What=wd6
 ·simp [c1,c2,c3,c4,c5,c6,wdn]
 by_cases c7:t.What=wd7
 ·simp [c1,c2,c3,c4,c5,c6,c7,wdn]
 ·simp [c1,c2,c3,c4,c5,c6,c7]
end Go.Proofs.YtogleahbpobaiaaGreat.Ev
