/-  Chapter 11, plainly: Check of the program: its parts. -/
import Derived.Test.YtfencmicmnhglaaGreatQA
import Derived.Test.YtfencmicmnhglaaGreatCA
import Derived.Test.YtfencmicmnhglaaGreatPM
namespace Go.Proofs.YtfencmicmnhglaaGreat.Ev
open Go An
set_option maxRecDepth 100000
set_option linter.unusedVariables false
set_option linter.unusedSimpArgs false
set_option linter.unnecessarySimpa false
def pvA(l:List Cy)(i:Nat):Option Int:=if i=0 then none else some (l.getD (i - 1) default).At
def geq(p:Option Int)(a:Int):Bool:=match p with
 |some q=>decide (a≤q)
 |none=>false
theorem Bb6(cy:Int)(p:Option Int)(c:Cy)(k:List Cy):A04 cy p (c::k)=if (Bx 0 (cy - 1) c.At && Bx 0 1000 c.Units)=false then 2 else if geq p c.At=true then 12 else A04 cy (some c.At) k:=rfl
theorem Bmp{β :Type}(l:List Cy)(i:Nat)(hi:i < l.length)(hl:l.length≤maxLen)(a:Int)(A B:Option β):
  (bif decide ((i:Int) > 0) then (if (0:Int)≤Dp ((i:Int) - 1) then (if Dp ((i:Int) - 1) < ((l.length:Nat):Int) then (bif decide (a≤(l.getD (Int.toNat (Dp ((i:Int) - 1))) default).At) then A else B) else none) else none) else B)=if geq (pvA l i) a=true then A else B:=by
 have hM:=B4
 cases i with
 |zero=>rfl
 |succ i=>
  have e:Dp (((i+1:Nat):Int) - 1)=(i:Int):=by rw [Afb (by omega)];omega
  rw [e,decide_eq_true (show ((i+1:Nat):Int) > 0 by omega),cond_true,if_pos (by omega),if_pos (by omega),toN]
  have e2:pvA l (i+1)=some (l.getD i default).At:=by unfold pvA;rw [if_neg (by omega),Nat.add_sub_cancel]
  rw [e2]
  show (bif decide (a≤(l.getD i default).At) then A else B)=if decide (a≤(l.getD i default).At)=true then A else B
  cases decide (a≤(l.getD i default).At)<;>rfl
theorem Bgy{l:List Cy}{i:Nat}{x:Cy}{k:List Cy}(h:l.drop i=x::k):pvA l (i+1)=some x.At:=by
 obtain ⟨_,h2,_⟩:=N4 h
 unfold pvA
 rw [if_neg (by omega),Nat.add_sub_cancel,h2]
theorem Al1(L:Nat)(r:Ai)(hl:r.Shift.length≤maxLen)(hc:Dp (r.Cycle - 1)=r.Cycle - 1):∀(k:List Cy) (i:Nat) (v:Int),r.Shift.drop i=k→
  ∃j,D0 L r k i v=some (if A04 r.Cycle (pvA r.Shift i) k=0 then (1,(v,j)) else (0,(A04 r.Cycle (pvA r.Shift i) k,j))):=by
 intro k
 induction k with
 |nil=>intro i v _;exact ⟨i,rfl⟩
 |cons x k ih=>
  intro i v h
  obtain ⟨hi,hx,hk⟩:=N4 h
  obtain ⟨j,hj⟩:=ih (i+1) v hk
  rw [Bgy h] at hj
  rw [D0]
  simp only [Hs,Option.bind_some,hc,Bmp r.Shift i hi hl,hj,Bb6]
  rcases Bool.eq_false_or_eq_true (Bx 0 (r.Cycle - 1) x.At) with hA|hA
  ·rcases Bool.eq_false_or_eq_true (Bx 0 1000 x.Units) with hB|hB
   ·rcases Bool.eq_false_or_eq_true (geq (pvA r.Shift i) x.At) with hC|hC
    ·exact ⟨i,by simp [hA,hB,hC]⟩
    ·exact ⟨j,by simp [hA,hB,hC]⟩
   ·exact ⟨i,by simp [hA,hB]⟩
  ·exact ⟨i,by simp [hA]⟩
theorem cyc{c:Int}(h:Bx 1 1000000000 c=true):Dp (c - 1)=c - 1:=by
 unfold Bx at h
 rw [Bool.and_eq_true,decide_eq_true_iff,decide_eq_true_iff] at h
 exact V6 (by omega) (by omega)
theorem Bcr(r:Ai):Au6 r=if r.Shift.length=0 then unl (r.Cycle == 0) 1 else if 20 < r.Shift.length then 6 else if Bx 1 1000000000 r.Cycle=false then 2 else A04 r.Cycle none r.Shift:=rfl
theorem Bgg{α :Type}(l:List α):((l.length:Int) == 0)=decide (l.length=0):=by
 by_cases h:l.length=0
 ·simp [h]
 ·rw [decide_eq_false h,beq_false_of_ne (by omega)]
theorem gtN(n m:Nat):decide ((n:Int) > (m:Int))=decide (m < n):=decide_eq_decide.2 (by omega)
theorem Anx(L:Nat)(r:Ai)(hl:r.Shift.length≤maxLen)(hL:maxLen < L):Uf L r=some (Au6 r):=by
 have e20:decide ((r.Shift.length:Int) > 20)=decide (20 < r.Shift.length):=gtN _ 20
 simp only [Ad9,Qa,L1,Uf,Qa,L1,aN,aB,Hs,Option.bind_some,Bgg,e20,Bcr]
 by_cases h0:r.Shift.length=0
 ·rw [decide_eq_true h0,if_pos h0,cond_true]
  unfold unl
  by_cases hz:r.Cycle=0
  ·simp [hz]
  ·simp [Zn hz,beq_false_of_ne hz]
 ·rw [decide_eq_false h0,if_neg h0,cond_false]
  by_cases h2:20 < r.Shift.length
  ·rw [decide_eq_true h2,if_pos h2];rfl
  ·rw [decide_eq_false h2,if_neg h2,cond_false]
   cases hr:Bx 1 1000000000 r.Cycle with
   |false=>rfl
   |true=>
    obtain ⟨j,hj⟩:=Al1 L r hl (cyc hr) r.Shift 0 0 rfl
    rw [Aiv L r L hl (by omega),hj]
    simp only [Bool.not_true,cond_false,Option.bind_some,Bool.true_eq_false,if_false]
    have e:pvA r.Shift 0=none:=rfl
    rw [e]
    by_cases hz:A04 r.Cycle none r.Shift=0
    ·rw [if_pos hz,n8,hz]
    ·rw [if_neg hz,Lx]
theorem Bgq{d:Bv}(h:H5 d≤1048576):okD d:=by
 unfold H5 at h
 have h1:=Hj (g:=fun _:Int=>1) (l:=d.Values) fun _=>Nat.le_refl 1
 have h2:=Hj (g:=fun _:Int=>1) (l:=d.Weights) fun _=>Nat.le_refl 1
 exact ⟨by omega,by omega⟩
theorem Bej(s:Aa)(f:Gf):A7n s f=if f.Stream.size=0 then unl (An6 f.Up Ajm && An6 f.Down Ajm) 1 else if s.Streams.any (fun x=>decide (x=f.Stream))=false then 5 else fE (Aqo f.Up) (Aqo f.Down):=rfl
theorem Anw(L:Nat)(s:Aa)(f:Gf)(hs:s.Streams.length≤maxLen)(hb:Oo f≤1048576)(hL:maxLen < L):Ue L s f=some (A7n s f):=by
 unfold Oo at hb
 have h1:okD f.Up:=Bgq (by omega)
 have h2:okD f.Down:=Bgq (by omega)
 simp only [Zy,Ue,aN,aB,I2,Bbe,Agm L f.Up _ h1 hL,Agm L f.Down _ h2 hL,Ad0 L f.Up h1 hL,Ad0 L f.Down h2 hL,V2 L _ _ hs hL,Option.bind_some,Bej]
 have hz:(⟨0,0,0,0,[],[]⟩:Bv)=Ajm:=rfl
 rw [hz]
 by_cases h0:f.Stream.size=0
 ·simp only [h0,decide_true,cond_true,if_true]
  cases An6 f.Up Ajm<;>cases An6 f.Down Ajm<;>rfl
 ·simp only [h0,decide_false,cond_false,if_false]
  cases s.Streams.any (fun x=>decide (x=f.Stream)) with
  |false=>rfl
  |true=>
   simp only [Bool.not_true,cond_false,Bool.true_eq_false,if_false]
   by_cases hd:Aqo f.Up=0
   ·simp [hd,Xt]
   ·simp [Zn hd,Ys hd]
theorem A5d(L:Nat)(a b:List Ap)(ha:a.length≤1048576)(hb:b.length≤1048576)(hL:maxLen < L):Jk L [a,b]=some (a++b):=by
 have hM:=B4
 have e1:∀n:Nat,n≤1048576→Dp (0+(n:Int))=(n:Int):=fun n hn=>by rw [Int.zero_add];exact V6 (by omega) (by omega)
 have e2:Dp ((a.length:Int)+(b.length:Int))=((a.length+b.length:Nat):Int):=by rw [V6 (by omega) (by omega)];omega
 simp only [Vz,Ht,Hu,Fs,Jk,Ht,Hu,Fs,aN,aB,y9 L [a,b] L (by simp;omega) (by simp;omega),Aaa L [a,b] L (by simp;omega) (by simp;omega),D7,D8,e1 _ ha,e2,Option.bind_some,Lx]
 rw [decide_eq_false (show¬(a.length:Int) < 0 by omega),decide_eq_false (show¬((a.length+b.length:Nat):Int) < 0 by omega)]
 simp only [cond_false,Option.bind_some,Lx,List.nil_append,List.length_nil]
 repeat rw [ifp (by omega)]
 rfl
theorem Adv(L:Nat)(n:ByteArray)(hs:okS n)(hL:maxLen < L)(ks:List ByteArray):Brf (C6 L n) n ks (tr ks)=some (Zv ks n,nx ks n,tr (nx ks n)):=
 Bj0 ks (T5 L n hs (Nat.lt_of_le_of_lt hs hL))
theorem Av3{ks:List ByteArray}{n:ByteArray}{e:Int}(h:fE (Zv ks n) e=0):nx ks n=ks++ [n]:=if_pos (Att.1 h).1
def rtB(L:Nat)(r:Ak)(x:Ap)(ks:List ByteArray)(vs:List Bool):Option (Int×List ByteArray×List Bool):=
 (Jw L x.Name r x ks vs).bind fun o=>bif o.1 != 0 then some o else (Kj L x.Type_).bind fun r4=>bif !r4 then some (1,o.2.1,o.2.2) else some (0,o.2.1,o.2.2)
theorem Bno(L:Nat)(fs:List Ap)(r:Ak)(x:Ap)(k:List Ap)(i:Nat)(v:Int)(ks:List ByteArray)(vs:List Bool):
  Ed L fs r (x::k) i v ks vs=(rtB L r x ks vs).bind fun o=>bif o.1 != 0 then some (0,(o.1,(i:Int),o.2.1,o.2.2)) else Ed L fs r k (i+1) v o.2.1 o.2.2:=by
 rw [Ed,rtB]
 cases Jw L x.Name r x ks vs with
 |none=>rfl
 |some o=>
  simp only [Option.bind_some]
  by_cases h0:o.1=0
  ·simp only [h0,bne_self_eq_false,cond_false]
   cases Kj L x.Type_ with
   |none=>rfl
   |some b=>cases b<;>rfl
  ·simp only [Zn h0,cond_true,Option.bind_some]
theorem Bvl(L:Nat)(r:Ak)(x:Ap)(hx:Om x)(hL:maxLen < L)(ks:List ByteArray):
  ∃ks',rtB L r x ks (tr ks)=some (fE (Zv ks x.Name) (unl (N1 x.Type_) 1),ks',tr ks')∧(fE (Zv ks x.Name) (unl (N1 x.Type_) 1)=0→ks'=ks++ [x.Name]):=by
 refine ⟨nx ks x.Name,?_,Av3⟩
 have e:Jw L x.Name r x ks (tr ks)=some (Zv ks x.Name,nx ks x.Name,tr (nx ks x.Name)):=Adv L x.Name hx.1 hL ks
 rw [rtB,e,Option.bind_some,Acm,Option.bind_some]
 by_cases h0:Zv ks x.Name=0
 ·simp only [h0,Xt]
  cases N1 x.Type_<;>rfl
 ·simp only [Zn h0,cond_true,Ys h0]
def Xd:Nat:=maxLen+4194304
theorem Yl{L:Nat}(h:Xd≤L):maxLen < L:=Nat.lt_of_lt_of_le (Nat.lt_add_of_pos_right (by decide)) h
theorem Azq{L:Nat}{l:List Ac}(hL:Xd≤L)(hb:D9 l≤1048576):Fu L l:=by
 have h1:=Atd l
 refine ⟨Nat.lt_of_lt_of_le ?_ hL,hb⟩
 unfold Xd
 rw [Nat.add_assoc]
 exact Nat.add_lt_add_left (by omega) _
theorem Bg5(r:Ak):Axs r=if 6 < r.Params.length∨16 < r.Params.length+r.Locals.length then 6 else fE (V0 (fun f:Ap=>f.Name) (fun f=>unl (N1 f.Type_) 1) [] (r.Params++r.Locals)).1 (Al8 r.Body):=rfl
theorem An5{r:Ak}(hb:Df r≤1048576):r.Params.length≤1048576∧r.Locals.length≤1048576∧D9 r.Body≤1048576:=by
 unfold Df at hb
 have h1:r.Params.length≤C3 Hk r.Params:=Hj fun x=>by unfold Hk;omega
 have h2:r.Locals.length≤C3 Hk r.Locals:=Hj fun x=>by unfold Hk;omega
 rw [N3]
 exact ⟨by omega,by omega,by omega⟩
theorem Apu(L:Nat)(r:Ak)(hr:Ku r)(hb:Df r≤1048576)(hL:Xd≤L):Wi L r=some (Axs r):=by
 have hM:=B4
 obtain ⟨b1,b2,b3⟩:=An5 hb
 have hL':maxLen < L:=Yl hL
 have e1:decide ((r.Params.length:Int) > 6)=decide (6 < r.Params.length):=gtN _ 6
 have e2:Dp ((r.Params.length:Int)+(r.Locals.length:Int))=((r.Params.length+r.Locals.length:Nat):Int):=by rw [V6 (by omega) (by omega)];omega
 have e3:decide (((r.Params.length+r.Locals.length:Nat):Int) > 16)=decide (16 < r.Params.length+r.Locals.length):=gtN _ 16
 have c1:=A5d L r.Params r.Locals b1 b2 hL'
 have c2:=Akr (show∀y∈r.Body,Cs y from hr.2.2.2.2) L (Azq hL b3)
 simp only [Agy,R5,Nk,Wi,R5,Nk,aN,aB,e1,e2,e3,Xo,Bg5]
 by_cases h0:6 < r.Params.length∨16 < r.Params.length+r.Locals.length
 ·rw [if_pos h0]
  have:(decide (6 < r.Params.length) || decide (16 < r.Params.length+r.Locals.length))=true:=by simpa using h0
  rw [this];rfl
 ·rw [if_neg h0]
  have:(decide (6 < r.Params.length) || decide (16 < r.Params.length+r.Locals.length))=false:=by simpa using h0
  rw [this,cond_false,c1,Option.bind_some,Aj1 L _ r L (by simp;omega) (by simp;omega)]
  obtain ⟨j,ks',hj,_⟩:=Beh (nm:=fun f:Ap=>f.Name) (f:=fun f=>unl (N1 f.Type_) 1) (lq:=Ed L (r.Params++r.Locals) r) (bd:=rtB L r) (fun _ _ _ _=>rfl) (Bno L _ r) (r.Params++r.Locals) 0 0 [] (fun x hx ks=>Bvl L r x (by
   rcases List.mem_append.1 hx with h|h
   ·exact hr.2.1.2 x h
   ·exact hr.2.2.1.2 x h) hL' ks)
  have hj':Ed L (r.Params++r.Locals) r (r.Params++r.Locals) 0 0 [] []=_:=hj
  rw [hj',Option.bind_some]
  by_cases hz:(V0 (fun f:Ap=>f.Name) (fun f=>unl (N1 f.Type_) 1) [] (r.Params++r.Locals)).1=0
  ·rw [if_pos hz,n8,hz,Xt,c2];rfl
  ·rw [if_neg hz,Lx,Ys hz]
def As7(p:List Ap)(a:List Int):Bool:=(p.zip a).all fun q=>y6 q.1.Type_ q.2
theorem Bcw(s:Aa)(d:Bo):A5x s d=match s.Routines.find? fun r=>decide (r.Name=d.Routine) with
 |none=>5
 |some r=>if d.Args.length≠r.Params.length then 8 else if As7 r.Params d.Args=false then 2
  else unl (Bx 0 1000000000 d.At && Bx 0 1000000000 d.Every && Bx 0 1000000000 d.Until && (d.Every != 0 || d.Until == 0)) 2:=rfl
theorem Ar6(L:Nat)(s:Aa)(n:Nat)(d:Bo)(p:List Ap)(hp:(s.Routines.getD n default).Params=p):∀(k:List Int) (i:Nat) (v:Int),i+k.length=p.length→
  ∃j,Ib L s (n:Int) d k i v=some (if As7 (p.drop i) k=true then (1,(v,j)) else (0,(2,j))):=by
 intro k
 induction k with
 |nil=>intro i v _;exact ⟨i,by unfold As7;simp [Ib]⟩
 |cons x k ih=>
  intro i v h
  rw [List.length_cons] at h
  have hi:i < p.length:=by omega
  obtain ⟨j,hj⟩:=ih (i+1) v (by omega)
  rw [Ib]
  simp only [toN,hp,Ru hi,if_true,Ad1,Option.bind_some,hj]
  have e:As7 (p.drop i) (x::k)=(y6 (p.getD i default).Type_ x && As7 (p.drop (i+1)) k):=by
   unfold As7
   rw [Asj p i hi,List.zip_cons_cons,List.all_cons]
  rw [e]
  cases y6 (p.getD i default).Type_ x with
  |false=>exact ⟨i,rfl⟩
  |true=>exact ⟨j,by simp⟩
theorem Auf(L:Nat)(s:Aa)(d:Bo)(hs:s.Routines.length≤maxLen)(hd:d.Args.length≤maxLen)(hL:maxLen < L):Sv L s d=some (A5x s d):=by
 have hM:=B4
 simp only [Akf,Vu,Rb,Sv,Vu,Rb,aN,aB,Ql L s d.Routine hs (by omega),Option.bind_some,Aaf,Air,Bcw,Acd]
 cases hf:s.Routines.findIdx? (fun x=>decide (x.Name=d.Routine)) with
 |none=>rfl
 |some i=>
  have hi:=Ais hf
  simp only [Option.isNone_some,cond_false,Nz,nn,if_true,Ru hi,toN,Option.map_some]
  by_cases hn:d.Args.length=(s.Routines.getD i default).Params.length
  ·rw [if_neg (by simpa using hn)]
   have:((d.Args.length:Int) != ((s.Routines.getD i default).Params.length:Int))=false:=by rw [hn];simp
   rw [this,cond_false,Anm L s _ d L hd (by omega)]
   obtain ⟨j,hj⟩:=Ar6 L s i d _ rfl d.Args 0 0 (by omega)
   rw [hj,Option.bind_some,List.drop_zero]
   cases As7 (s.Routines.getD i default).Params d.Args with
   |false=>rfl
   |true=>
    simp only [if_true,n8,Hs,Option.bind_some,Bool.true_eq_false,if_false]
    cases Bx 0 1000000000 d.At<;>cases Bx 0 1000000000 d.Every<;>cases Bx 0 1000000000 d.Until<;>try rfl
    by_cases h1:d.Every=0<;>by_cases h2:d.Until=0<;>simp [h1,h2,unl,Zn,beq_false_of_ne]
  ·rw [if_pos (by simpa using hn)]
   have:((d.Args.length:Int) != ((s.Routines.getD i default).Params.length:Int))=true:=bne_iff_ne.2 (by omega)
   rw [this];rfl
theorem Aus(L:Nat)(l:List Am)(s:Aa)(t:Aw):∀(k:List Am) (i:Nat) (v:Int),Lu L l s t k i v=some (match k.findIdx? (fun x=>x.Name.toList == t.Name.toList) with|some j=>(0,(((i+j:Nat):Int),((i+j:Nat):Int)))|none=>(1,(v,((i+k.length:Nat):Int)))):=by
 intro k
 induction k with
 |nil=>intro i v;rfl
 |cons x k ih=>
  intro i v
  rw [Lu,ih,List.findIdx?_cons]
  cases hc:x.Name.toList == t.Name.toList with
  |true=>simp only [cond_true,if_true];rfl
  |false=>
   simp only [cond_false,if_false,Bool.false_eq_true]
   cases k.findIdx? (fun x=>x.Name.toList == t.Name.toList) with
   |some j=>simp [Nat.add_assoc,Nat.add_comm 1]
   |none=>simp [Nat.add_assoc,Nat.add_comm 1]
theorem Alz(L:Nat)(l:List Am)(s:Aa)(t:Aw)(hl:l.length≤maxLen)(hL:maxLen < L):Em L l s t=some (Nz (l.findIdx? fun x=>decide (x.Name=t.Name))):=by
 simp only [Em,Ag7,W5,aN,aB,Apj L l s t L hl (by omega),Aus,I2,Option.bind_some]
 cases l.findIdx? (fun x=>decide (x.Name=t.Name)) with
 |none=>rfl
 |some i=>simp [Nz,Lx]
theorem Bh6(s:Aa)(t:Aw):Wh s t=if Avl t.What=0 then 1
 else if (if Avl t.What=1 then s.Routines.any (fun r=>decide (r.Name=t.Name)) else if Avl t.What=2 then s.Stores.any (fun x=>decide (x.Name=t.Name)) else s.Counts.any (fun x=>decide (x=t.Name)))=false then 5
 else A61 t:=rfl
theorem Bq7(t:Aw)(b:Bool):(bif !b then some (5:Int) else bif !Bx (-1000) 1000 t.Coef || t.Coef == 0 then some 2 else some 0)=some (if b=false then 5 else A61 t):=by
 cases b with
 |false=>rfl
 |true=>
  unfold A61 unl
  simp only [Bool.not_true,cond_false,Bool.true_eq_false,if_false]
  by_cases h:t.Coef=0<;>cases Bx (-1000) 1000 t.Coef<;>simp [h,Zn,beq_false_of_ne]
def wd1:ByteArray:=⟨#[99,114,101,97,116,101,100]⟩
theorem B2a:(⟨#[99,114,101,97,116,101,100]⟩:ByteArray)=wd1:=rfl
def wd2:ByteArray:=⟨#[101,110,100,101,100]⟩
theorem B2b:(⟨#[101,110,100,101,100]⟩:ByteArray)=wd2:=rfl
def wd3:ByteArray:=⟨#[105,110,115,105,100,101]⟩
theorem B2c:(⟨#[105,110,115,105,100,101]⟩:ByteArray)=wd3:=rfl
def wd4:ByteArray:=⟨#[115,116,111,114,101,100]⟩
theorem B2d:(⟨#[115,116,111,114,101,100]⟩:ByteArray)=wd4:=rfl
def wd5:ByteArray:=⟨#[101,110,116,101,114,101,100]⟩
theorem B2e:(⟨#[101,110,116,101,114,101,100]⟩:ByteArray)=wd5:=rfl
def wd6:ByteArray:=⟨#[108,101,102,116]⟩
theorem B2f:(⟨#[108,101,102,116]⟩:ByteArray)=wd6:=rfl
def wd7:ByteArray:=⟨#[99,111,117,110,116,101,100]⟩
theorem B2g:(⟨#[99,111,117,110,116,101,100]⟩:ByteArray)=wd7:=rfl
theorem wdn:¬wd2=wd1∧¬wd3=wd1∧¬wd3=wd2∧¬wd4=wd1∧¬wd4=wd2∧¬wd4=wd3∧¬wd5=wd1∧¬wd5=wd2∧¬wd5=wd3∧¬wd5=wd4∧¬wd6=wd1∧¬wd6=wd2∧¬wd6=wd3∧¬wd6=wd4∧¬wd6=wd5∧¬wd7=wd1∧¬wd7=wd2∧¬wd7=wd3∧¬wd7=wd4∧¬wd7=wd5∧¬wd7=wd6:=by decide
theorem Bid(w:ByteArray):Avl w=if w=wd1∨w=wd2∨w=wd3 then 1 else if w=wd4∨w=wd5∨w=wd6 then 2 else if w=wd7 then 3 else 0:=rfl
theorem Awb(L:Nat)(s:Aa)(t:Aw)(h:Ae2 s maxLen)(hL:maxLen < L):Ug L s t=some (Wh s t):=by
 have hM:=B4
 obtain ⟨_,_,h2,_,_,_,_,_,h8,h9⟩:=h
 have hR:decide (Aaf s t.Name≥0)=s.Routines.any (fun x=>decide (x.Name=t.Name)):=Agg _ _
 simp only [Amk,W9,Si,Sj,Sk,Sl,Sm,Sn,So,Rc,Re,Ug,W9,Si,Sj,Sk,Sl,Sm,Sn,So,Rc,Re,aN,aB,I2,Ql L s t.Name h9 (by omega),Alz L _ s t h2 hL,V2 L _ t.Name h8 hL,Hs,Option.bind_some,hR,Agg,Xo,Bq7,Bh6,Bid]
 simp only [B2a,B2b,B2c,B2d,B2e,B2f,B2g]
 by_cases c1:t.What=wd1
 ·simp [c1]
 by_cases c2:t.What=wd2
 ·simp [c1,c2,wdn]
 by_cases c3:t.What=wd3
 ·simp [c1,c2,c3,wdn]
 by_cases c4:t.What=wd4
 ·simp [c1,c2,c3,c4,wdn]
 by_cases c5:t.What=wd5
 ·simp [c1,c2,c3,c4,c5,wdn]
 by_cases c6:t.What=wd6
 ·simp [c1,c2,c3,c4,c5,c6,wdn]
 by_cases c7:t.What=wd7
 ·simp [c1,c2,c3,c4,c5,c6,c7,wdn]
 ·simp [c1,c2,c3,c4,c5,c6,c7]
end Go.Proofs.YtfencmicmnhglaaGreat.Ev
