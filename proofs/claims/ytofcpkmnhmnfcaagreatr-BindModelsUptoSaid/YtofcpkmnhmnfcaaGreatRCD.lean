/-  Chapter 11, plainly: Check of the program: its parts. -/
import Derived.Test.YtofcpkmnhmnfcaaGreatRQA
import Derived.Test.YtofcpkmnhmnfcaaGreatRCA
import Derived.Test.YtofcpkmnhmnfcaaGreatRPM
namespace Go.Proofs.YtofcpkmnhmnfcaaGreatR.Ev
open Go An
set_option maxRecDepth 100000
set_option linter.unusedVariables false
set_option linter.unusedSimpArgs false
set_option linter.unnecessarySimpa false
def pvA(l:List F1)(i:Nat):Option Int:=if i=0 then none else some (l.getD (i - 1) default).At
def geq(p:Option Int)(a:Int):Bool:=match p with
 |some q=>decide (a≤q)
 |none=>false
theorem Bbi(cy:Int)(p:Option Int)(c:F1)(k:List F1):A7b cy p (c::k)=if (Bm 0 (cy - 1) c.At && Bm 0 1000 c.Units)=false then 2 else if geq p c.At=true then 12 else A7b cy (some c.At) k:=rfl
theorem Bpr{β :Type}(l:List F1)(i:Nat)(hi:i < l.length)(hl:l.length≤maxLen)(a:Int)(A B:Option β):
  (bif decide ((i:Int) > 0) then (if (0:Int)≤B7 ((i:Int) - 1) then (if B7 ((i:Int) - 1) < ((l.length:Nat):Int) then (bif decide (a≤(l.getD (Int.toNat (B7 ((i:Int) - 1))) default).At) then A else B) else none) else none) else B)=if geq (pvA l i) a=true then A else B:=by
 have hM:=Bb
 cases i with
 |zero=>rfl
 |succ i=>
  have e:B7 (((i+1:Nat):Int) - 1)=(i:Int):=by rw [Au4 (by omega)];omega
  rw [e,decide_eq_true (show ((i+1:Nat):Int) > 0 by omega),cond_true,if_pos (by omega),if_pos (by omega),Z8]
  have e2:pvA l (i+1)=some (l.getD i default).At:=by unfold pvA;rw [if_neg (by omega),Nat.add_sub_cancel]
  rw [e2]
  show (bif decide (a≤(l.getD i default).At) then A else B)=if decide (a≤(l.getD i default).At)=true then A else B
  cases decide (a≤(l.getD i default).At)<;>rfl
theorem Bh4{l:List F1}{i:Nat}{x:F1}{k:List F1}(h:l.drop i=x::k):pvA l (i+1)=some x.At:=by
 obtain ⟨_,h2,_⟩:=Pt h
 unfold pvA
 rw [if_neg (by omega),Nat.add_sub_cancel,h2]
theorem Ax3(L:Nat)(r:Ah)(hl:r.Shift.length≤maxLen)(hc:B7 (r.Cycle - 1)=r.Cycle - 1):∀(k:List F1) (i:Nat) (v:Int),r.Shift.drop i=k→
  ∃j,D5 L r k i v=some (if A7b r.Cycle (pvA r.Shift i) k=0 then (1,(v,j)) else (0,(A7b r.Cycle (pvA r.Shift i) k,j))):=by
 intro k
 induction k with
 |nil=>intro i v _;exact ⟨i,rfl⟩
 |cons x k ih=>
  intro i v h
  obtain ⟨hi,hx,hk⟩:=Pt h
  obtain ⟨j,hj⟩:=ih (i+1) v hk
  rw [Bh4 h] at hj
  rw [D5]
  simp only [Iu,Option.bind_some,hc,Bpr r.Shift i hi hl,hj,Bbi]
  rcases Bool.eq_false_or_eq_true (Bm 0 (r.Cycle - 1) x.At) with hA|hA
  ·rcases Bool.eq_false_or_eq_true (Bm 0 1000 x.Units) with hB|hB
   ·rcases Bool.eq_false_or_eq_true (geq (pvA r.Shift i) x.At) with hC|hC
    ·exact ⟨i,by simp [hA,hB,hC]⟩
    ·exact ⟨j,by simp [hA,hB,hC]⟩
   ·exact ⟨i,by simp [hA,hB]⟩
  ·exact ⟨i,by simp [hA]⟩
theorem cyc{c:Int}(h:Bm 1 1000000000 c=true):B7 (c - 1)=c - 1:=by
 unfold Bm at h
 rw [Bool.and_eq_true,decide_eq_true_iff,decide_eq_true_iff] at h
 exact Z9 (by omega) (by omega)
theorem Bcc(r:Ah):Ax5 r=if r.Shift.length=0 then unl (r.Cycle == 0) 1 else if 20 < r.Shift.length then 6 else if Bm 1 1000000000 r.Cycle=false then 2 else A7b r.Cycle none r.Shift:=rfl
theorem B50{α :Type}(l:List α):((l.length:Int) == 0)=decide (l.length=0):=by
 by_cases h:l.length=0
 ·simp [h]
 ·rw [decide_eq_false h,beq_false_of_ne (by omega)]
theorem gtN(n m:Nat):decide ((n:Int) > (m:Int))=decide (m < n):=decide_eq_decide.2 (by omega)
theorem Azy(L:Nat)(r:Ah)(hl:r.Shift.length≤maxLen)(hL:maxLen < L):d8 L r=some (Ax5 r):=by
 have e20:decide ((r.Shift.length:Int) > 20)=decide (20 < r.Shift.length):=gtN _ 20
 simp only [Ape,Uj,Ob,d8,Uj,Ob,aN,aB,Iu,Option.bind_some,B50,e20,Bcc]
 by_cases h0:r.Shift.length=0
 ·rw [decide_eq_true h0,if_pos h0,cond_true]
  unfold unl
  by_cases hz:r.Cycle=0
  ·simp [hz]
  ·simp [Wl hz,beq_false_of_ne hz]
 ·rw [decide_eq_false h0,if_neg h0,cond_false]
  by_cases h2:20 < r.Shift.length
  ·rw [decide_eq_true h2,if_pos h2];rfl
  ·rw [decide_eq_false h2,if_neg h2,cond_false]
   cases hr:Bm 1 1000000000 r.Cycle with
   |false=>rfl
   |true=>
    obtain ⟨j,hj⟩:=Ax3 L r hl (cyc hr) r.Shift 0 0 rfl
    rw [Aul L r L hl (by omega),hj]
    simp only [Bool.not_true,cond_false,Option.bind_some,Bool.true_eq_false,if_false]
    have e:pvA r.Shift 0=none:=rfl
    rw [e]
    by_cases hz:A7b r.Cycle none r.Shift=0
    ·rw [if_pos hz,Kx,hz]
    ·rw [if_neg hz,Gm]
theorem A1s{d:Bn}(h:Sp d≤1048576):okD d:=by
 unfold Sp at h
 have h1:=Io (g:=fun _:Int=>1) (l:=d.Values) fun _=>Nat.le_refl 1
 have h2:=Io (g:=fun _:Int=>1) (l:=d.Weights) fun _=>Nat.le_refl 1
 exact ⟨by omega,by omega⟩
theorem Bf9(s:Aa)(f:Ki):Bmi s f=if f.Stream.size=0 then unl (Amw f.Up Ajt && Amw f.Down Ajt) 1 else if s.Streams.any (fun x=>decide (x=f.Stream))=false then 5 else fE (Av8 f.Up) (Av8 f.Down):=rfl
theorem Azx(L:Nat)(s:Aa)(f:Ki)(hs:s.Streams.length≤maxLen)(hb:L3 f≤1048576)(hL:maxLen < L):d7 L s f=some (Bmi s f):=by
 unfold L3 at hb
 have h1:okD f.Up:=A1s (by omega)
 have h2:okD f.Down:=A1s (by omega)
 simp only [Af9,d7,aN,aB,D0,A6h,Arz L f.Up _ h1 hL,Arz L f.Down _ h2 hL,Aos L f.Up h1 hL,Aos L f.Down h2 hL,Aaf L _ _ hs hL,Option.bind_some,Bf9]
 have hz:(⟨0,0,0,0,[],[]⟩:Bn)=Ajt:=rfl
 rw [hz]
 by_cases h0:f.Stream.size=0
 ·simp only [h0,decide_true,cond_true,if_true]
  cases Amw f.Up Ajt<;>cases Amw f.Down Ajt<;>rfl
 ·simp only [h0,decide_false,cond_false,if_false]
  cases s.Streams.any (fun x=>decide (x=f.Stream)) with
  |false=>rfl
  |true=>
   simp only [Bool.not_true,cond_false,Bool.true_eq_false,if_false]
   by_cases hd:Av8 f.Up=0
   ·simp [hd,Vx]
   ·simp [Wl hd,Rr hd]
theorem Bkm(L:Nat)(a b:List Ap)(ha:a.length≤1048576)(hb:b.length≤1048576)(hL:maxLen < L):Ky L [a,b]=some (a++b):=by
 have hM:=Bb
 have e1:∀n:Nat,n≤1048576→B7 (0+(n:Int))=(n:Int):=fun n hn=>by rw [Int.zero_add];exact Z9 (by omega) (by omega)
 have e2:B7 ((a.length:Int)+(b.length:Int))=((a.length+b.length:Nat):Int):=by rw [Z9 (by omega) (by omega)];omega
 simp only [Aae,Ix,Iy,Gk,Ky,Ix,Iy,Gk,aN,aB,Aje L [a,b] L (by simp;omega) (by simp;omega),Ajf L [a,b] L (by simp;omega) (by simp;omega),Ed,Ee,e1 _ ha,e2,Option.bind_some,Gm]
 rw [decide_eq_false (show¬(a.length:Int) < 0 by omega),decide_eq_false (show¬((a.length+b.length:Nat):Int) < 0 by omega)]
 simp only [cond_false,Option.bind_some,Gm,List.nil_append,List.length_nil]
 repeat rw [ifp (by omega)]
 rfl
theorem Aoi(L:Nat)(n:ByteArray)(hs:okS n)(hL:maxLen < L)(ks:List ByteArray):Cbe (Dc L n) n ks (tr ks)=some (Yt ks n,nx ks n,tr (nx ks n)):=
 B2u ks (Zd L n hs (Nat.lt_of_le_of_lt hs hL))
theorem A95{ks:List ByteArray}{n:ByteArray}{e:Int}(h:fE (Yt ks n) e=0):nx ks n=ks++ [n]:=if_pos (Bf8.1 h).1
def rtB(L:Nat)(r:Am)(x:Ap)(ks:List ByteArray)(vs:List Bool):Option (Int×List ByteArray×List Bool):=
 (K8 L x.Name r x ks vs).bind fun o=>bif o.1 != 0 then some o else (L1 L x.Type_).bind fun r4=>bif !r4 then some (1,o.2.1,o.2.2) else some (0,o.2.1,o.2.2)
theorem B6w(L:Nat)(fs:List Ap)(r:Am)(x:Ap)(k:List Ap)(i:Nat)(v:Int)(ks:List ByteArray)(vs:List Bool):
  Eo L fs r (x::k) i v ks vs=(rtB L r x ks vs).bind fun o=>bif o.1 != 0 then some (0,(o.1,(i:Int),o.2.1,o.2.2)) else Eo L fs r k (i+1) v o.2.1 o.2.2:=by
 rw [Eo,rtB]
 cases K8 L x.Name r x ks vs with
 |none=>rfl
 |some o=>
  simp only [Option.bind_some]
  by_cases h0:o.1=0
  ·simp only [h0,bne_self_eq_false,cond_false]
   cases L1 L x.Type_ with
   |none=>rfl
   |some b=>cases b<;>rfl
  ·simp only [Wl h0,cond_true,Option.bind_some]
theorem Cg2(L:Nat)(r:Am)(x:Ap)(hx:Ov x)(hL:maxLen < L)(ks:List ByteArray):
  ∃ks',rtB L r x ks (tr ks)=some (fE (Yt ks x.Name) (unl (Oy x.Type_) 1),ks',tr ks')∧(fE (Yt ks x.Name) (unl (Oy x.Type_) 1)=0→ks'=ks++ [x.Name]):=by
 refine ⟨nx ks x.Name,?_,A95⟩
 have e:K8 L x.Name r x ks (tr ks)=some (Yt ks x.Name,nx ks x.Name,tr (nx ks x.Name)):=Aoi L x.Name hx.1 hL ks
 rw [rtB,e,Option.bind_some,Amt,Option.bind_some]
 by_cases h0:Yt ks x.Name=0
 ·simp only [h0,Vx]
  cases Oy x.Type_<;>rfl
 ·simp only [Wl h0,cond_true,Rr h0]
def Ti:Nat:=maxLen+4194304
theorem Ow{L:Nat}(h:Ti≤L):maxLen < L:=Nat.lt_of_lt_of_le (Nat.lt_add_of_pos_right (by decide)) h
theorem Au8{L:Nat}{l:List Ad}(hL:Ti≤L)(hb:D3 l≤1048576):Fu L l:=by
 have h1:=Aw7 l
 refine ⟨Nat.lt_of_lt_of_le ?_ hL,hb⟩
 unfold Ti
 rw [Nat.add_assoc]
 exact Nat.add_lt_add_left (by omega) _
theorem Bii(r:Am):Az6 r=if 6 < r.Params.length∨16 < r.Params.length+r.Locals.length then 6 else fE (F2 (fun f:Ap=>f.Name) (fun f=>unl (Oy f.Type_) 1) [] (r.Params++r.Locals)).1 (Aox r.Body):=rfl
theorem Ajn{r:Am}(hb:Dw r≤1048576):r.Params.length≤1048576∧r.Locals.length≤1048576∧D3 r.Body≤1048576:=by
 unfold Dw at hb
 have h1:r.Params.length≤Hd Sq r.Params:=Io fun x=>by unfold Sq;omega
 have h2:r.Locals.length≤Hd Sq r.Locals:=Io fun x=>by unfold Sq;omega
 rw [Rw]
 exact ⟨by omega,by omega,by omega⟩
theorem A1w(L:Nat)(r:Am)(hr:Ii r)(hb:Dw r≤1048576)(hL:Ti≤L):Aa8 L r=some (Az6 r):=by
 have hM:=Bb
 obtain ⟨b1,b2,b3⟩:=Ajn hb
 have hL':maxLen < L:=Ow hL
 have e1:decide ((r.Params.length:Int) > 6)=decide (6 < r.Params.length):=gtN _ 6
 have e2:B7 ((r.Params.length:Int)+(r.Locals.length:Int))=((r.Params.length+r.Locals.length:Nat):Int):=by rw [Z9 (by omega) (by omega)];omega
 have e3:decide (((r.Params.length+r.Locals.length:Nat):Int) > 16)=decide (16 < r.Params.length+r.Locals.length):=gtN _ 16
 have c1:=Bkm L r.Params r.Locals b1 b2 hL'
 have c2:=Awf (show∀y∈r.Body,B2 y from hr.2.2.2.2) L (Au8 hL b3)
 simp only [Asc,Wc,Re,Aa8,Wc,Re,aN,aB,e1,e2,e3,Ly,Bii]
 by_cases h0:6 < r.Params.length∨16 < r.Params.length+r.Locals.length
 ·rw [if_pos h0]
  have:(decide (6 < r.Params.length) || decide (16 < r.Params.length+r.Locals.length))=true:=by simpa using h0
  rw [this];rfl
 ·rw [if_neg h0]
  have:(decide (6 < r.Params.length) || decide (16 < r.Params.length+r.Locals.length))=false:=by simpa using h0
  rw [this,cond_false,c1,Option.bind_some,Avn L _ r L (by simp;omega) (by simp;omega)]
  obtain ⟨j,ks',hj,_⟩:=Bu2 (nm:=fun f:Ap=>f.Name) (f:=fun f=>unl (Oy f.Type_) 1) (lq:=Eo L (r.Params++r.Locals) r) (bd:=rtB L r) (fun _ _ _ _=>rfl) (B6w L _ r) (r.Params++r.Locals) 0 0 [] (fun x hx ks=>Cg2 L r x (by
   rcases List.mem_append.1 hx with h|h
   ·exact hr.2.1.2 x h
   ·exact hr.2.2.1.2 x h) hL' ks)
  have hj':Eo L (r.Params++r.Locals) r (r.Params++r.Locals) 0 0 [] []=_:=hj
  rw [hj',Option.bind_some]
  by_cases hz:(F2 (fun f:Ap=>f.Name) (fun f=>unl (Oy f.Type_) 1) [] (r.Params++r.Locals)).1=0
  ·rw [if_pos hz,Kx,hz,Vx,c2];rfl
  ·rw [if_neg hz,Gm,Rr hz]
def Apg(p:List Ap)(a:List Int):Bool:=(p.zip a).all fun q=>Afy q.1.Type_ q.2
theorem Bce(s:Aa)(d:Br):A2f s d=match s.Routines.find? fun r=>decide (r.Name=d.Routine) with
 |none=>5
 |some r=>if d.Args.length≠r.Params.length then 8 else if Apg r.Params d.Args=false then 2
  else unl (Bm 0 1000000000 d.At && Bm 0 1000000000 d.Every && Bm 0 1000000000 d.Until && (d.Every != 0 || d.Until == 0)) 2:=rfl
theorem A43(L:Nat)(s:Aa)(n:Nat)(d:Br)(p:List Ap)(hp:(s.Routines.getD n default).Params=p):∀(k:List Int) (i:Nat) (v:Int),i+k.length=p.length→
  ∃j,Jf L s (n:Int) d k i v=some (if Apg (p.drop i) k=true then (1,(v,j)) else (0,(2,j))):=by
 intro k
 induction k with
 |nil=>intro i v _;exact ⟨i,by unfold Apg;simp [Jf]⟩
 |cons x k ih=>
  intro i v h
  rw [List.length_cons] at h
  have hi:i < p.length:=by omega
  obtain ⟨j,hj⟩:=ih (i+1) v (by omega)
  rw [Jf]
  simp only [Z8,hp,Hp hi,if_true,Aot,Option.bind_some,hj]
  have e:Apg (p.drop i) (x::k)=(Afy (p.getD i default).Type_ x && Apg (p.drop (i+1)) k):=by
   unfold Apg
   rw [Abd p i hi,List.zip_cons_cons,List.all_cons]
  rw [e]
  cases Afy (p.getD i default).Type_ x with
  |false=>exact ⟨i,rfl⟩
  |true=>exact ⟨j,by simp⟩
theorem A8r(L:Nat)(s:Aa)(d:Br)(hs:s.Routines.length≤maxLen)(hd:d.Args.length≤maxLen)(hL:maxLen < L):W6 L s d=some (A2f s d):=by
 have hM:=Bb
 simp only [Av2,z8,Vh,W6,z8,Vh,aN,aB,U0 L s d.Routine hs (by omega),Option.bind_some,U2,Adr,Bce,Ame]
 cases hf:s.Routines.findIdx? (fun x=>decide (x.Name=d.Routine)) with
 |none=>rfl
 |some i=>
  have hi:=Aj1 hf
  simp only [Option.isNone_some,cond_false,N7,nn,if_true,Hp hi,Z8,Option.map_some]
  by_cases hn:d.Args.length=(s.Routines.getD i default).Params.length
  ·rw [if_neg (by simpa using hn)]
   have:((d.Args.length:Int) != ((s.Routines.getD i default).Params.length:Int))=false:=by rw [hn];simp
   rw [this,cond_false,Azk L s _ d L hd (by omega)]
   obtain ⟨j,hj⟩:=A43 L s i d _ rfl d.Args 0 0 (by omega)
   rw [hj,Option.bind_some,List.drop_zero]
   cases Apg (s.Routines.getD i default).Params d.Args with
   |false=>rfl
   |true=>
    simp only [if_true,Kx,Iu,Option.bind_some,Bool.true_eq_false,if_false]
    cases Bm 0 1000000000 d.At<;>cases Bm 0 1000000000 d.Every<;>cases Bm 0 1000000000 d.Until<;>try rfl
    by_cases h1:d.Every=0<;>by_cases h2:d.Until=0<;>simp [h1,h2,unl,Wl,beq_false_of_ne]
  ·rw [if_pos (by simpa using hn)]
   have:((d.Args.length:Int) != ((s.Routines.getD i default).Params.length:Int))=true:=bne_iff_ne.2 (by omega)
   rw [this];rfl
theorem A85(L:Nat)(l:List Ar)(s:Aa)(t:Ay):∀(k:List Ar) (i:Nat) (v:Int),N2 L l s t k i v=some (match k.findIdx? (fun x=>x.Name.toList == t.Name.toList) with|some j=>(0,(((i+j:Nat):Int),((i+j:Nat):Int)))|none=>(1,(v,((i+k.length:Nat):Int)))):=by
 intro k
 induction k with
 |nil=>intro i v;rfl
 |cons x k ih=>
  intro i v
  rw [N2,ih,List.findIdx?_cons]
  cases hc:x.Name.toList == t.Name.toList with
  |true=>simp only [cond_true,if_true];rfl
  |false=>
   simp only [cond_false,if_false,Bool.false_eq_true]
   cases k.findIdx? (fun x=>x.Name.toList == t.Name.toList) with
   |some j=>simp [Nat.add_assoc,Nat.add_comm 1]
   |none=>simp [Nat.add_assoc,Nat.add_comm 1]
theorem Ax1(L:Nat)(l:List Ar)(s:Aa)(t:Ay)(hl:l.length≤maxLen)(hL:maxLen < L):F0 L l s t=some (N7 (l.findIdx? fun x=>decide (x.Name=t.Name))):=by
 simp only [F0,Asm,Ab0,aN,aB,A1j L l s t L hl (by omega),A85,D0,Option.bind_some]
 cases l.findIdx? (fun x=>decide (x.Name=t.Name)) with
 |none=>rfl
 |some i=>simp [N7,Gm]
theorem Bzu(s:Aa)(t:Ay):Vn s t=if Aku t.What=0 then 1
 else if (if Aku t.What=1 then s.Routines.any (fun r=>decide (r.Name=t.Name)) else if Aku t.What=2 then s.Stores.any (fun x=>decide (x.Name=t.Name)) else s.Counts.any (fun x=>decide (x=t.Name)))=false then 5
 else A28 t:=rfl
theorem Cbb(t:Ay)(b:Bool):(bif !b then some (5:Int) else bif !Bm (-1000) 1000 t.Coef || t.Coef == 0 then some 2 else some 0)=some (if b=false then 5 else A28 t):=by
 cases b with
 |false=>rfl
 |true=>
  unfold A28 unl
  simp only [Bool.not_true,cond_false,Bool.true_eq_false,if_false]
  by_cases h:t.Coef=0<;>cases Bm (-1000) 1000 t.Coef<;>simp [h,Wl,beq_false_of_ne]
def wd1:ByteArray:=⟨#[99,114,101,97,116,101,100]⟩
theorem B8t:(⟨#[99,114,101,97,116,101,100]⟩:ByteArray)=wd1:=rfl
def wd2:ByteArray:=⟨#[101,110,100,101,100]⟩
theorem B8u:(⟨#[101,110,100,101,100]⟩:ByteArray)=wd2:=rfl
def wd3:ByteArray:=⟨#[105,110,115,105,100,101]⟩
theorem B8v:(⟨#[105,110,115,105,100,101]⟩:ByteArray)=wd3:=rfl
def wd4:ByteArray:=⟨#[115,116,111,114,101,100]⟩
theorem B8w:(⟨#[115,116,111,114,101,100]⟩:ByteArray)=wd4:=rfl
def wd5:ByteArray:=⟨#[101,110,116,101,114,101,100]⟩
theorem B8x:(⟨#[101,110,116,101,114,101,100]⟩:ByteArray)=wd5:=rfl
def wd6:ByteArray:=⟨#[108,101,102,116]⟩
theorem B8y:(⟨#[108,101,102,116]⟩:ByteArray)=wd6:=rfl
def wd7:ByteArray:=⟨#[99,111,117,110,116,101,100]⟩
theorem B8z:(⟨#[99,111,117,110,116,101,100]⟩:ByteArray)=wd7:=rfl
theorem wdn:¬wd2=wd1∧¬wd3=wd1∧¬wd3=wd2∧¬wd4=wd1∧¬wd4=wd2∧¬wd4=wd3∧¬wd5=wd1∧¬wd5=wd2∧¬wd5=wd3∧¬wd5=wd4∧¬wd6=wd1∧¬wd6=wd2∧¬wd6=wd3∧¬wd6=wd4∧¬wd6=wd5∧¬wd7=wd1∧¬wd7=wd2∧¬wd7=wd3∧¬wd7=wd4∧¬wd7=wd5∧¬wd7=wd6:=by decide
theorem Bi3(w:ByteArray):Aku w=if w=wd1∨w=wd2∨w=wd3 then 1 else if w=wd4∨w=wd5∨w=wd6 then 2 else if w=wd7 then 3 else 0:=rfl
theorem Bag(L:Nat)(s:Aa)(t:Ay)(h:Ys s maxLen)(hL:maxLen < L):d9 L s t=some (Vn s t):=by
 have hM:=Bb
 obtain ⟨_,_,h2,_,_,_,_,_,h8,h9⟩:=h
 have hR:decide (U2 s t.Name≥0)=s.Routines.any (fun x=>decide (x.Name=t.Name)):=Anp _ _
 simp only [Ayn,Ab6,Wt,Wu,Wv,Ww,Wx,Wy,Wz,Vi,Vj,d9,Ab6,Wt,Wu,Wv,Ww,Wx,Wy,Wz,Vi,Vj,aN,aB,D0,U0 L s t.Name h9 (by omega),Ax1 L _ s t h2 hL,Aaf L _ t.Name h8 hL,Iu,Option.bind_some,hR,Anp,Ly,Cbb,Bzu,Bi3]
 simp only [B8t,B8u,B8v,B8w,B8x,B8y,B8z]
 by_cases c1:t.What=wd1
 ·simp [c1]
 by_cases c2:t.What=wd2
 ·simp [c1,c2,wdn]
 by_cases c3:t.What=wd3
 ·simp [c1,c2,c3,wdn]
 by_cases c4:t.What=wd4
 ·simp [c1,c2,c3,c4,wdn]
 by_cases c5:t.What=wd5
 ·simp [c1,c2,c3,c4,c5,wdn]
 by_cases c6:t.What=wd6
 ·simp [c1,c2,c3,c4,c5,c6,wdn]
 by_cases c7:t.What=wd7
 ·simp [c1,c2,c3,c4,c5,c6,c7,wdn]
 ·simp [c1,c2,c3,c4,c5,c6,c7]
end Go.Proofs.YtofcpkmnhmnfcaaGreatR.Ev
