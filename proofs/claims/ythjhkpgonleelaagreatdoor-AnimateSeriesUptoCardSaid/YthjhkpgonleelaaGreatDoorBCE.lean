/-  Chapter 14, plainly: statements of the program. -/
import Derived.Test.YthjhkpgonleelaaGreatDoorBPI
import Derived.Test.YthjhkpgonleelaaGreatDoorBQA
import Derived.Test.YthjhkpgonleelaaGreatDoorBCA
namespace Go.Proofs.YthjhkpgonleelaaGreatDoor.Ev
open Go An
set_option maxRecDepth 100000
set_option linter.unusedVariables false
set_option linter.unusedSimpArgs false
set_option linter.unnecessarySimpa false
theorem Am0(L:Nat)(l:List Aa)(m:Aq)(n:ByteArray):∀(k:List Aa) (i:Nat) (v:Int),I6 L l m n k i v=some (match k.findIdx? (fun x=>x.Name.toList == n.toList) with|some j=>(0,(((i+j:Nat):Int),((i+j:Nat):Int)))|none=>(1,(v,((i+k.length:Nat):Int)))):=by
 intro k
 induction k with
 |nil=>intro i v;rfl
 |cons x k ih=>
  intro i v
  rw [I6,ih,List.findIdx?_cons]
  cases hc:(fun x=>x.Name.toList == n.toList) x with
  |true=>simp only [hc,cond_true,if_true];rfl
  |false=>
   simp only [hc,cond_false,if_false,Bool.false_eq_true]
   cases k.findIdx? (fun x=>x.Name.toList == n.toList) with
   |some j=>simp [Nat.add_assoc,Nat.add_comm 1]
   |none=>simp [Nat.add_assoc,Nat.add_comm 1]
theorem Afv(L:Nat)(l:List Aa)(m:Aq)(n:ByteArray)(hl:l.length≤maxLen)(hL:l.length < L):Si L l m n=some (Adm (l.findIdx? (fun x=>decide (x.Name=n)))):=by
 simp only [Si,Aci,S3,aN,aB,Aix _ _ _ _ _ hl hL,Am0,Wv,Option.bind_some]
 cases l.findIdx? (fun x=>decide (x.Name=n)) with
 |none=>rfl
 |some i=>simp [Adm,R4]
def A2a(m:Aq)(n:ByteArray):Int:=Adm (m.Sites.findIdx? fun x=>decide (x.Name=n))
theorem An5(L:Nat)(m:Aq)(n:ByteArray)(hl:m.Sites.length≤maxLen)(hL:maxLen < L):Ty L m n=some (A2a m n):=by
 simp only [Agi,N9,Ty,N9,aN,aB,Afv L _ m n hl (by omega),Option.bind_some,A2a]
theorem A5n{α :Type} [Inhabited α](p: α→Bool)(l:List α):l.find? p=(l.findIdx? p).map fun i=>l.getD i default:=by
 induction l with
 |nil=>rfl
 |cons x l ih=>
  rw [List.find?_cons,List.findIdx?_cons]
  cases p x with
  |true=>rfl
  |false=>
   simp only [ih,Bool.false_eq_true,if_false]
   cases l.findIdx? p<;>simp
theorem Bfs{α :Type}{p: α→Bool}{l:List α}{i:Nat}(h:l.findIdx? p=some i):i < l.length:=by
 obtain ⟨h1,_⟩:=List.findIdx?_eq_some_iff_getElem.1 h
 exact h1
theorem Afn.max{s:Aa}(h:Afn s 1099511627776):Afn s maxLen:=h.mono (by rw [Gw];omega)
theorem Atq{α :Type}(l:List α)(p: α→Bool):decide (Adm (l.findIdx? p) < 0)=(l.findIdx? p).isNone:=by
 cases l.findIdx? p with
 |none=>rfl
 |some i=>exact decide_eq_false (by simp [Adm])
theorem u5(L:Nat)(n:ByteArray)(hs:j5 n)(hL:maxLen < L)(ks:List ByteArray):Bfg (Cr L n) n ks (tr ks)=some (Xu ks n,nx ks n,tr (nx ks n)):=
 A9s ks (Km L n hs (Nat.lt_of_le_of_lt hs hL))
theorem An0{ks:List ByteArray}{n:ByteArray}{e:Int}(h:fE (Xu ks n) e=0):nx ks n=ks++ [n]:=if_pos (Boc.1 h).1
def rtB(L:Nat)(r:Ao)(x:Ba)(ks:List ByteArray)(vs:List Bool):Option (Int×List ByteArray×List Bool):=
 (Hs L x.Name r x ks vs).bind fun o=>bif o.1 != 0 then some o else (H0 L x.Type_).bind fun r4=>bif !r4 then some (1,o.2.1,o.2.2) else some (0,o.2.1,o.2.2)
theorem Bcu(L:Nat)(fs:List Ba)(r:Ao)(x:Ba)(k:List Ba)(i:Nat)(v:Int)(ks:List ByteArray)(vs:List Bool):
  Ds L fs r (x::k) i v ks vs=(rtB L r x ks vs).bind fun o=>bif o.1 != 0 then some (0,(o.1,(i:Int),o.2.1,o.2.2)) else Ds L fs r k (i+1) v o.2.1 o.2.2:=by
 rw [Ds,rtB]
 cases Hs L x.Name r x ks vs with
 |none=>rfl
 |some o=>
  simp only [Option.bind_some]
  by_cases h0:o.1=0
  ·simp only [h0,bne_self_eq_false,cond_false]
   cases H0 L x.Type_ with
   |none=>rfl
   |some b=>cases b<;>rfl
  ·simp only [g6 h0,cond_true,Option.bind_some]
theorem Bip(L:Nat)(r:Ao)(x:Ba)(hx:T1 x)(hL:maxLen < L)(ks:List ByteArray):
  ∃ks',rtB L r x ks (tr ks)=some (fE (Xu ks x.Name) (X3 (Ww x.Type_) 1),ks',tr ks')∧(fE (Xu ks x.Name) (X3 (Ww x.Type_) 1)=0→ks'=ks++ [x.Name]):=by
 refine ⟨nx ks x.Name,?_,An0⟩
 have e:Hs L x.Name r x ks (tr ks)=some (Xu ks x.Name,nx ks x.Name,tr (nx ks x.Name)):=u5 L x.Name hx.1 hL ks
 rw [rtB,e,Option.bind_some,d4,Option.bind_some]
 by_cases h0:Xu ks x.Name=0
 ·simp only [h0,Pt]
  cases Ww x.Type_<;>rfl
 ·simp only [g6 h0,cond_true,Ox h0]
def Ts:Nat:=maxLen+4194304
theorem Mb{L:Nat}(h:Ts≤L):maxLen < L:=Nat.lt_of_lt_of_le (Nat.lt_add_of_pos_right (by decide)) h
theorem A9w{L:Nat}{l:List Ag}(hL:Ts≤L)(hb:Dk l≤1048576):Fu L l:=by
 have h1:=Al0 l
 refine ⟨Nat.lt_of_lt_of_le ?_ hL,hb⟩
 unfold Ts
 rw [Nat.add_assoc]
 exact Nat.add_lt_add_left (by omega) _
theorem A7m(r:Ao):Apg r=if 6 < r.Params.length∨16 < r.Params.length+r.Locals.length then 6 else fE (Yu (fun f:Ba=>f.Name) (fun f=>X3 (Ww f.Type_) 1) [] (r.Params++r.Locals)).1 (Asd r.Body):=rfl
theorem A7n{r:Ao}(hb:F5 r≤1048576):r.Params.length≤1048576∧r.Locals.length≤1048576∧Dk r.Body≤1048576:=by
 unfold F5 at hb
 have h1:r.Params.length≤Er Lg r.Params:=Hp fun x=>by unfold Lg;omega
 have h2:r.Locals.length≤Er Lg r.Locals:=Hp fun x=>by unfold Lg;omega
 rw [K1]
 exact ⟨by omega,by omega,by omega⟩
theorem Ajg(L:Nat)(r:Ao)(hr:P0 r)(hb:F5 r≤1048576)(hL:Ts≤L):Sf L r=some (Apg r):=by
 have hM:=Gw
 obtain ⟨b1,b2,b3⟩:=A7n hb
 have hL':maxLen < L:=Mb hL
 have e1:decide ((r.Params.length:Int) > 6)=decide (6 < r.Params.length):=gtN _ 6
 have e2:Bi ((r.Params.length:Int)+(r.Locals.length:Int))=((r.Params.length+r.Locals.length:Nat):Int):=by rw [Nv (by omega) (by omega)];omega
 have e3:decide (((r.Params.length+r.Locals.length:Nat):Int) > 16)=decide (16 < r.Params.length+r.Locals.length):=gtN _ 16
 have c1:=Aw8 L r.Params r.Locals b1 b2 hL'
 have c2:=An9 (show∀y∈r.Body,Dj y from hr.2.2.2.2) L (A9w hL b3)
 simp only [Acg,Ny,Kq,Sf,Ny,Kq,aN,aB,e1,e2,e3,Rx,A7m]
 by_cases h0:6 < r.Params.length∨16 < r.Params.length+r.Locals.length
 ·rw [if_pos h0]
  have:(decide (6 < r.Params.length) || decide (16 < r.Params.length+r.Locals.length))=true:=by simpa using h0
  rw [this];rfl
 ·rw [if_neg h0]
  have:(decide (6 < r.Params.length) || decide (16 < r.Params.length+r.Locals.length))=false:=by simpa using h0
  rw [this,cond_false,c1,Option.bind_some,Aeg L _ r L (by simp;omega) (by simp;omega)]
  obtain ⟨j,ks',hj,_⟩:=A5h (nm:=fun f:Ba=>f.Name) (f:=fun f=>X3 (Ww f.Type_) 1) (lq:=Ds L (r.Params++r.Locals) r) (bd:=rtB L r) (fun _ _ _ _=>rfl) (Bcu L _ r) (r.Params++r.Locals) 0 0 [] (fun x hx ks=>Bip L r x (by
   rcases List.mem_append.1 hx with h|h
   ·exact hr.2.1.2 x h
   ·exact hr.2.2.1.2 x h) hL' ks)
  have hj':Ds L (r.Params++r.Locals) r (r.Params++r.Locals) 0 0 [] []=_:=hj
  rw [hj',Option.bind_some]
  by_cases hz:(Yu (fun f:Ba=>f.Name) (fun f=>X3 (Ww f.Type_) 1) [] (r.Params++r.Locals)).1=0
  ·rw [if_pos hz,x0,hz,Pt,c2];rfl
  ·rw [if_neg hz,R4,Ox hz]
def Alq(p:List Ba)(a:List Int):Bool:=(p.zip a).all fun q=>Aeu q.1.Type_ q.2
theorem A35(s:Aa)(d:Cl):Axx s d=match s.Routines.find? fun r=>decide (r.Name=d.Routine) with
 |none=>5
 |some r=>if d.Args.length≠r.Params.length then 8 else if Alq r.Params d.Args=false then 2
  else X3 (B7 0 1000000000 d.At && B7 0 1000000000 d.Every && B7 0 1000000000 d.Until && (d.Every != 0 || d.Until == 0)) 2:=rfl
theorem Ak2(L:Nat)(s:Aa)(n:Nat)(d:Cl)(p:List Ba)(hp:(s.Routines.getD n default).Params=p):∀(k:List Int) (i:Nat) (v:Int),i+k.length=p.length→
  ∃j,Gk L s (n:Int) d k i v=some (if Alq (p.drop i) k=true then (1,(v,j)) else (0,(2,j))):=by
 intro k
 induction k with
 |nil=>intro i v _;exact ⟨i,by unfold Alq;simp [Gk]⟩
 |cons x k ih=>
  intro i v h
  rw [List.length_cons] at h
  have hi:i < p.length:=by omega
  obtain ⟨j,hj⟩:=ih (i+1) v (by omega)
  rw [Gk]
  simp only [toN,hp,m8 hi,if_true,w3,Option.bind_some,hj]
  have e:Alq (p.drop i) (x::k)=(Aeu (p.getD i default).Type_ x && Alq (p.drop (i+1)) k):=by
   unfold Alq
   rw [Ay8 p i hi,List.zip_cons_cons,List.all_cons]
  rw [e]
  cases Aeu (p.getD i default).Type_ x with
  |false=>exact ⟨i,rfl⟩
  |true=>exact ⟨j,by simp⟩
theorem Amr(L:Nat)(s:Aa)(d:Cl)(hs:s.Routines.length≤maxLen)(hd:d.Args.length≤maxLen)(hL:maxLen < L):Oq L s d=some (Axx s d):=by
 have hM:=Gw
 simp only [Aep,Rt,Nb,Oq,Rt,Nb,aN,aB,Aaw L s d.Routine hs (by omega),Option.bind_some,Ahv,Atq,A35,A5n]
 cases hf:s.Routines.findIdx? (fun x=>decide (x.Name=d.Routine)) with
 |none=>rfl
 |some i=>
  have hi:=Bfs hf
  simp only [Option.isNone_some,cond_false,Adm,nn,if_true,m8 hi,toN,Option.map_some]
  by_cases hn:d.Args.length=(s.Routines.getD i default).Params.length
  ·rw [if_neg (by simpa using hn)]
   have:((d.Args.length:Int) != ((s.Routines.getD i default).Params.length:Int))=false:=by rw [hn];simp
   rw [this,cond_false,Ahg L s _ d L hd (by omega)]
   obtain ⟨j,hj⟩:=Ak2 L s i d _ rfl d.Args 0 0 (by omega)
   rw [hj,Option.bind_some,List.drop_zero]
   cases Alq (s.Routines.getD i default).Params d.Args with
   |false=>rfl
   |true=>
    simp only [if_true,x0,Ga,Option.bind_some,Bool.true_eq_false,if_false]
    cases B7 0 1000000000 d.At<;>cases B7 0 1000000000 d.Every<;>cases B7 0 1000000000 d.Until<;>try rfl
    by_cases h1:d.Every=0<;>by_cases h2:d.Until=0<;>simp [h1,h2,X3,g6,beq_false_of_ne]
  ·rw [if_pos (by simpa using hn)]
   have:((d.Args.length:Int) != ((s.Routines.getD i default).Params.length:Int))=true:=bne_iff_ne.2 (by omega)
   rw [this];rfl
theorem Am1(L:Nat)(l:List Av)(s:Aa)(t:Be):∀(k:List Av) (i:Nat) (v:Int),I7 L l s t k i v=some (match k.findIdx? (fun x=>x.Name.toList == t.Name.toList) with|some j=>(0,(((i+j:Nat):Int),((i+j:Nat):Int)))|none=>(1,(v,((i+k.length:Nat):Int)))):=by
 intro k
 induction k with
 |nil=>intro i v;rfl
 |cons x k ih=>
  intro i v
  rw [I7,ih,List.findIdx?_cons]
  cases hc:x.Name.toList == t.Name.toList with
  |true=>simp only [cond_true,if_true];rfl
  |false=>
   simp only [cond_false,if_false,Bool.false_eq_true]
   cases k.findIdx? (fun x=>x.Name.toList == t.Name.toList) with
   |some j=>simp [Nat.add_assoc,Nat.add_comm 1]
   |none=>simp [Nat.add_assoc,Nat.add_comm 1]
theorem Afx(L:Nat)(l:List Av)(s:Aa)(t:Be)(hl:l.length≤maxLen)(hL:maxLen < L):D3 L l s t=some (Adm (l.findIdx? fun x=>decide (x.Name=t.Name))):=by
 simp only [D3,Acl,S4,aN,aB,Ai7 L l s t L hl (by omega),Am1,Wv,Option.bind_some]
 cases l.findIdx? (fun x=>decide (x.Name=t.Name)) with
 |none=>rfl
 |some i=>simp [Adm,R4]
theorem A8m(s:Aa)(t:Be):Kr s t=if Anq t.What=0 then 1
 else if (if Anq t.What=1 then s.Routines.any (fun r=>decide (r.Name=t.Name)) else if Anq t.What=2 then s.Stores.any (fun x=>decide (x.Name=t.Name)) else s.Counts.any (fun x=>decide (x=t.Name)))=false then 5
 else Ay4 t:=rfl
theorem Bfd(t:Be)(b:Bool):(bif !b then some (5:Int) else bif !B7 (-1000) 1000 t.Coef || t.Coef == 0 then some 2 else some 0)=some (if b=false then 5 else Ay4 t):=by
 cases b with
 |false=>rfl
 |true=>
  unfold Ay4 X3
  simp only [Bool.not_true,cond_false,Bool.true_eq_false,if_false]
  by_cases h:t.Coef=0<;>cases B7 (-1000) 1000 t.Coef<;>simp [h,g6,beq_false_of_ne]
def wd1:ByteArray:=⟨#[99,114,101,97,116,101,100]⟩
theorem Bmf:(⟨#[99,114,101,97,116,101,100]⟩:ByteArray)=wd1:=rfl
def wd2:ByteArray:=⟨#[101,110,100,101,100]⟩
theorem Bmg:(⟨#[101,110,100,101,100]⟩:ByteArray)=wd2:=rfl
def wd3:ByteArray:=⟨#[105,110,115,105,100,101]⟩
theorem Bmh:(⟨#[105,110,115,105,100,101]⟩:ByteArray)=wd3:=rfl
def wd4:ByteArray:=⟨#[115,116,111,114,101,100]⟩
theorem Bmi:(⟨#[115,116,111,114,101,100]⟩:ByteArray)=wd4:=rfl
def wd5:ByteArray:=⟨#[101,110,116,101,114,101,100]⟩
theorem Bmj:(⟨#[101,110,116,101,114,101,100]⟩:ByteArray)=wd5:=rfl
def wd6:ByteArray:=⟨#[108,101,102,116]⟩
theorem Bmk:(⟨#[108,101,102,116]⟩:ByteArray)=wd6:=rfl
def wd7:ByteArray:=⟨#[99,111,117,110,116,101,100]⟩
theorem Bml:(⟨#[99,111,117,110,116,101,100]⟩:ByteArray)=wd7:=rfl
theorem wdn:¬wd2=wd1∧¬wd3=wd1∧¬wd3=wd2∧¬wd4=wd1∧¬wd4=wd2∧¬wd4=wd3∧¬wd5=wd1∧¬wd5=wd2∧¬wd5=wd3∧¬wd5=wd4∧¬wd6=wd1∧¬wd6=wd2∧¬wd6=wd3∧¬wd6=wd4∧¬wd6=wd5∧¬wd7=wd1∧¬wd7=wd2∧¬wd7=wd3∧¬wd7=wd4∧¬wd7=wd5∧¬wd7=wd6:=by decide
theorem A8v(w:ByteArray):Anq w=if w=wd1∨w=wd2∨w=wd3 then 1 else if w=wd4∨w=wd5∨w=wd6 then 2 else if w=wd7 then 3 else 0:=rfl
theorem An8(L:Nat)(s:Aa)(t:Be)(h:Afn s maxLen)(hL:maxLen < L):Qn L s t=some (Kr s t):=by
 have hM:=Gw
 obtain ⟨_,_,h2,_,_,_,_,_,h8,h9⟩:=h
 have hR:decide (Ahv s t.Name≥0)=s.Routines.any (fun x=>decide (x.Name=t.Name)):=Aq9 _ _
 simp only [Agl,Td,Oa,Ob,Oc,Od,Oe,Og,Oh,Nc,Nd,Qn,Td,Oa,Ob,Oc,Od,Oe,Og,Oh,Nc,Nd,aN,aB,Wv,Aaw L s t.Name h9 (by omega),Afx L _ s t h2 hL,Rz L _ t.Name h8 hL,Ga,Option.bind_some,hR,Aq9,Rx,Bfd,A8m,A8v]
 simp only [Bmf,Bmg,Bmh,Bmi,Bmj,Bmk,Bml]
 by_cases c1:t.What=wd1
 ·simp [c1]
 by_cases c2:t.What=wd2
 ·simp [c1,c2,wdn]
 by_cases c3:t.What=wd3
 ·simp [c1,c2,c3,wdn]
 by_cases c4:t.What=wd4
 ·simp [c1,c2,c3,c4,wdn]
 by_cases c5:t.What=wd5
 ·simp [c1,c2,c3,c4,c5,wdn]
 by_cases c6:t.What=wd6
 ·simp [c1,c2,c3,c4,c5,c6,wdn]
 by_cases c7:t.What=wd7
 ·simp [c1,c2,c3,c4,c5,c6,c7,wdn]
 ·simp [c1,c2,c3,c4,c5,c6,c7]
structure SG (s:Aa):Prop where
 ok:Ch s
 bk:Da s≤1048576
theorem SG.len{s:Aa}(h:SG s):Afn s 1099511627776:=(Auc s).mono (Nat.le_trans h.bk (by decide))
theorem SG.ln{s:Aa}(h:SG s):Afn s maxLen:=h.len.max
theorem SG.vars{s:Aa}(h:SG s):∀x∈s.Vars,Nn x:=by have:=h.ok;unfold Ch at this;exact this.2.1.2
theorem SG.res{s:Aa}(h:SG s):∀x∈s.Resources,L9 x:=by have:=h.ok;unfold Ch at this;exact this.2.2.1.2
theorem SG.stores{s:Aa}(h:SG s):∀x∈s.Stores,Mi x:=by have:=h.ok;unfold Ch at this;exact this.2.2.2.1.2
theorem SG.belts{s:Aa}(h:SG s):∀x∈s.Belts,N1 x:=by have:=h.ok;unfold Ch at this;exact this.2.2.2.2.1.2
theorem SG.queues{s:Aa}(h:SG s):∀x∈s.Queues,j5 x:=by have:=h.ok;unfold Ch at this;exact this.2.2.2.2.2.1.2
theorem SG.streams{s:Aa}(h:SG s):∀x∈s.Streams,j5 x:=by have:=h.ok;unfold Ch at this;exact this.2.2.2.2.2.2.1.2
theorem SG.tallies{s:Aa}(h:SG s):∀x∈s.Tallies,j5 x:=by have:=h.ok;unfold Ch at this;exact this.2.2.2.2.2.2.2.1.2
theorem SG.levels{s:Aa}(h:SG s):∀x∈s.Levels,j5 x:=by have:=h.ok;unfold Ch at this;exact this.2.2.2.2.2.2.2.2.1.2
theorem SG.counts{s:Aa}(h:SG s):∀x∈s.Counts,j5 x:=by have:=h.ok;unfold Ch at this;exact this.2.2.2.2.2.2.2.2.2.1.2
theorem SG.routs{s:Aa}(h:SG s):∀x∈s.Routines,P0 x:=by have:=h.ok;unfold Ch at this;exact this.2.2.2.2.2.2.2.2.2.2.1.2
theorem SG.starts{s:Aa}(h:SG s):s.Starts.length≤maxLen∧∀x∈s.Starts,Y4 x:=by have:=h.ok;unfold Ch at this;exact this.2.2.2.2.2.2.2.2.2.2.2.1
theorem SG.laws{s:Aa}(h:SG s):s.Laws.length≤maxLen∧∀x∈s.Laws,Zp x:=by have:=h.ok;unfold Ch at this;exact this.2.2.2.2.2.2.2.2.2.2.2.2
theorem SG.bkR{s:Aa}(h:SG s):∀x∈s.Routines,F5 x≤1048576:=by
 intro x hx
 have h1:=Sd (g:=F5) hx
 have h2:=h.bk
 unfold Da at h2
 omega
theorem SG.bkD{s:Aa}(h:SG s):∀x∈s.Resources,Qp x.Fault≤1048576:=by
 intro x hx
 have h1:=Sd (g:=Ei) hx
 have h2:=h.bk
 have h3:Qp x.Fault≤Ei x:=by unfold Ei;omega
 unfold Da at h2
 omega
theorem Ba3(tm:Be→Int)(l:Bh):Arf tm l=fE (X3 (decide (0 < l.Terms.length)) 7) (fE (X3 (decide (l.Terms.length≤8)) 6) (fE (Y7 tm l.Terms) (X3 (inZ l.Total) 2))):=rfl
theorem Bfx(L:Nat)(s:Aa)(l:Bh)(hl:Zp l)(hs:Afn s maxLen)(hL:maxLen < L)(ks:List ByteArray):
  ∃ks',K3 L l s ks (tr ks) l=some (fE (Xu ks l.Name) (Arf (Kr s) l),ks',tr ks')∧(fE (Xu ks l.Name) (Arf (Kr s) l)=0→ks'=ks++ [l.Name]):=by
 have hM:=Gw
 refine ⟨nx ks l.Name,?_,An0⟩
 have e:Vx L l.Name s ks (tr ks) l l=some (Xu ks l.Name,nx ks l.Name,tr (nx ks l.Name)):=u5 L l.Name hl.1 hL ks
 have e2:∀a b c d,Vy L l.Terms s a b c d=some (if 8 < l.Terms.length then 6 else Y7 (Kr s) l.Terms):=fun a b c d=>
  Ayv (lq:=K5 L l.Terms s a b c d) (bd:=Qn L s) (fun _ _=>rfl) (fun _ _ _ _=>rfl) 8 l.Terms 0 _ (Aiz L l.Terms s a b c d L hl.2.1.1 (Nat.lt_of_le_of_lt hl.2.1.1 hL) 0) fun x _=>An8 L s x hs hL
 simp only [K3,Acj,Wg,Wy,Rb,aN,aB,e,e2,Option.bind_some,Bgq,Aji,Ba3]
 by_cases h0:Xu ks l.Name=0
 ·simp only [h0,bne_self_eq_false,cond_false,Pt]
  by_cases h1:l.Terms.length=0
  ·rw [decide_eq_true h1,decide_eq_false (show¬0 < l.Terms.length by omega)];rfl
  ·rw [decide_eq_false h1,decide_eq_true (show 0 < l.Terms.length by omega),cond_false]
   by_cases h2:8 < l.Terms.length
   ·rw [if_pos h2,decide_eq_false (show¬l.Terms.length≤8 by omega)];rfl
   ·rw [if_neg h2,decide_eq_true (show l.Terms.length≤8 by omega)]
    simp only [X3,cond_true,Pt]
    by_cases h3:Y7 (Kr s) l.Terms=0
    ·simp only [h3,bne_self_eq_false,cond_false,Pt]
     cases inZ l.Total<;>rfl
    ·simp only [g6 h3,cond_true,Ox h3]
 ·simp only [g6 h0,cond_true,Ox h0]
theorem Out.e{X:Option (Int×List ByteArray×List Bool)}{p:Int×List ByteArray}(h:Out X p):∃a b,X=some (p.1,a,b):=by
 obtain ⟨ks,h,_⟩:=h;exact ⟨_,_,h⟩
theorem An6(L:Nat)(s:Aa)(h:SG s)(hL:maxLen < L):Y0 L s=some (O3 32 (fun l:Bh=>l.Name) (Arf (Kr s)) [] s.Laws).1:=by
 obtain ⟨a,b,e⟩:=Out.e (T8 (nm:=fun l:Bh=>l.Name) (f:=Arf (Kr s)) (lq:=K4 L s.Laws s) (bd:=fun x ks vs=>K3 L x s ks vs x) (fun _ _ _ _=>rfl) (fun _ _ _ _ _ _=>rfl) 32 s.Laws 0 [] _
  (Aiy L s.Laws s L h.laws.1 (Nat.lt_of_le_of_lt h.laws.1 hL) 0 [] []) fun x hx ks=>Bfx L s x (h.laws.2 x hx) h.ln hL ks)
 have e1:Yd L s.Laws s=some ((O3 32 (fun l:Bh=>l.Name) (Arf (Kr s)) [] s.Laws).1,a,b):=e
 simp only [Agj,M3,Y0,M3,aN,aB,e1,Option.bind_some]
theorem Apu(v:Ax):d7 v=fE (X3 (Ww v.Type_) 1) (X3 (Aeu v.Type_ v.N) 2):=rfl
theorem A38(x:Av):Anm x=fE (X3 (B7 1 1000 x.Room) 2) (X3 (B7 1 3 x.Policy) 1):=rfl
theorem A40(x:Bd):Asw x=X3 (B7 1 1000 x.Length && B7 1 1000 x.Step) 2:=rfl
theorem Bco(s:Aa)(r:Ap):A7l s r=fE (X3 (B7 0 1000 r.Units) 2) (fE (Ane r) (Azb s r.Fault)):=rfl
theorem Bix(L:Nat)(s:Aa)(x:Ax)(hx:Nn x)(hL:maxLen < L)(ks:List ByteArray):
  ∃ks',J5 L x s ks (tr ks) x=some (fE (Xu ks x.Name) (d7 x),ks',tr ks')∧(fE (Xu ks x.Name) (d7 x)=0→ks'=ks++ [x.Name]):=by
 refine ⟨nx ks x.Name,?_,An0⟩
 have e:V1 L x.Name s ks (tr ks) x x=some (Xu ks x.Name,nx ks x.Name,tr (nx ks x.Name)):=u5 L x.Name hx.1 hL ks
 simp only [J5,Aak,Re,aN,aB,e,Option.bind_some,d4,w3,Apu]
 by_cases h0:Xu ks x.Name=0
 ·simp only [h0,bne_self_eq_false,cond_false,Pt]
  cases Ww x.Type_<;>cases Aeu x.Type_ x.N<;>rfl
 ·simp only [g6 h0,cond_true,Ox h0]
theorem Bim(L:Nat)(s:Aa)(hs:SG s)(x:Ap)(hm:x∈s.Resources)(hL:maxLen < L)(ks:List ByteArray):
  ∃ks',J6 L x s ks (tr ks) x=some (fE (Xu ks x.Name) (A7l s x),ks',tr ks')∧(fE (Xu ks x.Name) (A7l s x)=0→ks'=ks++ [x.Name]):=by
 have hx:=hs.res x hm
 refine ⟨nx ks x.Name,?_,An0⟩
 have e:V3 L x.Name s ks (tr ks) x x=some (Xu ks x.Name,nx ks x.Name,tr (nx ks x.Name)):=u5 L x.Name hx.1 hL ks
 simp only [J6,Aam,Rf,aN,aB,e,Option.bind_some,Ga,Ahp L x hx.2.2.1.1 hL,Aho L s x.Fault hs.ln.2.2.2.2.2.1 (hs.bkD x hm) hL,Bco]
 by_cases h0:Xu ks x.Name=0
 ·simp only [h0,bne_self_eq_false,cond_false,Pt]
  cases B7 0 1000 x.Units with
  |false=>rfl
  |true=>
   simp only [Bool.not_true,cond_false,X3,cond_true,Pt]
   by_cases h1:Ane x=0
   ·simp only [h1,bne_self_eq_false,cond_false,Pt]
   ·simp only [g6 h1,cond_true,Ox h1]
 ·simp only [g6 h0,cond_true,Ox h0]
theorem A8j(L:Nat)(s:Aa)(x:Av)(hx:Mi x)(hL:maxLen < L)(ks:List ByteArray):
  ∃ks',J7 L x s ks (tr ks) x=some (fE (Xu ks x.Name) (Anm x),ks',tr ks')∧(fE (Xu ks x.Name) (Anm x)=0→ks'=ks++ [x.Name]):=by
 refine ⟨nx ks x.Name,?_,An0⟩
 have e:V5 L x.Name s ks (tr ks) x x=some (Xu ks x.Name,nx ks x.Name,tr (nx ks x.Name)):=u5 L x.Name hx.1 hL ks
 have e2:(decide (x.Policy < 1) || decide (x.Policy > 3))= !B7 1 3 x.Policy:=by
  unfold B7
  by_cases h1:x.Policy < 1
  ·rw [decide_eq_true h1,decide_eq_false (show¬1≤x.Policy by omega)];rfl
  ·rw [decide_eq_false h1,decide_eq_true (show 1≤x.Policy by omega)]
   by_cases h2:x.Policy > 3
   ·rw [decide_eq_true h2,decide_eq_false (show¬x.Policy≤3 by omega)];rfl
   ·rw [decide_eq_false h2,decide_eq_true (show x.Policy≤3 by omega)];rfl
 simp only [J7,Aao,Rg,aN,aB,e,Option.bind_some,Ga,Rx,e2,A38]
 by_cases h0:Xu ks x.Name=0
 ·simp only [h0,bne_self_eq_false,cond_false,Pt]
  cases B7 1 1000 x.Room<;>cases B7 1 3 x.Policy<;>rfl
 ·simp only [g6 h0,cond_true,Ox h0]
theorem A9a(L:Nat)(s:Aa)(x:Bd)(hx:N1 x)(hL:maxLen < L)(ks:List ByteArray):
  ∃ks',J8 L x s ks (tr ks) x=some (fE (Xu ks x.Name) (Asw x),ks',tr ks')∧(fE (Xu ks x.Name) (Asw x)=0→ks'=ks++ [x.Name]):=by
 refine ⟨nx ks x.Name,?_,An0⟩
 have e:V7 L x.Name s ks (tr ks) x x=some (Xu ks x.Name,nx ks x.Name,tr (nx ks x.Name)):=u5 L x.Name hx.1 hL ks
 simp only [J8,Aaq,Rh,aN,aB,e,Option.bind_some,Ga,A40]
 by_cases h0:Xu ks x.Name=0
 ·simp only [h0,bne_self_eq_false,cond_false,Pt]
  cases B7 1 1000 x.Length<;>cases B7 1 1000 x.Step<;>rfl
 ·simp only [g6 h0,cond_true,Ox h0]
theorem Bcs(L:Nat)(s:Aa)(hs:SG s)(x:Ao)(hm:x∈s.Routines)(hL:Ts≤L)(ks:List ByteArray):
  ∃ks',Ka L x s ks (tr ks) x=some (fE (Xu ks x.Name) (Apg x),ks',tr ks')∧(fE (Xu ks x.Name) (Apg x)=0→ks'=ks++ [x.Name]):=by
 have hx:=hs.routs x hm
 refine ⟨nx ks x.Name,?_,An0⟩
 have e:V9 L x.Name s ks (tr ks) x x=some (Xu ks x.Name,nx ks x.Name,tr (nx ks x.Name)):=u5 L x.Name hx.1 (Mb hL) ks
 simp only [Ka,Aat,O9,aN,aB,e,Option.bind_some,Ajg L x hx (hs.bkR x hm) hL]
 by_cases h0:Xu ks x.Name=0
 ·simp only [h0,bne_self_eq_false,cond_false,Pt]
 ·simp only [g6 h0,cond_true,Ox h0]
theorem Bc5(L:Nat)(s:Aa)(x:ByteArray)(hx:j5 x)(hL:maxLen < L)(ks:List ByteArray):
  ∃ks',J9 L x s ks (tr ks)=some (fE (Xu ks x) 0,ks',tr ks')∧(fE (Xu ks x) 0=0→ks'=ks++ [x]):=by
 refine ⟨nx ks x,?_,An0⟩
 have e:J9 L x s ks (tr ks)=some (Xu ks x,nx ks x,tr (nx ks x)):=u5 L x hx hL ks
 rw [e]
 by_cases h0:Xu ks x=0
 ·rw [h0,Pt]
 ·rw [Ox h0]
theorem Afk{α :Type}{l:List α}{L:Nat}(h:l.length≤maxLen)(hL:maxLen < L):l.length < L+24:=Nat.lt_of_lt_of_le (Nat.lt_of_le_of_lt h hL) (Nat.le_add_right L 24)
theorem A8p(L:Nat)(s:Aa)(h:SG s)(hL:maxLen < L):Out (V0 L s.Vars s) (O3 32 (fun x:Ax=>x.Name) d7 [] s.Vars):=
 T8 (lq:=K6 L s.Vars s) (bd:=fun x ks vs=>J5 L x s ks vs x) (fun _ _ _ _=>rfl) (fun _ _ _ _ _ _=>rfl) 32 s.Vars 0 [] _
  (Ai0 L s.Vars s (L+24) h.ln.1 (Afk h.ln.1 hL) 0 [] []) fun x hx ks=>Bix L s x (h.vars x hx) hL ks
theorem Bcp(L:Nat)(s:Aa)(h:SG s)(hL:maxLen < L)(ks:List ByteArray):Out (V2 L s.Resources s ks (tr ks)) (O3 32 (fun x:Ap=>x.Name) (A7l s) ks s.Resources):=
 T8 (lq:=K7 L s.Resources s) (bd:=fun x ks vs=>J6 L x s ks vs x) (fun _ _ _ _=>rfl) (fun _ _ _ _ _ _=>rfl) 32 s.Resources 0 ks _
  (Ai1 L s.Resources s (L+24) h.ln.2.1 (Afk h.ln.2.1 hL) 0 ks _) fun x hx ks=>Bim L s h x hx hL ks
theorem Ax5(L:Nat)(s:Aa)(h:SG s)(hL:maxLen < L)(ks:List ByteArray):Out (V4 L s.Stores s ks (tr ks)) (O3 32 (fun x:Av=>x.Name) Anm ks s.Stores):=
 T8 (lq:=K8 L s.Stores s) (bd:=fun x ks vs=>J7 L x s ks vs x) (fun _ _ _ _=>rfl) (fun _ _ _ _ _ _=>rfl) 32 s.Stores 0 ks _
  (Ai2 L s.Stores s (L+24) h.ln.2.2.1 (Afk h.ln.2.2.1 hL) 0 ks _) fun x hx ks=>A8j L s x (h.stores x hx) hL ks
theorem A2o(L:Nat)(s:Aa)(h:SG s)(hL:maxLen < L)(ks:List ByteArray):Out (V6 L s.Belts s ks (tr ks)) (O3 32 (fun x:Bd=>x.Name) Asw ks s.Belts):=
 T8 (lq:=K9 L s.Belts s) (bd:=fun x ks vs=>J8 L x s ks vs x) (fun _ _ _ _=>rfl) (fun _ _ _ _ _ _=>rfl) 32 s.Belts 0 ks _
  (Ai3 L s.Belts s (L+24) h.ln.2.2.2.1 (Afk h.ln.2.2.2.1 hL) 0 ks _) fun x hx ks=>A9a L s x (h.belts x hx) hL ks
theorem Aaz(L:Nat)(s:Aa)(l:List ByteArray)(h1:l.length≤maxLen)(h2:∀x∈l,j5 x)(hL:maxLen < L)(ks:List ByteArray):Out (Ht L l s ks (tr ks)) (txE ks l):=
 T8 (lq:=La L l s) (bd:=fun x ks vs=>J9 L x s ks vs) (fun _ _ _ _=>rfl) (fun _ _ _ _ _ _=>rfl) 32 l 0 ks _
  (Ai4 L l s (L+24) h1 (Afk h1 hL) 0 ks _) fun x hx ks=>Bc5 L s x (h2 x hx) hL ks
theorem A3t(L:Nat)(s:Aa)(h:SG s)(hL:Ts≤L)(ks:List ByteArray):Out (V8 L s.Routines s ks (tr ks)) (O3 16 (fun x:Ao=>x.Name) Apg ks s.Routines):=
 T8 (lq:=Lb L s.Routines s) (bd:=fun x ks vs=>Ka L x s ks vs x) (fun _ _ _ _=>rfl) (fun _ _ _ _ _ _=>rfl) 16 s.Routines 0 ks _
  (Ai5 L s.Routines s (L+24) h.ln.2.2.2.2.2.2.2.2.2 (Afk h.ln.2.2.2.2.2.2.2.2.2 (Mb hL)) 0 ks _) fun x hx ks=>Bcs L s h x hx hL ks
theorem Akz(L:Nat)(s:Aa)(h:SG s)(hL:maxLen < L)(a:List ByteArray)(b:List Bool):Wa L s.Starts s a b=some (Ale s):=
 Ayv (lq:=Lc L s.Starts s a b) (bd:=Oq L s) (fun _ _=>rfl) (fun _ _ _ _=>rfl) 32 s.Starts 0 _ (Ai6 L s.Starts s a b (L+24) h.starts.1 (Afk h.starts.1 hL) 0) fun x hx=>
  Amr L s x h.ln.2.2.2.2.2.2.2.2.2 ((h.starts.2 x hx).2.1.1) hL
theorem A79(tm:Aa→Be→Int)(s:Aa):Ahx tm s=fE (Av8 s).1 (fE (Ale s) (O3 32 (fun l:Bh=>l.Name) (Arf (tm s)) [] s.Laws).1):=rfl
theorem Afw(L:Nat)(s:Aa)(h:SG s)(hL:Ts≤L):Gl (Ahx Kr s) (Sj L s):=by
 have hl:=Mb hL
 have g:∀a b:Int,a < b→((a < b)=True):=fun a b h=>eq_true h
 have e0:∀n:Int,0≤n→((0≤n)=True):=fun n h=>eq_true h
 simp only [Sj,Ack,W0,Wk,W1,Wm,W2,Wo,W3,Wq,W4,Ws,W5,Wt,U7,Uw,U8,Ux,U9,Uy,Va,U0,Vb,Ph,aN,aB]
 repeat rw [ifp (by decide)]
 rw [A79,Av8]
 simp only [Ax7]
 refine Ah1 (A8p L s h hl) (fun _ _ _ h=>nzE h _ _ _) fun ks=> ?_
 simp only [bne_self_eq_false,cond_false]
 repeat rw [ifp (by decide)]
 refine Ah1 (Bcp L s h hl ks) (fun _ _ _ h=>nzE h _ _ _) fun ks=> ?_
 simp only [bne_self_eq_false,cond_false]
 repeat rw [ifp (by decide)]
 refine Ah1 (Ax5 L s h hl ks) (fun _ _ _ h=>nzE h _ _ _) fun ks=> ?_
 simp only [bne_self_eq_false,cond_false]
 repeat rw [ifp (by decide)]
 refine Ah1 (A2o L s h hl ks) (fun _ _ _ h=>nzE h _ _ _) fun ks=> ?_
 simp only [bne_self_eq_false,cond_false]
 repeat rw [ifp (by decide)]
 refine Ah1 (Aaz L s s.Queues h.ln.2.2.2.2.1 h.queues hl ks) (fun _ _ _ h=>nzE h _ _ _) fun ks=> ?_
 simp only [bne_self_eq_false,cond_false]
 repeat rw [ifp (by decide)]
 refine Ah1 (Aaz L s s.Streams h.ln.2.2.2.2.2.1 h.streams hl ks) (fun _ _ _ h=>nzE h _ _ _) fun ks=> ?_
 simp only [bne_self_eq_false,cond_false]
 repeat rw [ifp (by decide)]
 refine Ah1 (Aaz L s s.Tallies h.ln.2.2.2.2.2.2.1 h.tallies hl ks) (fun _ _ _ h=>nzE h _ _ _) fun ks=> ?_
 simp only [bne_self_eq_false,cond_false]
 repeat rw [ifp (by decide)]
 refine Ah1 (Aaz L s s.Levels h.ln.2.2.2.2.2.2.2.1 h.levels hl ks) (fun _ _ _ h=>nzE h _ _ _) fun ks=> ?_
 simp only [bne_self_eq_false,cond_false]
 repeat rw [ifp (by decide)]
 refine Ah1 (Aaz L s s.Counts h.ln.2.2.2.2.2.2.2.2.1 h.counts hl ks) (fun _ _ _ h=>nzE h _ _ _) fun ks=> ?_
 simp only [bne_self_eq_false,cond_false]
 repeat rw [ifp (by decide)]
 refine Bmb (A3t L s h hL ks) (fun _ _ _ h=>nzE h _ _ _) fun ks=> ?_
 simp only [bne_self_eq_false,cond_false]
 repeat rw [ifp (by decide)]
 rw [Akz L s h hl,Option.bind_some]
 by_cases h1:Ale s=0
 ·simp only [h1,bne_self_eq_false,cond_false,Pt]
  repeat rw [ifp (by decide)]
  rw [An6 L s h hl,Option.bind_some]
  by_cases h2:(O3 32 (fun l:Bh=>l.Name) (Arf (Kr s)) [] s.Laws).1=0
  ·simp only [h2,bne_self_eq_false,cond_false];exact ⟨_,_,rfl⟩
  ·simp only [g6 h2,cond_true];exact ⟨_,_,rfl⟩
 ·simp only [g6 h1,cond_true,Ox h1];exact ⟨_,_,rfl⟩
theorem An7(L:Nat)(s:Aa)(h:SG s)(hL:Ts≤L):Y1 L s=some (Ahx Kr s):=by
 obtain ⟨a,b,e⟩:=Afw L s h hL
 simp only [Agk,Lw,Y1,Lw,aN,aB,e,Option.bind_some]
end Go.Proofs.YthjhkpgonleelaaGreatDoor.Ev
