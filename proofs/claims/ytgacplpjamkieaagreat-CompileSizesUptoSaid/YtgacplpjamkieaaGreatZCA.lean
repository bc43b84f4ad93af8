/-  Chapter 11, plainly: what Check says of a model. -/
import Derived.Test.YtgacplpjamkieaaGreatZQA
import Derived.Test.YtgacplpjamkieaaGreatZPA
set_option maxRecDepth 100000
set_option linter.unusedVariables false
set_option linter.unusedSimpArgs false
set_option linter.unnecessarySimpa false
namespace Go.Proofs.YtgacplpjamkieaaGreat.Ev
open Go An
def fE(a b:Int):Int:=if a=0 then b else a
def unl(c:Bool)(e:Int):Int:=bif c then 0 else e
def nmE(bf:List Yb)(n:Yb):Int:=fE (V7 n) (unl (!bf.any λx=>decide (x=n)) 4)
def w6(t:Int):Bool:=Cp 1 3 t
def Ama(t n:Int):Bool:=if t=1 then inZ n else if t=2 then(n == 0 || n == 1)else if t=3 then Cp 0 1000000000 n else false
def Acb{α :Type}(nm: α->Yb)(f: α->Int):List Yb->List α->Int×List Yb
 |bf,[]=>(0,bf)
 |bf,x::k=>if fE (nmE bf (nm x)) (f x)≠0 then(fE (nmE bf (nm x)) (f x),bf)else Acb nm f (bf++ [nm x]) k
def Td{α :Type}(most:Nat)(nm: α->Yb)(f: α->Int)(bf:List Yb)(l:List α):Int×List Yb:=if most<l.length then(6,bf)else Acb nm f bf l
def Alo{α :Type}(f: α->Int):List α->Int
 | []=>0
 |x::k=>fE (f x) (Alo f k)
def A19(cy:Int):Option Int->List Gy->Int
 |_,[]=>0
 |p,c::k=>if(Cp 0 (cy-1) c.At && Cp 0 1000 c.Units)=false then 2
  else if(match p with|some q=>decide (c.At<=q)|none=>false)=true then 12 else A19 cy (some c.At) k
def Awn(r:Ah):Int:=if r.bP.length=0 then unl (r.dM == 0) 1 else if 20<r.bP.length then 6 else if Cp 1 1000000000 r.dM=false then 2 else A19 r.dM none r.bP
def A6x(s:Ac)(f:Qr):Int:=if f.dK.size=0 then unl (Apl f.Up Ak9 && Apl f.Down Ak9) 1 else if s.aR.any (λx=>decide (x=f.dK))=false then 5 else fE (Ash f.Up) (Ash f.Down)
def Bcc(s:Ac)(r:Ah):Int:=fE (unl (Cp 0 1000 r.Units) 2) (fE (Awn r) (A6x s r.dG))
def Awt(x:Ao):Int:=fE (unl (Cp 1 1000 x.Room) 2) (unl (Cp 1 3 x.dD) 1)
def A14(x:Ar):Int:=unl (Cp 1 1000 x.Length && Cp 1 1000 x.Step) 2
def Ad8(v:Ai):Int:=fE (unl (w6 v.bL) 1) (unl (Ama v.bL v.N) 2)
def Ayw(r:Al):Int:=if 6<r.aJ.length\/16<r.aJ.length+r.aL.length then 6 else fE (Acb (λf:Ap=>f.aG) (λf=>unl (w6 f.bL) 1) [] (r.aJ++r.aL)).1 (Afr r.aK)
def A5z(s:Ac)(d:Bt):Int:=match s.aA.find? λr=>decide (r.aG=d.dN) with
 |none=>5
 |some r=>if d.aS.length≠r.aJ.length then 8 else if((r.aJ.zip d.aS).all λp=>Ama p.1.bL p.2)=false then 2
  else unl (Cp 0 1000000000 d.At && Cp 0 1000000000 d.Every && Cp 0 1000000000 d.Until && (d.Every != 0 || d.Until == 0)) 2
def Awy(w:Yb):Int:=
 if w=⟨#[99,114,101,97,116,101,100]⟩\/w=⟨#[101,110,100,101,100]⟩\/w=⟨#[105,110,115,105,100,101]⟩then 1
 else if w=⟨#[115,116,111,114,101,100]⟩\/w=⟨#[101,110,116,101,114,101,100]⟩\/w=⟨#[108,101,102,116]⟩then 2
 else if w=⟨#[99,111,117,110,116,101,100]⟩then 3 else 0
def A6s(t:Ck):Int:=unl (Cp (-1000) 1000 t.bW && t.bW != 0) 2
def Wj(s:Ac)(t:Ck):Int:=
 if Awy t.bN=0 then 1
 else if(if Awy t.bN=1 then s.aA.any (λr=>decide (r.aG=t.aG))else if Awy t.bN=2 then s.aO.any (λx=>decide (x.aG=t.aG))else s.aU.any (λx=>decide (x=t.aG)))=false then 5
 else A6s t
def Az9(tm:Ck->Int)(l:Bg):Int:=fE (unl (decide (0<l.bX.length)) 7) (fE (unl (decide (l.bX.length<=8)) 6) (fE (Alo tm l.bX) (unl (inZ l.Total) 2)))
def Acg(p:Int×List Yb)(f:List Yb->Int×List Yb):Int×List Yb:=if p.1≠0 then p else f p.2
def txE(bf:List Yb)(l:List Yb):Int×List Yb:=Td 32 (λx:Yb=>x) (λ_=>0) bf l
def A4n(s:Ac):Int×List Yb:=
 Acg (Acg (Acg (Acg (Acg (Acg (Acg (Acg (Acg (Td 32 (λx:Ai=>x.aG) Ad8 [] s.bG)
  λb=>Td 32 (λx:Ah=>x.aG) (Bcc s) b s.aM) λb=>Td 32 (λx:Ao=>x.aG) Awt b s.aO)
  λb=>Td 32 (λx:Ar=>x.aG) A14 b s.bH) λb=>txE b s.aX) λb=>txE b s.aR) λb=>txE b s.aT)
  λb=>txE b s.bA) λb=>txE b s.aU) λb=>Td 16 (λx:Al=>x.aG) Ayw b s.aA
def Auc(s:Ac):Int:=if 32<s.aZ.length then 6 else Alo (A5z s) s.aZ
def Apn(tm:Ac->Ck->Int)(s:Ac):Int:=fE (A4n s).1 (fE (Auc s) (Td 32 (λl:Bg=>l.aG) (Az9 (tm s)) [] s.Laws).1)
def A20(m:Ag)(seen:List Bf)(l:Bf):Int:=
 if(m.aD.any (λd=>decide (d.aG=l.dA)) && m.aD.any (λd=>decide (d.aG=l.To)))=false then 5
 else if l.dA=l.To then 1 else if Cp 1 1000000000 l.fA=false then 2
 else unl (!seen.any λx=>decide (x.dA=l.dA) && decide (x.To=l.To)) 4
def Aqt(m:Ag):List Bf->List Bf->Int
 |_,[]=>0
 |seen,l::k=>fE (A20 m seen l) (Aqt m (seen++ [l]) k)
def A5b(m:Ag):Int:=if 32<m.bC.length then 6 else Aqt m [] m.bC
def Avl(tm:Ac->Ck->Int)(m:Ag):Int:=
 fE (V7 m.aG) (fE (Td 32 (λx:Ai=>x.aG) Ad8 [] m.aJ).1 (fE (unl (decide (0<m.aD.length)) 7)
  (fE (Td 16 (λd:Ac=>d.aG) (Apn tm) [] m.aD).1 (A5b m))))
theorem Bwl{a b:Int} :fE a b=0↔a=0/\b=0:=by
 unfold fE;by_cases h:a=0
 ·rw[if_pos h];simp[h]
 ·rw[if_neg h];simp[h]
theorem Z9(b:Int):fE 0 b=b:=rfl
theorem Aay{a b:Int}(h:a≠0):fE a b=a:=if_neg h
def tr{α :Type}(ks:List α):List Bool:=List.replicate ks.length true
theorem A7t{α :Type}(ks:List α)(n: α):tr ks++ [true]=tr (ks++ [n]):=by
 unfold tr;rw[List.length_append,List.length_singleton,List.replicate_succ']
def nx(ks:List Yb)(n:Yb):List Yb:=if nmE ks n=0 then ks++ [n]else ks
def Blj(X:Option Int)(n:Yb)(ks:List Yb)(vs:List Bool):Option (Int×List Yb×List Bool):=
 X.bind λr=>bif r != 0 then some (r,ks,vs)else fko (ks.findIdx? λb=>n == b)
  (λi=>bif vs.getD i default then some (4,ks,vs)else fko (ks.findIdx? λb=>n == b) (λj=>some (0,ks,vs.set j true)) (some (0,ks++ [n],vs++ [true])))
  (fko (ks.findIdx? λb=>n == b) (λj=>some (0,ks,vs.set j true)) (some (0,ks++ [n],vs++ [true])))
theorem Bc7{α :Type}{ks:List α}{i:Nat}(h:i<ks.length):(tr ks).getD i default=true:=by
 unfold tr;rw[List.getD_eq_getElem?_getD,List.getElem?_replicate,if_pos h];rfl
theorem Au4{α :Type}{ks:List α}{p: α->Bool}(h:ks.findIdx? p=none):ks.any p=false:=by
 rw[List.findIdx?_eq_none_iff]at h;rw[List.any_eq_false];intro x hx;simp[h x hx]
theorem Aqe{α :Type}{ks:List α}{p: α->Bool}{i:Nat}(h:ks.findIdx? p=some i):ks.any p=true:=by
 obtain⟨h1,h2,_⟩:=List.findIdx?_eq_some_iff_getElem.1 h;exact List.any_eq_true.2 ⟨_,List.getElem_mem h1,h2⟩
theorem Azk(n b:Yb):(n == b)=decide (b=n):=by
 show(n.data == b.data)=_
 rw[Bool.eq_iff_iff,beq_iff_eq,decide_eq_true_iff];constructor
 ·intro h;cases n;cases b;cases h;rfl
 ·rintro rfl;rfl
theorem Bfk{X:Option Int}{n:Yb}(ks:List Yb)(h:X=some (V7 n)):Blj X n ks (tr ks)=some (nmE ks n,nx ks n,tr (nx ks n)):=by
 subst h;unfold Blj nx nmE;rw[Ju];by_cases h0:V7 n=0
 ·have e:(λb=>n == b)=λx:Yb=>decide (x=n):=funext λb=>Azk n b;rw[h0,e];cases hf:ks.findIdx? λx=>decide (x=n) with
  |none=>
   rw[Au4 hf];simp only[fko,fE,unl,Bool.not_false,cond_true,if_true,A7t ks n];rfl
  |some i=>
   rw[Aqe hf];obtain⟨h1,_⟩:=List.findIdx?_eq_some_iff_getElem.1 hf;simp only[fko,Bc7 h1];rfl
 ·rw[Zs h0,cond_true,Aay h0,if_neg h0]
def Out(X:Option (Int×List Yb×List Bool))(p:Int×List Yb):Prop:=∃ks,X=some (p.1,ks,tr ks)/\(p.1=0->ks=p.2)
theorem Ba1{α :Type}{nm: α->Yb}{f: α->Int}{lq:List α->Nat->Int->List Yb->List Bool->Option (Nat×(Int×Int×List Yb×List Bool))}{bd: α->List Yb->List Bool->Option (Int×List Yb×List Bool)}
  (hn:∀i v ks vs,lq [] i v ks vs=some (1,(v,(i:Int),ks,vs)))
  (hc:∀x k i v ks vs,lq (x::k) i v ks vs=(bd x ks vs).bind λo=>bif o.1 != 0 then some (0,(o.1,(i:Int),o.2.1,o.2.2))else lq k (i+1) v o.2.1 o.2.2):
  ∀(k:List α) (i:Nat) (v:Int) (ks:List Yb),(∀x∈k,∀ks,∃ks',bd x ks (tr ks)=some (fE (nmE ks (nm x)) (f x),ks',tr ks')/\(fE (nmE ks (nm x)) (f x)=0->ks'=ks++ [nm x]))->
  ∃j ks',lq k i v ks (tr ks)=some (if(Acb nm f ks k).1=0 then(1,(v,(j,ks',tr ks'))) else(0,((Acb nm f ks k).1,(j,ks',tr ks'))))/\((Acb nm f ks k).1=0->ks'=(Acb nm f ks k).2):=by
 intro k
 induction k with
 |nil=>intro i v ks _;exact⟨i,ks,by rw[hn,Acb];rfl,λ_=>rfl⟩
 |cons x k ih=>
  intro i v ks h;obtain⟨ks1,hb,hz⟩:=h x (by simp) ks;rw[hc,hb,Ju];by_cases h0:fE (nmE ks (nm x)) (f x)=0
  ·have:=hz h0;subst this
   have e:Acb nm f ks (x::k)=Acb nm f (ks++ [nm x]) k:=by rw[Acb,if_neg (by simp[h0])]
   obtain⟨j,ks',hj,he⟩:=ih (i+1) v (ks++ [nm x]) λy hy=>h y (by simp[hy]);rw[e];exact⟨j,ks',by simp only[h0];exact hj,he⟩
  ·have e:Acb nm f ks (x::k)=(fE (nmE ks (nm x)) (f x),ks):=by rw[Acb,if_pos h0]
   rw[e];exact⟨i,ks1,by simp only[Zs h0,cond_true,if_neg h0],λhh=>absurd hh h0⟩
def Bi6(most:Int)(n:Nat)(ks:List Yb)(vs:List Bool)(X:Option (Nat×(Int×Int×List Yb×List Bool))):Option (Int×List Yb×List Bool):=
 bif decide ((n:Int)>most)then some (6,ks,vs)else X.bind λo=>Atz o.1 [some (o.2.1,o.2.2.2.1,o.2.2.2.2),some (0,o.2.2.2.1,o.2.2.2.2)]
theorem Yu{α :Type}{nm: α->Yb}{f: α->Int}{lq:List α->Nat->Int->List Yb->List Bool->Option (Nat×(Int×Int×List Yb×List Bool))}{bd: α->List Yb->List Bool->Option (Int×List Yb×List Bool)}
  (hn:∀i v ks vs,lq [] i v ks vs=some (1,(v,(i:Int),ks,vs)))
  (hc:∀x k i v ks vs,lq (x::k) i v ks vs=(bd x ks vs).bind λo=>bif o.1 != 0 then some (0,(o.1,(i:Int),o.2.1,o.2.2))else lq k (i+1) v o.2.1 o.2.2)
  (most:Nat)(l:List α)(v:Int)(ks:List Yb)(X:Option (Nat×(Int×Int×List Yb×List Bool)))(hX:X=lq l 0 v ks (tr ks))
  (hb:∀x∈l,∀ks,∃ks',bd x ks (tr ks)=some (fE (nmE ks (nm x)) (f x),ks',tr ks')/\(fE (nmE ks (nm x)) (f x)=0->ks'=ks++ [nm x])):
  Out (Bi6 most l.length ks (tr ks) X) (Td most nm f ks l):=by
 unfold Out Bi6 Td;by_cases hm:most<l.length
 ·rw[decide_eq_true (show(l.length:Int)>most by omega),if_pos hm];exact⟨ks,rfl,λ_=>rfl⟩
 ·rw[decide_eq_false (show¬(l.length:Int)>most by omega),if_neg hm,cond_false,hX];obtain⟨j,ks',hj,he⟩:=Ba1 hn hc l 0 v ks hb;refine⟨ks',?_,he⟩;rw[hj,Ju];by_cases h0:(Acb nm f ks l).1=0
  ·rw[if_pos h0,Ze,h0]
  ·rw[if_neg h0,Sc]
def Gl(e:Int)(X:Option (Int×List Yb×List Bool)):Prop:=∃a b,X=some (e,a,b)
theorem Bt9{X:Option (Int×List Yb×List Bool)}{p:Int×List Yb}{e:Int}{G:Int×List Yb×List Bool->Option (Int×List Yb×List Bool)}(hX:Out X p)
  (hG:∀e a b,e≠0->G (e,a,b)=some (e,a,b))(h:∀ks,Gl e (G (0,ks,tr ks))):Gl (fE p.1 e) (X.bind G):=by
 obtain⟨ks,rfl,h0⟩:=hX;rw[Ju];by_cases hp:p.1=0
 ·rw[hp,Z9];exact h ks
 ·rw[hG _ _ _ hp,Aay hp];exact⟨_,_,rfl⟩
theorem Apt{X:Option (Int×List Yb×List Bool)}{p:Int×List Yb}{e:Int}{f:List Yb->Int×List Yb}{G:Int×List Yb×List Bool->Option (Int×List Yb×List Bool)}(hX:Out X p)
  (hG:∀e a b,e≠0->G (e,a,b)=some (e,a,b))(h:∀ks,Gl (fE (f ks).1 e) (G (0,ks,tr ks))):Gl (fE (Acg p f).1 e) (X.bind G):=by
 obtain⟨ks,rfl,h0⟩:=hX;rw[Ju];unfold Acg;by_cases hp:p.1=0
 ·rw[if_neg (by simp[hp]),<-h0 hp,hp];exact h ks
 ·rw[if_pos hp,hG _ _ _ hp,Aay hp];exact⟨_,_,rfl⟩
theorem nzE{e:Int}(h:e≠0)(a:List Yb)(b:List Bool)(Y:Option (Int×List Yb×List Bool)):(bif e != 0 then some (e,a,b)else Y)=some (e,a,b):=by rw[Zs h];rfl
theorem A6c(p:Int×List Yb)(f g:List Yb->Int×List Yb):Acg (Acg p f) g=Acg p λb=>Acg (f b) g:=by
 unfold Acg;by_cases hp:p.1=0
 ·simp[hp]
 ·simp[hp]
theorem Bq7{α :Type}{f: α->Int}{lq:List α->Nat->Int->Option (Nat×(Int×Int))}{bd: α->Option Int}
  (hn:∀i v,lq [] i v=some (1,(v,(i:Int))))
  (hc:∀x k i v,lq (x::k) i v=(bd x).bind λo=>bif o != 0 then some (0,(o,(i:Int)))else lq k (i+1) v):
  ∀(k:List α) (i:Nat) (v:Int),(∀x∈k,bd x=some (f x))->∃j,lq k i v=some (if Alo f k=0 then(1,(v,j)) else(0,(Alo f k,j))):=by
 intro k
 induction k with
 |nil=>intro i v _;exact⟨i,by rw[hn];rfl⟩
 |cons x k ih=>
  intro i v h;obtain⟨j,hj⟩:=ih (i+1) v λy hy=>h y (by simp[hy]);rw[hc,h x (by simp),Ju,Alo];by_cases h0:f x=0
  ·exact⟨j,by rw[h0,Z9];exact hj⟩
  ·exact⟨i,by rw[Aay h0,Zs h0,cond_true,if_neg h0]⟩
def Bq6(most:Int)(n:Nat)(X:Option (Nat×(Int×Int))):Option Int:=bif decide ((n:Int)>most)then some 6 else X.bind λo=>Atz o.1 [some o.2.1,some 0]
theorem A6n{α :Type}{f: α->Int}{lq:List α->Nat->Int->Option (Nat×(Int×Int))}{bd: α->Option Int}
  (hn:∀i v,lq [] i v=some (1,(v,(i:Int))))
  (hc:∀x k i v,lq (x::k) i v=(bd x).bind λo=>bif o != 0 then some (0,(o,(i:Int)))else lq k (i+1) v)
  (most:Nat)(l:List α)(v:Int)(X:Option (Nat×(Int×Int)))(hX:X=lq l 0 v)(hb:∀x∈l,bd x=some (f x)):Bq6 most l.length X=some (if most<l.length then 6 else Alo f l):=by
 unfold Bq6;by_cases hm:most<l.length
 ·rw[decide_eq_true (show(l.length:Int)>most by omega),if_pos hm];rfl
 ·rw[decide_eq_false (show¬(l.length:Int)>most by omega),if_neg hm,cond_false,hX];obtain⟨j,hj⟩:=Bq7 hn hc l 0 v hb;rw[hj,Ju];by_cases h0:Alo f l=0
  ·rw[if_pos h0,Ze,h0]
  ·rw[if_neg h0,Sc]
theorem Ij(L:Nat)(x lo hi:Int):Bh L x lo hi=some (Cp lo hi x):=by
 simp only[Ade,Bh,aN,aB,Og,ge_iff_le,Cp]
theorem Ad1(L:Nat)(t:Int):La L t=some (w6 t):=by
 simp only[Afb,La,aN,aB,Og,ge_iff_le,w6,Cp]
theorem Afn(L:Nat)(t n:Int):Ry L t n=some (Ama t n):=by
 simp only[Ah0,Ry,aN,aB,Arn,Ij,Ju,Tc,Ama];by_cases h1:t=1
 ·simp[h1]
 ·by_cases h2:t=2
  ·simp[h2]
  ·by_cases h3:t=3
   ·simp[h3]
   ·simp[h1,h2,h3,beq_false_of_ne h1,beq_false_of_ne h2,beq_false_of_ne h3]
theorem V8(L:Nat)(l:List Yb)(s:Yb)(hl:l.length<=maxLen)(hL:maxLen<L):Cj L l s=some (l.any λx=>decide (x=s)):=by
 have e:(λx:Yb=>decide (s=x))=λx=>decide (x=s):=funext λx=>decide_eq_decide.2 ⟨Eq.symm,Eq.symm⟩;simp only[P0,Cj,aN,aB,Hl L l s hl (by omega),Ju,Aok,e]
def pvA(l:List Gy)(i:Nat):Option Int:=if i=0 then none else some (l.getD (i-1) default).At
def geq(p:Option Int)(a:Int):Bool:=match p with
 |some q=>decide (a<=q)
 |none=>false
theorem A8g(cy:Int)(p:Option Int)(c:Gy)(k:List Gy):A19 cy p (c::k)=if(Cp 0 (cy-1) c.At && Cp 0 1000 c.Units)=false then 2 else if geq p c.At=true then 12 else A19 cy (some c.At) k:=rfl
theorem Bhj{β :Type}(l:List Gy)(i:Nat)(hi:i<l.length)(hl:l.length<=maxLen)(a:Int)(A B:Option β):
  (bif decide ((i:Int)>0) then(if(0:Int)<=Bb ((i:Int)-1) then(if Bb ((i:Int)-1)<((l.length:Nat):Int) then(bif decide (a<=(l.getD (Int.toNat (Bb ((i:Int)-1))) default).At)then A else B)else none)else none)else B)=if geq (pvA l i) a=true then A else B:=by
 have hM:=Bp;cases i with
 |zero=>rfl
 |succ i=>
  have e:Bb (((i+1:Nat):Int)-1)=(i:Int):=by rw[Abd (by omega)];omega
  rw[e,decide_eq_true (show((i+1:Nat):Int)>0 by omega),cond_true,if_pos (by omega),if_pos (by omega),toN];have e2:pvA l (i+1)=some (l.getD i default).At:=by unfold pvA;rw[if_neg (by omega),Nat.add_sub_cancel]
  rw[e2];show(bif decide (a<=(l.getD i default).At)then A else B)=if decide (a<=(l.getD i default).At)=true then A else B
  cases decide (a<=(l.getD i default).At)<;>rfl
theorem Bb8{l:List Gy}{i:Nat}{x:Gy}{k:List Gy}(h:l.drop i=x::k):pvA l (i+1)=some x.At:=by
 obtain⟨_,h2,_⟩:=X3 h;unfold pvA;rw[if_neg (by omega),Nat.add_sub_cancel,h2]
theorem Anh(L:Nat)(r:Ah)(hl:r.bP.length<=maxLen)(hc:Bb (r.dM-1)=r.dM-1):∀(k:List Gy) (i:Nat) (v:Int),r.bP.drop i=k->
  ∃j,D4 L r k i v=some (if A19 r.dM (pvA r.bP i) k=0 then(1,(v,j)) else(0,(A19 r.dM (pvA r.bP i) k,j))):=by
 intro k
 induction k with
 |nil=>intro i v _;exact⟨i,rfl⟩
 |cons x k ih=>
  intro i v h;obtain⟨hi,hx,hk⟩:=X3 h;obtain⟨j,hj⟩:=ih (i+1) v hk;rw[Bb8 h]at hj;rw[D4];simp only[Ij,Ju,hc,Bhj r.bP i hi hl,hj,A8g];rcases Bool.eq_false_or_eq_true (Cp 0 (r.dM-1) x.At)with hA|hA
  ·rcases Bool.eq_false_or_eq_true (Cp 0 1000 x.Units)with hB|hB
   ·rcases Bool.eq_false_or_eq_true (geq (pvA r.bP i) x.At)with hC|hC
    ·exact⟨i,by simp[hA,hB,hC]⟩
    ·exact⟨j,by simp[hA,hB,hC]⟩
   ·exact⟨i,by simp[hA,hB]⟩
  ·exact⟨i,by simp[hA]⟩
theorem cyc{c:Int}(h:Cp 1 1000000000 c=true):Bb (c-1)=c-1:=by
 unfold Cp at h;rw[Bool.and_eq_true,decide_eq_true_iff,decide_eq_true_iff]at h;exact Iu (by omega) (by omega)
theorem A9c(r:Ah):Awn r=if r.bP.length=0 then unl (r.dM == 0) 1 else if 20<r.bP.length then 6 else if Cp 1 1000000000 r.dM=false then 2 else A19 r.dM none r.bP:=rfl
theorem Bn4{α :Type}(l:List α):((l.length:Int) == 0)=decide (l.length=0):=by
 by_cases h:l.length=0
 ·simp[h]
 ·rw[decide_eq_false h,beq_false_of_ne (by omega)]
theorem gtN(n m:Nat):decide ((n:Int)>(m:Int))=decide (m<n):=decide_eq_decide.2 (by omega)
theorem Apa(L:Nat)(r:Ah)(hl:r.bP.length<=maxLen)(hL:maxLen<L):Ui L r=some (Awn r):=by
 have e20:decide ((r.bP.length:Int)>20)=decide (20<r.bP.length):=gtN _ 20;simp only[Afv,Qn,Qk,Ui,Qn,Qk,aN,aB,Ij,Ju,Bn4,e20,A9c];by_cases h0:r.bP.length=0
 ·rw[decide_eq_true h0,if_pos h0,cond_true];unfold unl;by_cases hz:r.dM=0
  ·simp[hz]
  ·simp[Zs hz,beq_false_of_ne hz]
 ·rw[decide_eq_false h0,if_neg h0,cond_false];by_cases h2:20<r.bP.length
  ·rw[decide_eq_true h2,if_pos h2];rfl
  ·rw[decide_eq_false h2,if_neg h2,cond_false];cases hr:Cp 1 1000000000 r.dM with
   |false=>rfl
   |true=>
    obtain⟨j,hj⟩:=Anh L r hl (cyc hr) r.bP 0 0 rfl;rw[Aks L r L hl (by omega),hj];simp only[Bool.not_true,cond_false,Ju,Bool.true_eq_false,if_false];have e:pvA r.bP 0=none:=rfl;rw[e];by_cases hz:A19 r.dM none r.bP=0
    ·rw[if_pos hz,Ze,hz]
    ·rw[if_neg hz,Sc]
theorem Bb2{d:Aj}(h:Nn d<=1048576):Ark d:=by
 unfold Nn at h;have h1:=Hr (g:=λ_:Int=>1) (l:=d.bD) λ_=>Nat.le_refl 1;have h2:=Hr (g:=λ_:Int=>1) (l:=d.bB) λ_=>Nat.le_refl 1;exact⟨by omega,by omega⟩
theorem Ba6(s:Ac)(f:Qr):A6x s f=if f.dK.size=0 then unl (Apl f.Up Ak9 && Apl f.Down Ak9) 1 else if s.aR.any (λx=>decide (x=f.dK))=false then 5 else fE (Ash f.Up) (Ash f.Down):=rfl
theorem Ao9(L:Nat)(s:Ac)(f:Qr)(hs:s.aR.length<=maxLen)(hb:Um f<=1048576)(hL:maxLen<L):Uh L s f=some (A6x s f):=by
 unfold Um at hb;have h1:Ark f.Up:=Bb2 (by omega);have h2:Ark f.Down:=Bb2 (by omega);simp only[Z2,Uh,aN,aB,Ib,A7r,Ail L f.Up _ h1 hL,Ail L f.Down _ h2 hL,Afl L f.Up h1 hL,Afl L f.Down h2 hL,V8 L _ _ hs hL,Ju,Ba6];have hz:(⟨0,0,0,0,[],[]⟩:Aj)=Ak9:=rfl;rw[hz];by_cases h0:f.dK.size=0
 ·simp only[h0,decide_true,cond_true,if_true];cases Apl f.Up Ak9<;>cases Apl f.Down Ak9<;>rfl
 ·simp only[h0,decide_false,cond_false,if_false];cases s.aR.any (λx=>decide (x=f.dK)) with
  |false=>rfl
  |true=>
   simp only[Bool.not_true,cond_false,Bool.true_eq_false,if_false];by_cases hd:Ash f.Up=0
   ·simp[hd,Z9]
   ·simp[Zs hd,Aay hd]
theorem Av4(L:Nat)(a b:List Ap)(ha:a.length<=1048576)(hb:b.length<=1048576)(hL:maxLen<L):Hn L [a,b]=some (a++b):=by
 have hM:=Bp;have e1:∀n:Nat,n<=1048576->Bb (0+(n:Int))=(n:Int):=λn hn=>by rw[Int.zero_add];exact Iu (by omega) (by omega)
 have e2:Bb ((a.length:Int)+(b.length:Int))=((a.length+b.length:Nat):Int):=by rw[Iu (by omega) (by omega)];omega
 simp only[V5,M6,Im,Ik,Hn,M6,Im,Ik,aN,aB,Aaz L [a,b] L (by simp;omega) (by simp;omega),Aa0 L [a,b] L (by simp;omega) (by simp;omega),El,Em,e1 _ ha,e2,Ju,Sc];rw[decide_eq_false (show¬(a.length:Int)<0 by omega),decide_eq_false (show¬((a.length+b.length:Nat):Int)<0 by omega)];simp only[cond_false,Ju,Sc,List.nil_append,List.length_nil]
 repeat rw[Jh (by omega)]
 rfl
theorem Afg(L:Nat)(n:Yb)(hs:okS n)(hL:maxLen<L)(ks:List Yb):Blj (Dk L n) n ks (tr ks)=some (nmE ks n,nx ks n,tr (nx ks n)):=
 Bfk ks (Uc L n hs (Nat.lt_of_le_of_lt hs hL))
theorem Axd{ks:List Yb}{n:Yb}{e:Int}(h:fE (nmE ks n) e=0):nx ks n=ks++ [n]:=if_pos (Bwl.1 h).1
def rtB(L:Nat)(r:Al)(x:Ap)(ks:List Yb)(vs:List Bool):Option (Int×List Yb×List Bool):=
 (Kj L x.aG r x ks vs).bind λo=>bif o.1 != 0 then some o else(La L x.bL).bind λr4=>bif !r4 then some (1,o.2.1,o.2.2)else some (0,o.2.1,o.2.2)
theorem Bht(L:Nat)(fs:List Ap)(r:Al)(x:Ap)(k:List Ap)(i:Nat)(v:Int)(ks:List Yb)(vs:List Bool):
  Ew L fs r (x::k) i v ks vs=(rtB L r x ks vs).bind λo=>bif o.1 != 0 then some (0,(o.1,(i:Int),o.2.1,o.2.2))else Ew L fs r k (i+1) v o.2.1 o.2.2:=by
 rw[Ew,rtB];cases Kj L x.aG r x ks vs with
 |none=>rfl
 |some o=>
  simp only[Ju];by_cases h0:o.1=0
  ·simp only[h0,bne_self_eq_false,cond_false];cases La L x.bL with
   |none=>rfl
   |some b=>cases b<;>rfl
  ·simp only[Zs h0,cond_true,Ju]
theorem Bok(L:Nat)(r:Al)(x:Ap)(hx:I8 x)(hL:maxLen<L)(ks:List Yb):
  ∃ks',rtB L r x ks (tr ks)=some (fE (nmE ks x.aG) (unl (w6 x.bL) 1),ks',tr ks')/\(fE (nmE ks x.aG) (unl (w6 x.bL) 1)=0->ks'=ks++ [x.aG]):=by
 refine⟨nx ks x.aG,?_,Axd⟩;have e:Kj L x.aG r x ks (tr ks)=some (nmE ks x.aG,nx ks x.aG,tr (nx ks x.aG)):=Afg L x.aG hx.1 hL ks;rw[rtB,e,Ju,Ad1,Ju];by_cases h0:nmE ks x.aG=0
 ·simp only[h0,Z9];cases w6 x.bL<;>rfl
 ·simp only[Zs h0,cond_true,Aay h0]
def Amq:Nat:=maxLen+4194304
theorem Aek{L:Nat}(h:Amq<=L):maxLen<L:=Nat.lt_of_lt_of_le (Nat.lt_add_of_pos_right (by decide)) h
theorem Aig{L:Nat}{l:List Ad}(hL:Amq<=L)(hb:Cv l<=1048576):Fu L l:=by
 have h1:=Ap7 l;refine⟨Nat.lt_of_lt_of_le ?_ hL,hb⟩;unfold Amq;rw[Nat.add_assoc];exact Nat.add_lt_add_left (by omega) _
theorem Bcf(r:Al):Ayw r=if 6<r.aJ.length\/16<r.aJ.length+r.aL.length then 6 else fE (Acb (λf:Ap=>f.aG) (λf=>unl (w6 f.bL) 1) [] (r.aJ++r.aL)).1 (Afr r.aK):=rfl
theorem Aa7{r:Al}(hb:Dw r<=1048576):r.aJ.length<=1048576/\r.aL.length<=1048576/\Cv r.aK<=1048576:=by
 unfold Dw at hb;have h1:r.aJ.length<=Ic Ph r.aJ:=Hr λx=>by unfold Ph;omega
 have h2:r.aL.length<=Ic Ph r.aL:=Hr λx=>by unfold Ph;omega
 rw[Oh];exact⟨by omega,by omega,by omega⟩
theorem Arl(L:Nat)(r:Al)(hr:H7 r)(hb:Dw r<=1048576)(hL:Amq<=L):Wk L r=some (Ayw r):=by
 have hM:=Bp;obtain⟨b1,b2,b3⟩:=Aa7 hb;have hL':maxLen<L:=Aek hL;have e1:decide ((r.aJ.length:Int)>6)=decide (6<r.aJ.length):=gtN _ 6;have e2:Bb ((r.aJ.length:Int)+(r.aL.length:Int))=((r.aJ.length+r.aL.length:Nat):Int):=by rw[Iu (by omega) (by omega)];omega
 have e3:decide (((r.aJ.length+r.aL.length:Nat):Int)>16)=decide (16<r.aJ.length+r.aL.length):=gtN _ 16;have c1:=Av4 L r.aJ r.aL b1 b2 hL';have c2:=Amg (show∀y∈r.aK,B3 y from hr.2.2.2.2) L (Aig hL b3);simp only[Ai2,Si,Sb,Wk,Si,Sb,aN,aB,e1,e2,e3,Tc,Bcf];by_cases h0:6<r.aJ.length\/16<r.aJ.length+r.aL.length
 ·rw[if_pos h0];have:(decide (6<r.aJ.length) || decide (16<r.aJ.length+r.aL.length))=true:=by simpa using h0
  rw[this];rfl
 ·rw[if_neg h0];have:(decide (6<r.aJ.length) || decide (16<r.aJ.length+r.aL.length))=false:=by simpa using h0
  rw[this,cond_false,c1,Ju,Alr L _ r L (by simp;omega) (by simp;omega)];obtain⟨j,ks',hj,_⟩:=Ba1 (nm:=λf:Ap=>f.aG) (f:=λf=>unl (w6 f.bL) 1) (lq:=Ew L (r.aJ++r.aL) r) (bd:=rtB L r) (λ_ _ _ _=>rfl) (Bht L _ r) (r.aJ++r.aL) 0 0 [] (λx hx ks=>Bok L r x (by
   rcases List.mem_append.1 hx with h|h
   ·exact hr.2.1.2 x h
   ·exact hr.2.2.1.2 x h) hL' ks)
  have hj':Ew L (r.aJ++r.aL) r (r.aJ++r.aL) 0 0 [] []=_:=hj;rw[hj',Ju];by_cases hz:(Acb (λf:Ap=>f.aG) (λf=>unl (w6 f.bL) 1) [] (r.aJ++r.aL)).1=0
  ·rw[if_pos hz,Ze,hz,Z9,c2];rfl
  ·rw[if_neg hz,Sc,Aay hz]
def Auk(p:List Ap)(a:List Int):Bool:=(p.zip a).all λq=>Ama q.1.bL q.2
theorem A9k(s:Ac)(d:Bt):A5z s d=match s.aA.find? λr=>decide (r.aG=d.dN) with
 |none=>5
 |some r=>if d.aS.length≠r.aJ.length then 8 else if Auk r.aJ d.aS=false then 2
  else unl (Cp 0 1000000000 d.At && Cp 0 1000000000 d.Every && Cp 0 1000000000 d.Until && (d.Every != 0 || d.Until == 0)) 2:=rfl
theorem Att(L:Nat)(s:Ac)(n:Nat)(d:Bt)(p:List Ap)(hp:(s.aA.getD n default).aJ=p):∀(k:List Int) (i:Nat) (v:Int),i+k.length=p.length->
  ∃j,Ix L s (n:Int) d k i v=some (if Auk (p.drop i) k=true then(1,(v,j)) else(0,(2,j))):=by
 intro k
 induction k with
 |nil=>intro i v _;exact⟨i,by unfold Auk;simp[Ix]⟩
 |cons x k ih=>
  intro i v h;rw[List.length_cons]at h;have hi:i<p.length:=by omega
  obtain⟨j,hj⟩:=ih (i+1) v (by omega);rw[Ix];simp only[toN,hp,Ua hi,if_true,Afn,Ju,hj];have e:Auk (p.drop i) (x::k)=(Ama (p.getD i default).bL x && Auk (p.drop (i+1)) k):=by
   unfold Auk;rw[Azv p i hi,List.zip_cons_cons,List.all_cons]
  rw[e];cases Ama (p.getD i default).bL x with
  |false=>exact⟨i,rfl⟩
  |true=>exact⟨j,by simp⟩
theorem Avv(L:Nat)(s:Ac)(d:Bt)(hs:s.aA.length<=maxLen)(hd:d.aS.length<=maxLen)(hL:maxLen<L):Sq L s d=some (A5z s d):=by
 have hM:=Bp;simp only[Al5,V0,Vh,Sq,V0,Vh,aN,aB,Hk L s d.dN hs (by omega),Ju,Aa8,Ako,A9k,Akk];cases hf:s.aA.findIdx? (λx=>decide (x.aG=d.dN)) with
 |none=>rfl
 |some i=>
  have hi:=Avd hf;simp only[Option.isNone_some,cond_false,P7,nn,if_true,Ua hi,toN,Option.map_some];by_cases hn:d.aS.length=(s.aA.getD i default).aJ.length
  ·rw[if_neg (by simpa using hn)];have:((d.aS.length:Int) != ((s.aA.getD i default).aJ.length:Int))=false:=by rw[hn];simp
   rw[this,cond_false,Ao0 L s _ d L hd (by omega)];obtain⟨j,hj⟩:=Att L s i d _ rfl d.aS 0 0 (by omega);rw[hj,Ju,List.drop_zero];cases Auk (s.aA.getD i default).aJ d.aS with
   |false=>rfl
   |true=>
    simp only[if_true,Ze,Ij,Ju,Bool.true_eq_false,if_false];cases Cp 0 1000000000 d.At<;>cases Cp 0 1000000000 d.Every<;>cases Cp 0 1000000000 d.Until<;>try rfl
    by_cases h1:d.Every=0<;>by_cases h2:d.Until=0<;>simp[h1,h2,unl,Zs,beq_false_of_ne]
  ·rw[if_pos (by simpa using hn)];have:((d.aS.length:Int) != ((s.aA.getD i default).aJ.length:Int))=true:=bne_iff_ne.2 (by omega);rw[this];rfl
theorem Awa(L:Nat)(l:List Ao)(s:Ac)(t:Ck):∀(k:List Ao) (i:Nat) (v:Int),M4 L l s t k i v=some (match k.findIdx? (λx=>x.aG.toList == t.aG.toList) with|some j=>(0,(((i+j:Nat):Int),((i+j:Nat):Int)))|none=>(1,(v,((i+k.length:Nat):Int)))):=by
 intro k
 induction k with
 |nil=>intro i v;rfl
 |cons x k ih=>
  intro i v;rw[M4,ih,List.findIdx?_cons];cases hc:x.aG.toList == t.aG.toList with
  |true=>simp only[cond_true,if_true];rfl
  |false=>
   simp only[cond_false,if_false,Bool.false_eq_true];cases k.findIdx? (λx=>x.aG.toList == t.aG.toList) with
   |some j=>simp[Nat.add_assoc,Nat.add_comm 1]
   |none=>simp[Nat.add_assoc,Nat.add_comm 1]
theorem Ane(L:Nat)(l:List Ao)(s:Ac)(t:Ck)(hl:l.length<=maxLen)(hL:maxLen<L):F3 L l s t=some (P7 (l.findIdx? λx=>decide (x.aG=t.aG))):=by
 simp only[F3,Ai9,Ab5,aN,aB,Ara L l s t L hl (by omega),Awa,Ib,Ju];cases l.findIdx? (λx=>decide (x.aG=t.aG)) with
 |none=>rfl
 |some i=>simp[P7,Sc]
theorem Bc6(s:Ac)(t:Ck):Wj s t=if Awy t.bN=0 then 1
 else if(if Awy t.bN=1 then s.aA.any (λr=>decide (r.aG=t.aG))else if Awy t.bN=2 then s.aO.any (λx=>decide (x.aG=t.aG))else s.aU.any (λx=>decide (x=t.aG)))=false then 5
 else A6s t:=rfl
theorem Bk1(t:Ck)(b:Bool):(bif !b then some (5:Int)else bif !Cp (-1000) 1000 t.bW || t.bW == 0 then some 2 else some 0)=some (if b=false then 5 else A6s t):=by
 cases b with
 |false=>rfl
 |true=>
  unfold A6s unl;simp only[Bool.not_true,cond_false,Bool.true_eq_false,if_false];by_cases h:t.bW=0<;>cases Cp (-1000) 1000 t.bW<;>simp[h,Zs,beq_false_of_ne]
def wd1:Yb:=⟨#[99,114,101,97,116,101,100]⟩
theorem Bue:(⟨#[99,114,101,97,116,101,100]⟩:Yb)=wd1:=rfl
def wd2:Yb:=⟨#[101,110,100,101,100]⟩
theorem Buf:(⟨#[101,110,100,101,100]⟩:Yb)=wd2:=rfl
def wd3:Yb:=⟨#[105,110,115,105,100,101]⟩
theorem Bug:(⟨#[105,110,115,105,100,101]⟩:Yb)=wd3:=rfl
def wd4:Yb:=⟨#[115,116,111,114,101,100]⟩
theorem Buh:(⟨#[115,116,111,114,101,100]⟩:Yb)=wd4:=rfl
def wd5:Yb:=⟨#[101,110,116,101,114,101,100]⟩
theorem Bui:(⟨#[101,110,116,101,114,101,100]⟩:Yb)=wd5:=rfl
def wd6:Yb:=⟨#[108,101,102,116]⟩
theorem Buj:(⟨#[108,101,102,116]⟩:Yb)=wd6:=rfl
def wd7:Yb:=⟨#[99,111,117,110,116,101,100]⟩
theorem Buk:(⟨#[99,111,117,110,116,101,100]⟩:Yb)=wd7:=rfl
theorem wdn:¬wd2=wd1/\¬wd3=wd1/\¬wd3=wd2/\¬wd4=wd1/\¬wd4=wd2/\¬wd4=wd3/\¬wd5=wd1/\¬wd5=wd2/\¬wd5=wd3/\¬wd5=wd4/\¬wd6=wd1/\¬wd6=wd2/\¬wd6=wd3/\¬wd6=wd4/\¬wd6=wd5/\¬wd7=wd1/\¬wd7=wd2/\¬wd7=wd3/\¬wd7=wd4/\¬wd7=wd5/\¬wd7=wd6:=by decide
theorem Bdg(w:Yb):Awy w=if w=wd1\/w=wd2\/w=wd3 then 1 else if w=wd4\/w=wd5\/w=wd6 then 2 else if w=wd7 then 3 else 0:=rfl
theorem Axj(L:Nat)(s:Ac)(t:Ck)(h:Aeb s maxLen)(hL:maxLen<L):Uj L s t=some (Wj s t):=by
 have hM:=Bp;obtain⟨_,_,h2,_,_,_,_,_,h8,h9⟩:=h;have hR:decide (Aa8 s t.aG>=0)=s.aA.any (λx=>decide (x.aG=t.aG)):=Aok _ _;simp only[An2,Xm,Xb,Xc,Xd,Xe,Xf,Xg,Xh,Vi,Vj,Uj,Xm,Xb,Xc,Xd,Xe,Xf,Xg,Xh,Vi,Vj,aN,aB,Ib,Hk L s t.aG h9 (by omega),Ane L _ s t h2 hL,V8 L _ t.aG h8 hL,Ij,Ju,hR,Aok,Tc,Bk1,Bc6,Bdg];simp only[Bue,Buf,Bug,Buh,Bui,Buj,Buk];by_cases c1:t.bN=wd1
 ·simp[c1]
 by_cases c2:t.bN=wd2
 ·simp[c1,c2,wdn]
 by_cases c3:t.bN=wd3
 ·simp[c1,c2,c3,wdn]
 by_cases c4:t.bN=wd4
 ·simp[c1,c2,c3,c4,wdn]
 by_cases c5:t.bN=wd5
 ·simp[c1,c2,c3,c4,c5,wdn]
 by_cases c6:t.bN=wd6
 ·simp[c1,c2,c3,c4,c5,c6,wdn]
 by_cases c7:t.bN=wd7
 ·simp[c1,c2,c3,c4,c5,c6,c7,wdn]
 ·simp[c1,c2,c3,c4,c5,c6,c7]
structure SG (s:Ac):Prop where
 ok:Cr s
 bk:Ek s<=1048576
theorem SG.len{s:Ac}(h:SG s):Aeb s 1099511627776:=(A2z s).mono (Nat.le_trans h.bk (by decide))
theorem SG.ln{s:Ac}(h:SG s):Aeb s maxLen:=h.len.max
theorem SG.vars{s:Ac}(h:SG s):∀x∈s.bG,O3 x:=by have:=h.ok;unfold Cr at this;exact this.2.1.2
theorem SG.res{s:Ac}(h:SG s):∀x∈s.aM,Qe x:=by have:=h.ok;unfold Cr at this;exact this.2.2.1.2
theorem SG.stores{s:Ac}(h:SG s):∀x∈s.aO,Qp x:=by have:=h.ok;unfold Cr at this;exact this.2.2.2.1.2
theorem SG.belts{s:Ac}(h:SG s):∀x∈s.bH,Sj x:=by have:=h.ok;unfold Cr at this;exact this.2.2.2.2.1.2
theorem SG.queues{s:Ac}(h:SG s):∀x∈s.aX,okS x:=by have:=h.ok;unfold Cr at this;exact this.2.2.2.2.2.1.2
theorem SG.streams{s:Ac}(h:SG s):∀x∈s.aR,okS x:=by have:=h.ok;unfold Cr at this;exact this.2.2.2.2.2.2.1.2
theorem SG.tallies{s:Ac}(h:SG s):∀x∈s.aT,okS x:=by have:=h.ok;unfold Cr at this;exact this.2.2.2.2.2.2.2.1.2
theorem SG.levels{s:Ac}(h:SG s):∀x∈s.bA,okS x:=by have:=h.ok;unfold Cr at this;exact this.2.2.2.2.2.2.2.2.1.2
theorem SG.counts{s:Ac}(h:SG s):∀x∈s.aU,okS x:=by have:=h.ok;unfold Cr at this;exact this.2.2.2.2.2.2.2.2.2.1.2
theorem SG.routs{s:Ac}(h:SG s):∀x∈s.aA,H7 x:=by have:=h.ok;unfold Cr at this;exact this.2.2.2.2.2.2.2.2.2.2.1.2
theorem SG.starts{s:Ac}(h:SG s):s.aZ.length<=maxLen/\∀x∈s.aZ,Ack x:=by have:=h.ok;unfold Cr at this;exact this.2.2.2.2.2.2.2.2.2.2.2.1
theorem SG.laws{s:Ac}(h:SG s):s.Laws.length<=maxLen/\∀x∈s.Laws,Adb x:=by have:=h.ok;unfold Cr at this;exact this.2.2.2.2.2.2.2.2.2.2.2.2
theorem SG.bkR{s:Ac}(h:SG s):∀x∈s.aA,Dw x<=1048576:=by
 intro x hx;have h1:=Ad5 (g:=Dw) hx;have h2:=h.bk;unfold Ek at h2;omega
theorem SG.bkD{s:Ac}(h:SG s):∀x∈s.aM,Um x.dG<=1048576:=by
 intro x hx;have h1:=Ad5 (g:=Gf) hx;have h2:=h.bk;have h3:Um x.dG<=Gf x:=by unfold Gf;omega
 unfold Ek at h2;omega
theorem Bgl(tm:Ck->Int)(l:Bg):Az9 tm l=fE (unl (decide (0<l.bX.length)) 7) (fE (unl (decide (l.bX.length<=8)) 6) (fE (Alo tm l.bX) (unl (inZ l.Total) 2))):=rfl
theorem Bmu(L:Nat)(s:Ac)(l:Bg)(hl:Adb l)(hs:Aeb s maxLen)(hL:maxLen<L)(ks:List Yb):
  ∃ks',Oi L l s ks (tr ks) l=some (fE (nmE ks l.aG) (Az9 (Wj s) l),ks',tr ks')/\(fE (nmE ks l.aG) (Az9 (Wj s) l)=0->ks'=ks++ [l.aG]):=by
 have hM:=Bp;refine⟨nx ks l.aG,?_,Axd⟩;have e:d9 L l.aG s ks (tr ks) l l=some (nmE ks l.aG,nx ks l.aG,tr (nx ks l.aG)):=Afg L l.aG hl.1 hL ks;have e2:∀a b c d,f5 L l.bX s a b c d=some (if 8<l.bX.length then 6 else Alo (Wj s) l.bX):=λa b c d=>
  A6n (lq:=Ok L l.bX s a b c d) (bd:=Uj L s) (λ_ _=>rfl) (λ_ _ _ _=>rfl) 8 l.bX 0 _ (Aq2 L l.bX s a b c d L hl.2.1.1 (Nat.lt_of_le_of_lt hl.2.1.1 hL) 0) λx _=>Axj L s x hs hL
 simp only[Oi,Ai7,Agx,w9,n9,aN,aB,e,e2,Ju,Bn4,Arn,Bgl];by_cases h0:nmE ks l.aG=0
 ·simp only[h0,bne_self_eq_false,cond_false,Z9];by_cases h1:l.bX.length=0
  ·rw[decide_eq_true h1,decide_eq_false (show¬0<l.bX.length by omega)];rfl
  ·rw[decide_eq_false h1,decide_eq_true (show 0<l.bX.length by omega),cond_false];by_cases h2:8<l.bX.length
   ·rw[if_pos h2,decide_eq_false (show¬l.bX.length<=8 by omega)];rfl
   ·rw[if_neg h2,decide_eq_true (show l.bX.length<=8 by omega)];simp only[unl,cond_true,Z9];by_cases h3:Alo (Wj s) l.bX=0
    ·simp only[h3,bne_self_eq_false,cond_false,Z9];cases inZ l.Total<;>rfl
    ·simp only[Zs h3,cond_true,Aay h3]
 ·simp only[Zs h0,cond_true,Aay h0]
theorem Out.e{X:Option (Int×List Yb×List Bool)}{p:Int×List Yb}(h:Out X p):∃a b,X=some (p.1,a,b):=by
 obtain⟨ks,h,_⟩:=h;exact⟨_,_,h⟩
theorem Axh(L:Nat)(s:Ac)(h:SG s)(hL:maxLen<L):Aci L s=some (Td 32 (λl:Bg=>l.aG) (Az9 (Wj s)) [] s.Laws).1:=by
 obtain⟨a,b,e⟩:=Out.e (Yu (nm:=λl:Bg=>l.aG) (f:=Az9 (Wj s)) (lq:=Oj L s.Laws s) (bd:=λx ks vs=>Oi L x s ks vs x) (λ_ _ _ _=>rfl) (λ_ _ _ _ _ _=>rfl) 32 s.Laws 0 [] _
  (Aq1 L s.Laws s L h.laws.1 (Nat.lt_of_le_of_lt h.laws.1 hL) 0 [] []) λx hx ks=>Bmu L s x (h.laws.2 x hx) h.ln hL ks)
 have e1:Abl L s.Laws s=some ((Td 32 (λl:Bg=>l.aG) (Az9 (Wj s)) [] s.Laws).1,a,b):=e;simp only[An0,U8,Aci,U8,aN,aB,e1,Ju]
theorem Azb(v:Ai):Ad8 v=fE (unl (w6 v.bL) 1) (unl (Ama v.bL v.N) 2):=rfl
theorem A9p(x:Ao):Awt x=fE (unl (Cp 1 1000 x.Room) 2) (unl (Cp 1 3 x.dD) 1):=rfl
theorem Bad(x:Ar):A14 x=unl (Cp 1 1000 x.Length && Cp 1 1000 x.Step) 2:=rfl
theorem Bho(s:Ac)(r:Ah):Bcc s r=fE (unl (Cp 0 1000 r.Units) 2) (fE (Awn r) (A6x s r.dG)):=rfl
theorem Bp2(L:Nat)(s:Ac)(x:Ai)(hx:O3 x)(hL:maxLen<L)(ks:List Yb):
  ∃ks',Ns L x s ks (tr ks) x=some (fE (nmE ks x.aG) (Ad8 x),ks',tr ks')/\(fE (nmE ks x.aG) (Ad8 x)=0->ks'=ks++ [x.aG]):=by
 refine⟨nx ks x.aG,?_,Axd⟩;have e:i8 L x.aG s ks (tr ks) x x=some (nmE ks x.aG,nx ks x.aG,tr (nx ks x.aG)):=Afg L x.aG hx.1 hL ks;simp only[Ns,Agd,u6,aN,aB,e,Ju,Ad1,Afn,Azb];by_cases h0:nmE ks x.aG=0
 ·simp only[h0,bne_self_eq_false,cond_false,Z9];cases w6 x.bL<;>cases Ama x.bL x.N<;>rfl
 ·simp only[Zs h0,cond_true,Aay h0]
theorem Bof(L:Nat)(s:Ac)(hs:SG s)(x:Ah)(hm:x∈s.aM)(hL:maxLen<L)(ks:List Yb):
  ∃ks',Nt L x s ks (tr ks) x=some (fE (nmE ks x.aG) (Bcc s x),ks',tr ks')/\(fE (nmE ks x.aG) (Bcc s x)=0->ks'=ks++ [x.aG]):=by
 have hx:=hs.res x hm;refine⟨nx ks x.aG,?_,Axd⟩;have e:j5 L x.aG s ks (tr ks) x x=some (nmE ks x.aG,nx ks x.aG,tr (nx ks x.aG)):=Afg L x.aG hx.1 hL ks;simp only[Nt,Agf,u7,aN,aB,e,Ju,Ij,Apa L x hx.2.2.1.1 hL,Ao9 L s x.dG hs.ln.2.2.2.2.2.1 (hs.bkD x hm) hL,Bho];by_cases h0:nmE ks x.aG=0
 ·simp only[h0,bne_self_eq_false,cond_false,Z9];cases Cp 0 1000 x.Units with
  |false=>rfl
  |true=>
   simp only[Bool.not_true,cond_false,unl,cond_true,Z9];by_cases h1:Awn x=0
   ·simp only[h1,bne_self_eq_false,cond_false,Z9]
   ·simp only[Zs h1,cond_true,Aay h1]
 ·simp only[Zs h0,cond_true,Aay h0]
theorem Bc2(L:Nat)(s:Ac)(x:Ao)(hx:Qp x)(hL:maxLen<L)(ks:List Yb):
  ∃ks',Nu L x s ks (tr ks) x=some (fE (nmE ks x.aG) (Awt x),ks',tr ks')/\(fE (nmE ks x.aG) (Awt x)=0->ks'=ks++ [x.aG]):=by
 refine⟨nx ks x.aG,?_,Axd⟩;have e:j7 L x.aG s ks (tr ks) x x=some (nmE ks x.aG,nx ks x.aG,tr (nx ks x.aG)):=Afg L x.aG hx.1 hL ks;have e2:(decide (x.dD<1) || decide (x.dD>3))= !Cp 1 3 x.dD:=by
  unfold Cp;by_cases h1:x.dD<1
  ·rw[decide_eq_true h1,decide_eq_false (show¬1<=x.dD by omega)];rfl
  ·rw[decide_eq_false h1,decide_eq_true (show 1<=x.dD by omega)];by_cases h2:x.dD>3
   ·rw[decide_eq_true h2,decide_eq_false (show¬x.dD<=3 by omega)];rfl
   ·rw[decide_eq_false h2,decide_eq_true (show x.dD<=3 by omega)];rfl
 simp only[Nu,Agh,u9,aN,aB,e,Ju,Ij,Tc,e2,A9p];by_cases h0:nmE ks x.aG=0
 ·simp only[h0,bne_self_eq_false,cond_false,Z9];cases Cp 1 1000 x.Room<;>cases Cp 1 3 x.dD<;>rfl
 ·simp only[Zs h0,cond_true,Aay h0]
theorem Be1(L:Nat)(s:Ac)(x:Ar)(hx:Sj x)(hL:maxLen<L)(ks:List Yb):
  ∃ks',Nv L x s ks (tr ks) x=some (fE (nmE ks x.aG) (A14 x),ks',tr ks')/\(fE (nmE ks x.aG) (A14 x)=0->ks'=ks++ [x.aG]):=by
 refine⟨nx ks x.aG,?_,Axd⟩;have e:j9 L x.aG s ks (tr ks) x x=some (nmE ks x.aG,nx ks x.aG,tr (nx ks x.aG)):=Afg L x.aG hx.1 hL ks;simp only[Nv,Agj,v6,aN,aB,e,Ju,Ij,Bad];by_cases h0:nmE ks x.aG=0
 ·simp only[h0,bne_self_eq_false,cond_false,Z9];cases Cp 1 1000 x.Length<;>cases Cp 1 1000 x.Step<;>rfl
 ·simp only[Zs h0,cond_true,Aay h0]
theorem Bhr(L:Nat)(s:Ac)(hs:SG s)(x:Al)(hm:x∈s.aA)(hL:Amq<=L)(ks:List Yb):
  ∃ks',Nx L x s ks (tr ks) x=some (fE (nmE ks x.aG) (Ayw x),ks',tr ks')/\(fE (nmE ks x.aG) (Ayw x)=0->ks'=ks++ [x.aG]):=by
 have hx:=hs.routs x hm;refine⟨nx ks x.aG,?_,Axd⟩;have e:k6 L x.aG s ks (tr ks) x x=some (nmE ks x.aG,nx ks x.aG,tr (nx ks x.aG)):=Afg L x.aG hx.1 (Aek hL) ks;simp only[Nx,Agm,Zc,aN,aB,e,Ju,Arl L x hx (hs.bkR x hm) hL];by_cases h0:nmE ks x.aG=0
 ·simp only[h0,bne_self_eq_false,cond_false,Z9]
 ·simp only[Zs h0,cond_true,Aay h0]
theorem Bip(L:Nat)(s:Ac)(x:Yb)(hx:okS x)(hL:maxLen<L)(ks:List Yb):
  ∃ks',Nw L x s ks (tr ks)=some (fE (nmE ks x) 0,ks',tr ks')/\(fE (nmE ks x) 0=0->ks'=ks++ [x]):=by
 refine⟨nx ks x,?_,Axd⟩;have e:Nw L x s ks (tr ks)=some (nmE ks x,nx ks x,tr (nx ks x)):=Afg L x hx hL ks;rw[e];by_cases h0:nmE ks x=0
 ·rw[h0,Z9]
 ·rw[Aay h0]
theorem Amz{α :Type}{l:List α}{L:Nat}(h:l.length<=maxLen)(hL:maxLen<L):l.length<L+24:=Nat.lt_of_lt_of_le (Nat.lt_of_le_of_lt h hL) (Nat.le_add_right L 24)
theorem Bdd(L:Nat)(s:Ac)(h:SG s)(hL:maxLen<L):Out (f8 L s.bG s) (Td 32 (λx:Ai=>x.aG) Ad8 [] s.bG):=
 Yu (lq:=Ol L s.bG s) (bd:=λx ks vs=>Ns L x s ks vs x) (λ_ _ _ _=>rfl) (λ_ _ _ _ _ _=>rfl) 32 s.bG 0 [] _
  (Aq3 L s.bG s (L+24) h.ln.1 (Amz h.ln.1 hL) 0 [] []) λx hx ks=>Bp2 L s x (h.vars x hx) hL ks
theorem Bhq(L:Nat)(s:Ac)(h:SG s)(hL:maxLen<L)(ks:List Yb):Out (j4 L s.aM s ks (tr ks)) (Td 32 (λx:Ah=>x.aG) (Bcc s) ks s.aM):=
 Yu (lq:=Om L s.aM s) (bd:=λx ks vs=>Nt L x s ks vs x) (λ_ _ _ _=>rfl) (λ_ _ _ _ _ _=>rfl) 32 s.aM 0 ks _
  (Aq4 L s.aM s (L+24) h.ln.2.1 (Amz h.ln.2.1 hL) 0 ks _) λx hx ks=>Bof L s h x hx hL ks
theorem A59(L:Nat)(s:Ac)(h:SG s)(hL:maxLen<L)(ks:List Yb):Out (j6 L s.aO s ks (tr ks)) (Td 32 (λx:Ao=>x.aG) Awt ks s.aO):=
 Yu (lq:=On L s.aO s) (bd:=λx ks vs=>Nu L x s ks vs x) (λ_ _ _ _=>rfl) (λ_ _ _ _ _ _=>rfl) 32 s.aO 0 ks _
  (Aq5 L s.aO s (L+24) h.ln.2.2.1 (Amz h.ln.2.2.1 hL) 0 ks _) λx hx ks=>Bc2 L s x (h.stores x hx) hL ks
theorem A76(L:Nat)(s:Ac)(h:SG s)(hL:maxLen<L)(ks:List Yb):Out (j8 L s.bH s ks (tr ks)) (Td 32 (λx:Ar=>x.aG) A14 ks s.bH):=
 Yu (lq:=Oo L s.bH s) (bd:=λx ks vs=>Nv L x s ks vs x) (λ_ _ _ _=>rfl) (λ_ _ _ _ _ _=>rfl) 32 s.bH 0 ks _
  (Aq6 L s.bH s (L+24) h.ln.2.2.2.1 (Amz h.ln.2.2.2.1 hL) 0 ks _) λx hx ks=>Be1 L s x (h.belts x hx) hL ks
theorem Ahb(L:Nat)(s:Ac)(l:List Yb)(h1:l.length<=maxLen)(h2:∀x∈l,okS x)(hL:maxLen<L)(ks:List Yb):Out (Kk L l s ks (tr ks)) (txE ks l):=
 Yu (lq:=Oq L l s) (bd:=λx ks vs=>Nw L x s ks vs) (λ_ _ _ _=>rfl) (λ_ _ _ _ _ _=>rfl) 32 l 0 ks _
  (Aq7 L l s (L+24) h1 (Amz h1 hL) 0 ks _) λx hx ks=>Bip L s x (h2 x hx) hL ks
theorem A88(L:Nat)(s:Ac)(h:SG s)(hL:Amq<=L)(ks:List Yb):Out (k4 L s.aA s ks (tr ks)) (Td 16 (λx:Al=>x.aG) Ayw ks s.aA):=
 Yu (lq:=Ot L s.aA s) (bd:=λx ks vs=>Nx L x s ks vs x) (λ_ _ _ _=>rfl) (λ_ _ _ _ _ _=>rfl) 16 s.aA 0 ks _
  (Aq8 L s.aA s (L+24) h.ln.2.2.2.2.2.2.2.2.2 (Amz h.ln.2.2.2.2.2.2.2.2.2 (Aek hL)) 0 ks _) λx hx ks=>Bhr L s h x hx hL ks
theorem Ati(L:Nat)(s:Ac)(h:SG s)(hL:maxLen<L)(a:List Yb)(b:List Bool):k7 L s.aZ s a b=some (Auc s):=
 A6n (lq:=Ou L s.aZ s a b) (bd:=Sq L s) (λ_ _=>rfl) (λ_ _ _ _=>rfl) 32 s.aZ 0 _ (Aq9 L s.aZ s a b (L+24) h.starts.1 (Amz h.starts.1 hL) 0) λx hx=>
  Avv L s x h.ln.2.2.2.2.2.2.2.2.2 ((h.starts.2 x hx).2.1.1) hL
theorem Bct(tm:Ac->Ck->Int)(s:Ac):Apn tm s=fE (A4n s).1 (fE (Auc s) (Td 32 (λl:Bg=>l.aG) (Az9 (tm s)) [] s.Laws).1):=rfl
theorem Anc(L:Nat)(s:Ac)(h:SG s)(hL:Amq<=L):Gl (Apn Wj s) (Wq L s):=by
 have hl:=Aek hL;have g:∀a b:Int,a<b->((a<b)=True):=λa b h=>eq_true h;have e0:∀n:Int,0<=n->((0<=n)=True):=λn h=>eq_true h;simp only[Wq,Ai8,x9,Ag1,y5,Ag3,y6,v5,y7,Ag6,y8,Ag8,y9,v7,Zn,Aew,Zo,Aex,Zp,Zb,Zq,Aez,Zr,Zd,aN,aB]
 repeat rw[Jh (by decide)]
 rw[Bct,A4n];simp only[A6c];refine Apt (Bdd L s h hl) (λ_ _ _ h=>nzE h _ _ _) λks=>?_;simp only[bne_self_eq_false,cond_false]
 repeat rw[Jh (by decide)]
 refine Apt (Bhq L s h hl ks) (λ_ _ _ h=>nzE h _ _ _) λks=>?_;simp only[bne_self_eq_false,cond_false]
 repeat rw[Jh (by decide)]
 refine Apt (A59 L s h hl ks) (λ_ _ _ h=>nzE h _ _ _) λks=>?_;simp only[bne_self_eq_false,cond_false]
 repeat rw[Jh (by decide)]
 refine Apt (A76 L s h hl ks) (λ_ _ _ h=>nzE h _ _ _) λks=>?_;simp only[bne_self_eq_false,cond_false]
 repeat rw[Jh (by decide)]
 refine Apt (Ahb L s s.aX h.ln.2.2.2.2.1 h.queues hl ks) (λ_ _ _ h=>nzE h _ _ _) λks=>?_;simp only[bne_self_eq_false,cond_false]
 repeat rw[Jh (by decide)]
 refine Apt (Ahb L s s.aR h.ln.2.2.2.2.2.1 h.streams hl ks) (λ_ _ _ h=>nzE h _ _ _) λks=>?_;simp only[bne_self_eq_false,cond_false]
 repeat rw[Jh (by decide)]
 refine Apt (Ahb L s s.aT h.ln.2.2.2.2.2.2.1 h.tallies hl ks) (λ_ _ _ h=>nzE h _ _ _) λks=>?_;simp only[bne_self_eq_false,cond_false]
 repeat rw[Jh (by decide)]
 refine Apt (Ahb L s s.bA h.ln.2.2.2.2.2.2.2.1 h.levels hl ks) (λ_ _ _ h=>nzE h _ _ _) λks=>?_;simp only[bne_self_eq_false,cond_false]
 repeat rw[Jh (by decide)]
 refine Apt (Ahb L s s.aU h.ln.2.2.2.2.2.2.2.2.1 h.counts hl ks) (λ_ _ _ h=>nzE h _ _ _) λks=>?_;simp only[bne_self_eq_false,cond_false]
 repeat rw[Jh (by decide)]
 refine Bt9 (A88 L s h hL ks) (λ_ _ _ h=>nzE h _ _ _) λks=>?_;simp only[bne_self_eq_false,cond_false]
 repeat rw[Jh (by decide)]
 rw[Ati L s h hl,Ju];by_cases h1:Auc s=0
 ·simp only[h1,bne_self_eq_false,cond_false,Z9]
  repeat rw[Jh (by decide)]
  rw[Axh L s h hl,Ju];by_cases h2:(Td 32 (λl:Bg=>l.aG) (Az9 (Wj s)) [] s.Laws).1=0
  ·simp only[h2,bne_self_eq_false,cond_false];exact⟨_,_,rfl⟩
  ·simp only[Zs h2,cond_true];exact⟨_,_,rfl⟩
 ·simp only[Zs h1,cond_true,Aay h1];exact⟨_,_,rfl⟩
theorem Axi(L:Nat)(s:Ac)(h:SG s)(hL:Amq<=L):Acj L s=some (Apn Wj s):=by
 obtain⟨a,b,e⟩:=Anc L s h hL;simp only[An1,Tq,Acj,Tq,aN,aB,e,Ju]
def Axw(l:List Bf):List Bv:=l.map λx=>(⟨x.dA,x.To⟩:Bv)
def Bom(seen:List Bf)(x:Bf):Bool:=seen.any λy=>decide (y.dA=x.dA) && decide (y.To=x.To)
theorem Bbw(m:Ag)(seen:List Bf)(l:Bf):A20 m seen l=if(m.aD.any (λd=>decide (d.aG=l.dA)) && m.aD.any (λd=>decide (d.aG=l.To)))=false then 5
 else if l.dA=l.To then 1 else if Cp 1 1000000000 l.fA=false then 2 else unl (!Bom seen l) 4:=rfl
theorem Bis(seen:List Bf)(x:Bf):((Axw seen).any λb=>x.dA == b.a0 && x.To == b.a1)=Bom seen x:=by
 unfold Axw Bom;rw[List.any_map]
 congr 1
 funext y
 show(x.dA == y.dA && x.To == y.To)=_
 rw[Azk,Azk]
theorem Bcu(m:Ag)(n:Yb):decide (Ajd m n<0)= !m.aD.any λd=>decide (d.aG=n):=by
 unfold Ajd;rw[Ako];cases h:m.aD.findIdx? λd=>decide (d.aG=n) with
 |none=>rw[Au4 h];rfl
 |some i=>rw[Aqe h];rfl
theorem Bg7(L:Nat)(m:Ag)(x:Bf)(hm:m.aD.length<=maxLen)(hL:maxLen<L)(seen:List Bf):
  ∃ks',Qt L x m (Axw seen) (tr (Axw seen)) x=some (A20 m seen x,ks',tr ks')/\(A20 m seen x=0->ks'=Axw (seen++ [x])):=by
 simp only[Qt,b0,aN,aB,Aal L m _ hm hL,Ij,Ju,Bcu,Ib,Ps,Tc,Bbw];rw[<-Bis];cases m.aD.any (λd=>decide (d.aG=x.dA)) with
 |false=>exact⟨_,rfl,λh=>absurd (show(5:Int)=0 from h) (by decide)⟩
 |true=>
  cases m.aD.any (λd=>decide (d.aG=x.To)) with
  |false=>exact⟨_,rfl,λh=>absurd (show(5:Int)=0 from h) (by decide)⟩
  |true=>
   simp only[Bool.not_true,Bool.or_self,cond_false,Bool.and_self,Bool.true_eq_false,if_false];by_cases h1:x.dA=x.To
   ·rw[decide_eq_true h1,if_pos h1];exact⟨_,rfl,λh=>absurd (show(1:Int)=0 from h) (by decide)⟩
   ·rw[decide_eq_false h1,if_neg h1,cond_false];cases Cp 1 1000000000 x.fA with
    |false=>exact⟨_,rfl,λh=>absurd (show(2:Int)=0 from h) (by decide)⟩
    |true=>
     simp only[Bool.not_true,cond_false,Bool.true_eq_false,if_false];cases hf:(Axw seen).findIdx? λb=>x.dA == b.a0 && x.To == b.a1 with
     |some i=>
      rw[Aqe hf];obtain⟨h3,_⟩:=List.findIdx?_eq_some_iff_getElem.1 hf;simp only[fko,Bc7 h3];exact⟨_,rfl,λh=>absurd (show(4:Int)=0 from h) (by decide)⟩
     |none=>
      rw[Au4 hf];simp only[fko];rw[A7t (Axw seen) (⟨x.dA,x.To⟩:Bv)];exact⟨_,rfl,λ_=>by unfold Axw;rw[List.map_append];rfl⟩
theorem Ato(L:Nat)(l:List Bf)(m:Ag)(hm:m.aD.length<=maxLen)(hL:maxLen<L):∀(k:List Bf) (i:Nat) (v:Int) (seen:List Bf),
  ∃j a b,Iw L l m k i v (Axw seen) (tr (Axw seen))=some (if Aqt m seen k=0 then(1,(v,(j,a,b))) else(0,(Aqt m seen k,(j,a,b)))):=by
 intro k
 induction k with
 |nil=>intro i v seen;exact⟨i,_,_,rfl⟩
 |cons x k ih=>
  intro i v seen;obtain⟨ks',he,hk⟩:=Bg7 L m x hm hL seen;rw[Iw,he,Ju,Aqt];by_cases h0:A20 m seen x=0
  ·have:=hk h0;subst this
   obtain⟨j,a,b,hj⟩:=ih (i+1) v (seen++ [x]);rw[h0,Z9];exact⟨j,a,b,hj⟩
  ·rw[Aay h0];exact⟨i,ks',tr ks',by simp only[Zs h0,cond_true,if_neg h0]⟩
theorem Avu(L:Nat)(m:Ag)(hm:m.aD.length<=maxLen)(hl:m.bC.length<=maxLen)(hL:maxLen<L):Aab L m=some (A5b m):=by
 have e32:decide ((m.bC.length:Int)>32)=decide (32<m.bC.length):=gtN _ 32;obtain⟨j,a,b,hj⟩:=Ato L m.bC m hm hL m.bC 0 0 [];have hj':Iw L m.bC m m.bC 0 0 [] []=_:=hj;simp only[Al3,Va,Aab,Va,f7,Af8,x0,p9,aN,aB,e32,Aov L m.bC m L hl (Nat.lt_of_le_of_lt hl hL),hj',Ju,A5b];by_cases h:32<m.bC.length
 ·rw[decide_eq_true h,if_pos h];rfl
 ·rw[decide_eq_false h,if_neg h,cond_false];by_cases h0:Aqt m [] m.bC=0
  ·rw[if_pos h0,Ze,h0];rfl
  ·rw[if_neg h0,Sc];rfl
structure MG (m:Ag):Prop where
 ok:Uk m
 bk:Hi m<=1048576
theorem MG.sites{m:Ag}(h:MG m):m.aD.length<=maxLen:=h.ok.2.2.1.1
theorem MG.site{m:Ag}(h:MG m):∀d∈m.aD,SG d:=λd hd=>⟨h.ok.2.2.1.2 d hd,by have h1:=Ad5 (g:=Ek) hd;have h2:=h.bk;unfold Hi at h2;omega⟩
theorem MG.links{m:Ag}(h:MG m):m.bC.length<=maxLen:=h.ok.2.2.2.1
theorem Boc(L:Nat)(m:Ag)(x:Ai)(hx:O3 x)(hL:maxLen<L)(ks:List Yb):
  ∃ks',Nr L x m ks (tr ks) x=some (fE (nmE ks x.aG) (Ad8 x),ks',tr ks')/\(fE (nmE ks x.aG) (Ad8 x)=0->ks'=ks++ [x.aG]):=by
 refine⟨nx ks x.aG,?_,Axd⟩;have e:d7 L x.aG m ks (tr ks) x x=some (nmE ks x.aG,nx ks x.aG,tr (nx ks x.aG)):=Afg L x.aG hx.1 hL ks;simp only[Nr,Af5,n7,aN,aB,e,Ju,Ad1,Afn,Azb];by_cases h0:nmE ks x.aG=0
 ·simp only[h0,bne_self_eq_false,cond_false,Z9];cases w6 x.bL<;>cases Ama x.bL x.N<;>rfl
 ·simp only[Zs h0,cond_true,Aay h0]
theorem Bij(L:Nat)(m:Ag)(a:List Yb)(b:List Bool)(x:Ac)(hx:SG x)(hL:Amq<=L)(ks:List Yb):
  ∃ks',Lz L x m a b ks (tr ks) x=some (fE (nmE ks x.aG) (Apn Wj x),ks',tr ks')/\(fE (nmE ks x.aG) (Apn Wj x)=0->ks'=ks++ [x.aG]):=by
 have hn:okS x.aG:=by have:=hx.ok;unfold Cr at this;exact this.1
 refine⟨nx ks x.aG,?_,Axd⟩;have e:Yy L x.aG m a b ks (tr ks) x x=some (nmE ks x.aG,nx ks x.aG,tr (nx ks x.aG)):=Afg L x.aG hn (Aek hL) ks;simp only[Lz,Aem,Y9,aN,aB,e,Ju,Axi L x hx hL];by_cases h0:nmE ks x.aG=0
 ·simp only[h0,bne_self_eq_false,cond_false,Z9]
 ·simp only[Zs h0,cond_true,Aay h0]
theorem Avs(L:Nat)(m:Ag)(h:MG m)(hL:Amq<=L):z8 L m=some (Avl Wj m):=by
 have hl:=Aek hL;have hp:=h.ok.2.1;obtain⟨a,b,e1⟩:=Out.e (Yu (nm:=λx:Ai=>x.aG) (f:=Ad8) (lq:=Ny L m.aJ m) (bd:=λx ks vs=>Nr L x m ks vs x) (λ_ _ _ _=>rfl) (λ_ _ _ _ _ _=>rfl) 32 m.aJ 0 [] _
  (Aot L m.aJ m L hp.1 (Nat.lt_of_le_of_lt hp.1 hl) 0 [] []) λx hx ks=>Boc L m x (hp.2 x hx) hl ks)
 have e1':d6 L m.aJ m=some ((Td 32 (λx:Ai=>x.aG) Ad8 [] m.aJ).1,a,b):=e1;obtain⟨c,d,e2⟩:=Out.e (Yu (nm:=λx:Ac=>x.aG) (f:=Apn Wj) (lq:=Nz L m.aD m a b) (bd:=λx ks vs=>Lz L x m a b ks vs x) (λ_ _ _ _=>rfl) (λ_ _ _ _ _ _=>rfl) 16 m.aD 0 [] _
  (Aou L m.aD m a b L h.sites (Nat.lt_of_le_of_lt h.sites hl) 0 [] []) λx hx ks=>Bij L m a b x (h.site x hx) hL ks)
 have e2':d8 L m.aD m a b=some ((Td 16 (λx:Ac=>x.aG) (Apn Wj) [] m.aD).1,c,d):=e2;simp only[Al2,Vq,n8,Tw,Tm,z8,Vq,n8,Tw,Tm,aN,aB,Uc L m.aG h.ok.1 (Nat.lt_of_le_of_lt h.ok.1 hl),e1',e2',Avu L m h.sites h.links hl,Bn4,Ju];unfold Avl;by_cases h0:V7 m.aG=0
 ·simp only[h0,bne_self_eq_false,cond_false,Z9];by_cases h1:(Td 32 (λx:Ai=>x.aG) Ad8 [] m.aJ).1=0
  ·simp only[h1,bne_self_eq_false,cond_false,Z9];by_cases h2:m.aD.length=0
   ·rw[decide_eq_true h2,decide_eq_false (show¬0<m.aD.length by omega)];rfl
   ·rw[decide_eq_false h2,decide_eq_true (show 0<m.aD.length by omega)];simp only[unl,cond_true,cond_false,Z9];by_cases h3:(Td 16 (λd:Ac=>d.aG) (Apn Wj) [] m.aD).1=0
    ·simp only[h3,bne_self_eq_false,cond_false,Z9]
    ·simp only[Zs h3,cond_true,Aay h3]
  ·simp only[Zs h1,cond_true,Aay h1]
 ·simp only[Zs h0,cond_true,Aay h0]
def rtT(m:Ag)(i:Nat)(r:Al):Int:=Xv m (i:Int) (r.aJ++r.aL) r.aK
def Anm(m:Ag):Nat->List Ac->Int
 |_,[]=>0
 |i,d::k=>fE (Alo (rtT m i) d.aA) (Anm m (i+1) k)
theorem Ayy{m:Ag}(h:MG m)(i:Nat)(r:Al)(hr:H7 r)(hb:Dw r<=1048576)(L:Nat)(hL:Amq<=L):C0 L m (i:Int) (r.aJ++r.aL) r.aK=some (rtT m i r):=by
 have hM:=Bp;obtain⟨b1,b2,b3⟩:=Aa7 hb;exact W3 h.ok h.bk ⟨by rw[List.length_append];omega,λy hy=>by
  rcases List.mem_append.1 hy with h|h
  ·exact hr.2.1.2 y h
  ·exact hr.2.2.1.2 y h⟩ (i:Int) (show∀y∈r.aK,B3 y from hr.2.2.2.2) L (Aig hL b3)
theorem Aru{m:Ag}(h:MG m)(i:Nat)(L:Nat)(hL:Amq<=L):∀(k:List Al) (c:Nat) (v:Int),(∀r∈k,H7 r/\Dw r<=1048576)->
  ∃j,Jo L (i:Int) m k c v=some (if Alo (rtT m i) k=0 then(1,(v,j)) else(0,(Alo (rtT m i) k,j))):=by
 intro k
 induction k with
 |nil=>intro c v _;exact⟨c,rfl⟩
 |cons x k ih=>
  intro c v hk;obtain⟨hr,hb⟩:=hk x (by simp);obtain⟨j,hj⟩:=ih (c+1) v λr hr=>hk r (by simp[hr]);obtain⟨b1,b2,b3⟩:=Aa7 hb;have hM:=Bp;rw[Jo]
  repeat rw[Jh (by omega)]
  rw[Ayy h i x hr hb L hL,Ju,Alo];by_cases h0:rtT m i x=0
  ·exact⟨j,by rw[h0,Z9];exact hj⟩
  ·exact⟨c,by rw[Aay h0,Zs h0,cond_true,if_neg h0]⟩
theorem MG.routs{m:Ag}(h:MG m){d:Ac}(hd:d∈m.aD):∀r∈d.aA,H7 r/\Dw r<=1048576:=λr hr=>⟨(h.site d hd).routs r hr,(h.site d hd).bkR r hr⟩
theorem Art{m:Ag}(h:MG m)(L:Nat)(hL:Amq<=L):∀(k:List Ac) (i:Nat) (v:Int),m.aD.drop i=k->
  ∃j w,Jn L m k i v=some (if Anm m i k=0 then(1,(w,j)) else(0,(Anm m i k,j))):=by
 have hl:=Aek hL;intro k
 induction k with
 |nil=>intro i v _;exact⟨i,v,rfl⟩
 |cons x k ih=>
  intro i v hk;obtain⟨hi,hx,hk'⟩:=X3 hk;have hm:x∈m.aD:=by rw[<-hx,Hj _ i hi];exact List.getElem_mem hi
  obtain⟨c,hc⟩:=Aru h i L hL x.aA 0 v (h.routs hm);have hlen:=(h.site x hm).ln.2.2.2.2.2.2.2.2.2;rw[Jn,Am3 L (i:Int) m L (by rw[toN,hx];exact hlen) (by rw[toN,hx];exact Nat.lt_of_le_of_lt hlen hl),toN,hx,hc,Ju,Anm];by_cases h0:Alo (rtT m i) x.aA=0
  ·obtain⟨j,w,hj⟩:=ih (i+1) v hk';exact⟨j,w,by rw[if_pos h0,Ze,h0,Z9];exact hj⟩
  ·exact⟨i,v,by rw[if_neg h0,Sc,Aay h0,if_neg h0]⟩
theorem Atk{m:Ag}(h:MG m)(L:Nat)(hL:Amq<=L):Yg L m=some (fE (Avl Wj m) (Anm m 0 m.aD)):=by
 obtain⟨j,w,hj⟩:=Art h L hL m.aD 0 0 rfl;simp only[Aj7,T0,Ts,Yg,T0,Ts,aN,aB,Avs L m h hL,Ju,Am2 L m L h.sites (Nat.lt_of_le_of_lt h.sites (Aek hL)),hj];by_cases h0:Avl Wj m=0
 ·simp only[h0,bne_self_eq_false,cond_false,Z9];by_cases h1:Anm m 0 m.aD=0
  ·rw[if_pos h1,Ze,h1]
  ·rw[if_neg h1,Sc]
 ·simp only[Zs h0,cond_true,Aay h0]
end Go.Proofs.YtgacplpjamkieaaGreat.Ev
