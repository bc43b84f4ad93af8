/-  Chapter 11, plainly: what Check says of a model. -/
import Derived.Test.YthjhkpgonleelaaGreatDoorLPA
import Derived.Test.YthjhkpgonleelaaGreatDoorLQA
import Derived.Test.YthjhkpgonleelaaGreatDoorLRA
set_option maxRecDepth 100000
set_option linter.unusedVariables false
set_option linter.unusedSimpArgs false
set_option linter.unnecessarySimpa false
namespace Go.Proofs.YthjhkpgonleelaaGreatDoor.Ev
open Go An
def fE(a b:Int):Int:=if a=0 then b else a
def Rj(c:Bool)(e:Int):Int:=bif c then 0 else e
def T8(bf:List Yb)(n:Yb):Int:=fE (Jd n) (Rj (!bf.any λx=>decide (x=n)) 4)
def U5(t:Int):Bool:=Bn 1 3 t
def Aja(t n:Int):Bool:=if t=1 then inZ n else if t=2 then(n == 0 || n == 1)else if t=3 then Bn 0 1000000000 n else false
def Es{α :Type}(nm: α->Yb)(f: α->Int):List Yb->List α->Int×List Yb
 |bf,[]=>(0,bf)
 |bf,x::k=>if fE (T8 bf (nm x)) (f x)≠0 then(fE (T8 bf (nm x)) (f x),bf)else Es nm f (bf++ [nm x]) k
def K8{α :Type}(most:Nat)(nm: α->Yb)(f: α->Int)(bf:List Yb)(l:List α):Int×List Yb:=if most<l.length then(6,bf)else Es nm f bf l
def Qm{α :Type}(f: α->Int):List α->Int
 | []=>0
 |x::k=>fE (f x) (Qm f k)
def A3k(cy:Int):Option Int->List Er->Int
 |_,[]=>0
 |p,c::k=>if(Bn 0 (cy-1) c.At && Bn 0 1000 c.Units)=false then 2
  else if(match p with|some q=>decide (c.At<=q)|none=>false)=true then 12 else A3k cy (some c.At) k
def Auj(r:Aj):Int:=if r.aZ.length=0 then Rj (r.cZ == 0) 1 else if 20<r.aZ.length then 6 else if Bn 1 1000000000 r.cZ=false then 2 else A3k r.cZ none r.aZ
def Bie(s:Aa)(f:Np):Int:=if f.dH.size=0 then Rj (Aga f.Up T4 && Aga f.Down T4) 1 else if s.bB.any (λx=>decide (x=f.dH))=false then 5 else fE (Ao5 f.Up) (Ao5 f.Down)
def Bej(s:Aa)(r:Aj):Int:=fE (Rj (Bn 0 1000 r.Units) 2) (fE (Auj r) (Bie s r.bQ))
def Auo(x:Ar):Int:=fE (Rj (Bn 1 1000 x.Room) 2) (Rj (Bn 1 3 x.dM) 1)
def A3f(x:Bg):Int:=Rj (Bn 1 1000 x.Length && Bn 1 1000 x.Step) 2
def Wy(v:Aw):Int:=fE (Rj (U5 v.bM) 1) (Rj (Aja v.bM v.N) 2)
def Awm(r:Al):Int:=if 6<r.aI.length\/16<r.aI.length+r.bC.length then 6 else fE (Es (λf:A9=>f.aF) (λf=>Rj (U5 f.bM) 1) [] (r.aI++r.bC)).1 (Azb r.bD)
def Ay8(s:Aa)(d:Bv):Int:=match s.aD.find? λr=>decide (r.aF=d.dI) with
 |none=>5
 |some r=>if d.aM.length≠r.aI.length then 8 else if((r.aI.zip d.aM).all λp=>Aja p.1.bM p.2)=false then 2
  else Rj (Bn 0 1000000000 d.At && Bn 0 1000000000 d.Every && Bn 0 1000000000 d.Until && (d.Every != 0 || d.Until == 0)) 2
def Amz(w:Yb):Int:=
 if w=⟨#[99,114,101,97,116,101,100]⟩\/w=⟨#[101,110,100,101,100]⟩\/w=⟨#[105,110,115,105,100,101]⟩then 1
 else if w=⟨#[115,116,111,114,101,100]⟩\/w=⟨#[101,110,116,101,114,101,100]⟩\/w=⟨#[108,101,102,116]⟩then 2
 else if w=⟨#[99,111,117,110,116,101,100]⟩then 3 else 0
def Az6(t:Bd):Int:=Rj (Bn (-1000) 1000 t.cO && t.cO != 0) 2
def Rq(s:Aa)(t:Bd):Int:=
 if Amz t.aQ=0 then 1
 else if(if Amz t.aQ=1 then s.aD.any (λr=>decide (r.aF=t.aF))else if Amz t.aQ=2 then s.aL.any (λx=>decide (x.aF=t.aF))else s.bF.any (λx=>decide (x=t.aF)))=false then 5
 else Az6 t
def Aai(s:Aa)(t:Bd):Int:=
 if Amz t.aQ=0 then 1
 else if A0f s t.aF≠(if Amz t.aQ=1 then Ah0 else if Amz t.aQ=2 then Are else Ard)then 5
 else Az6 t
def A01(tm:Bd->Int)(l:Bh):Int:=fE (Rj (decide (0<l.bS.length)) 7) (fE (Rj (decide (l.bS.length<=8)) 6) (fE (Qm tm l.bS) (Rj (inZ l.Total) 2)))
def Nn(p:Int×List Yb)(f:List Yb->Int×List Yb):Int×List Yb:=if p.1≠0 then p else f p.2
def txE(bf:List Yb)(l:List Yb):Int×List Yb:=K8 32 (λx:Yb=>x) (λ_=>0) bf l
def Axb(s:Aa):Int×List Yb:=
 Nn (Nn (Nn (Nn (Nn (Nn (Nn (Nn (Nn (K8 32 (λx:Aw=>x.aF) Wy [] s.bX)
  λb=>K8 32 (λx:Aj=>x.aF) (Bej s) b s.aG) λb=>K8 32 (λx:Ar=>x.aF) Auo b s.aL)
  λb=>K8 32 (λx:Bg=>x.aF) A3f b s.bN) λb=>txE b s.bH) λb=>txE b s.bB) λb=>txE b s.bG)
  λb=>txE b s.bP) λb=>txE b s.bF) λb=>K8 16 (λx:Al=>x.aF) Awm b s.aD
def Awr(s:Aa):Int:=if 32<s.bV.length then 6 else Qm (Ay8 s) s.bV
def Apj(tm:Aa->Bd->Int)(s:Aa):Int:=fE (Axb s).1 (fE (Awr s) (K8 32 (λl:Bh=>l.aF) (A01 (tm s)) [] s.Laws).1)
def Bdc(m:Ai)(seen:List B9)(l:B9):Int:=
 if(m.aA.any (λd=>decide (d.aF=l.aV)) && m.aA.any (λd=>decide (d.aF=l.To)))=false then 5
 else if l.aV=l.To then 1 else if Bn 1 1000000000 l.bR=false then 2
 else Rj (!seen.any λx=>decide (x.aV=l.aV) && decide (x.To=l.To)) 4
def Afq(m:Ai):List B9->List B9->Int
 |_,[]=>0
 |seen,l::k=>fE (Bdc m seen l) (Afq m (seen++ [l]) k)
def A36(m:Ai):Int:=if 32<m.aH.length then 6 else Afq m [] m.aH
def At5(tm:Aa->Bd->Int)(m:Ai):Int:=
 fE (Jd m.aF) (fE (K8 32 (λx:Aw=>x.aF) Wy [] m.aI).1 (fE (Rj (decide (0<m.aA.length)) 7)
  (fE (K8 16 (λd:Aa=>d.aF) (Apj tm) [] m.aA).1 (A36 m))))
theorem Bzw{a b:Int} :fE a b=0↔a=0/\b=0:=by
 unfold fE;by_cases h:a=0
 ·rw[if_pos h];simp[h]
 ·rw[if_neg h];simp[h]
theorem Hx(b:Int):fE 0 b=b:=rfl
theorem Gu{a b:Int}(h:a≠0):fE a b=a:=if_neg h
theorem B70{c:Bool}{e:Int}(he:e≠0):Rj c e=0↔c=true:=by cases c<;>simp[Rj,he]
theorem B7b{bf:List Yb}{n:Yb}(h:T8 bf n=0):n∉bf:=by
 have h2:=(Bzw.1 h).2;rw[B70 (by decide)]at h2;intro hm;have:(bf.any λx=>decide (x=n))=true:=List.any_eq_true.2 ⟨n,hm,by simp⟩;rw[this]at h2;cases h2
def Exd(b:List Yb)(x:Int×List Yb)(l:List Yb):Prop:=x.1=0->x.2=b++l/\(b.Nodup->x.2.Nodup)
theorem Bcj{α :Type}(nm: α->Yb)(f: α->Int):∀(l:List α) (b:List Yb),Exd b (Es nm f b l) (l.map nm)
 | [],b=>λ_=>⟨by simp[Es],λh=>h⟩
 |x::k,b=>by
  intro h;rw[Es]at h ⊢;by_cases hz:fE (T8 b (nm x)) (f x)=0
  ·rw[if_neg (by simp[hz])]at h ⊢;obtain⟨h1,h2⟩:=Bcj nm f k (b++ [nm x]) h;have hn:=B7b (Bzw.1 hz).1;refine⟨by rw[h1];simp,λhb=>h2 ?_⟩;rw[List.nodup_append];refine⟨hb,by simp,?_⟩;intro a ha c hc hac;rw[List.mem_singleton]at hc;subst hc;subst hac
   exact hn ha
  ·rw[if_pos (by simpa using hz)]at h;exact absurd h hz
def tr{α :Type}(ks:List α):List Bool:=List.replicate ks.length true
theorem Awu{α :Type}(ks:List α)(n: α):tr ks++ [true]=tr (ks++ [n]):=by
 unfold tr;rw[List.length_append,List.length_singleton,List.replicate_succ']
def nx(ks:List Yb)(n:Yb):List Yb:=if T8 ks n=0 then ks++ [n]else ks
def Bzu(X:Option Int)(n:Yb)(ks:List Yb)(vs:List Bool):Option (Int×List Yb×List Bool):=
 X.bind λr=>bif r != 0 then some (r,ks,vs)else fko (ks.findIdx? λb=>n == b)
  (λi=>bif vs.getD i default then some (4,ks,vs)else fko (ks.findIdx? λb=>n == b) (λj=>some (0,ks,vs.set j true)) (some (0,ks++ [n],vs++ [true])))
  (fko (ks.findIdx? λb=>n == b) (λj=>some (0,ks,vs.set j true)) (some (0,ks++ [n],vs++ [true])))
theorem Bbj{α :Type}{ks:List α}{i:Nat}(h:i<ks.length):(tr ks).getD i default=true:=by
 unfold tr;rw[List.getD_eq_getElem?_getD,List.getElem?_replicate,if_pos h];rfl
theorem Alp{α :Type}{ks:List α}{p: α->Bool}(h:ks.findIdx? p=none):ks.any p=false:=by
 rw[List.findIdx?_eq_none_iff]at h;rw[List.any_eq_false];intro x hx;simp[h x hx]
theorem Ag2{α :Type}{ks:List α}{p: α->Bool}{i:Nat}(h:ks.findIdx? p=some i):ks.any p=true:=by
 obtain⟨h1,h2,_⟩:=List.findIdx?_eq_some_iff_getElem.1 h;exact List.any_eq_true.2 ⟨_,List.getElem_mem h1,h2⟩
theorem A1y(n b:Yb):(n == b)=decide (b=n):=by
 show(n.data == b.data)=_
 rw[Bool.eq_iff_iff,beq_iff_eq,decide_eq_true_iff];constructor
 ·intro h;cases n;cases b;cases h;rfl
 ·rintro rfl;rfl
theorem Br4{X:Option Int}{n:Yb}(ks:List Yb)(h:X=some (Jd n)):Bzu X n ks (tr ks)=some (T8 ks n,nx ks n,tr (nx ks n)):=by
 subst h;unfold Bzu nx T8;rw[Cr];by_cases h0:Jd n=0
 ·have e:(λb=>n == b)=λx:Yb=>decide (x=n):=funext λb=>A1y n b;rw[h0,e];cases hf:ks.findIdx? λx=>decide (x=n) with
  |none=>
   rw[Alp hf];simp only[fko,fE,Rj,Bool.not_false,cond_true,if_true,Awu ks n];rfl
  |some i=>
   rw[Ag2 hf];obtain⟨h1,_⟩:=List.findIdx?_eq_some_iff_getElem.1 hf;simp only[fko,Bbj h1];rfl
 ·rw[W8 h0,cond_true,Gu h0,if_neg h0]
def Out(X:Option (Int×List Yb×List Bool))(p:Int×List Yb):Prop:=∃ks,X=some (p.1,ks,tr ks)/\(p.1=0->ks=p.2)
theorem Bme{α :Type}{nm: α->Yb}{f: α->Int}{lq:List α->Nat->Int->List Yb->List Bool->Option (Nat×(Int×Int×List Yb×List Bool))}{bd: α->List Yb->List Bool->Option (Int×List Yb×List Bool)}
  (hn:∀i v ks vs,lq [] i v ks vs=some (1,(v,(i:Int),ks,vs)))
  (hc:∀x k i v ks vs,lq (x::k) i v ks vs=(bd x ks vs).bind λo=>bif o.1 != 0 then some (0,(o.1,(i:Int),o.2.1,o.2.2))else lq k (i+1) v o.2.1 o.2.2):
  ∀(k:List α) (i:Nat) (v:Int) (ks:List Yb),(∀x∈k,∀ks,∃ks',bd x ks (tr ks)=some (fE (T8 ks (nm x)) (f x),ks',tr ks')/\(fE (T8 ks (nm x)) (f x)=0->ks'=ks++ [nm x]))->
  ∃j ks',lq k i v ks (tr ks)=some (if(Es nm f ks k).1=0 then(1,(v,(j,ks',tr ks'))) else(0,((Es nm f ks k).1,(j,ks',tr ks'))))/\((Es nm f ks k).1=0->ks'=(Es nm f ks k).2):=by
 intro k
 induction k with
 |nil=>intro i v ks _;exact⟨i,ks,by rw[hn,Es];rfl,λ_=>rfl⟩
 |cons x k ih=>
  intro i v ks h;obtain⟨ks1,hb,hz⟩:=h x (by simp) ks;rw[hc,hb,Cr];by_cases h0:fE (T8 ks (nm x)) (f x)=0
  ·have:=hz h0;subst this
   have e:Es nm f ks (x::k)=Es nm f (ks++ [nm x]) k:=by rw[Es,if_neg (by simp[h0])]
   obtain⟨j,ks',hj,he⟩:=ih (i+1) v (ks++ [nm x]) λy hy=>h y (by simp[hy]);rw[e];exact⟨j,ks',by simp only[h0];exact hj,he⟩
  ·have e:Es nm f ks (x::k)=(fE (T8 ks (nm x)) (f x),ks):=by rw[Es,if_pos h0]
   rw[e];exact⟨i,ks1,by simp only[W8 h0,cond_true,if_neg h0],λhh=>absurd hh h0⟩
def Bwy(most:Int)(n:Nat)(ks:List Yb)(vs:List Bool)(X:Option (Nat×(Int×Int×List Yb×List Bool))):Option (Int×List Yb×List Bool):=
 bif decide ((n:Int)>most)then some (6,ks,vs)else X.bind λo=>Aov o.1 [some (o.2.1,o.2.2.2.1,o.2.2.2.2),some (0,o.2.2.2.1,o.2.2.2.2)]
theorem Zv{α :Type}{nm: α->Yb}{f: α->Int}{lq:List α->Nat->Int->List Yb->List Bool->Option (Nat×(Int×Int×List Yb×List Bool))}{bd: α->List Yb->List Bool->Option (Int×List Yb×List Bool)}
  (hn:∀i v ks vs,lq [] i v ks vs=some (1,(v,(i:Int),ks,vs)))
  (hc:∀x k i v ks vs,lq (x::k) i v ks vs=(bd x ks vs).bind λo=>bif o.1 != 0 then some (0,(o.1,(i:Int),o.2.1,o.2.2))else lq k (i+1) v o.2.1 o.2.2)
  (most:Nat)(l:List α)(v:Int)(ks:List Yb)(X:Option (Nat×(Int×Int×List Yb×List Bool)))(hX:X=lq l 0 v ks (tr ks))
  (hb:∀x∈l,∀ks,∃ks',bd x ks (tr ks)=some (fE (T8 ks (nm x)) (f x),ks',tr ks')/\(fE (T8 ks (nm x)) (f x)=0->ks'=ks++ [nm x])):
  Out (Bwy most l.length ks (tr ks) X) (K8 most nm f ks l):=by
 unfold Out Bwy K8;by_cases hm:most<l.length
 ·rw[decide_eq_true (show(l.length:Int)>most by omega),if_pos hm];exact⟨ks,rfl,λ_=>rfl⟩
 ·rw[decide_eq_false (show¬(l.length:Int)>most by omega),if_neg hm,cond_false,hX];obtain⟨j,ks',hj,he⟩:=Bme hn hc l 0 v ks hb;refine⟨ks',?_,he⟩;rw[hj,Cr];by_cases h0:(Es nm f ks l).1=0
  ·rw[if_pos h0,Sr,h0]
  ·rw[if_neg h0,Ip]
def Gl(e:Int)(X:Option (Int×List Yb×List Bool)):Prop:=∃a b,X=some (e,a,b)
theorem B7w{X:Option (Int×List Yb×List Bool)}{p:Int×List Yb}{e:Int}{G:Int×List Yb×List Bool->Option (Int×List Yb×List Bool)}(hX:Out X p)
  (hG:∀e a b,e≠0->G (e,a,b)=some (e,a,b))(h:∀ks,Gl e (G (0,ks,tr ks))):Gl (fE p.1 e) (X.bind G):=by
 obtain⟨ks,rfl,h0⟩:=hX;rw[Cr];by_cases hp:p.1=0
 ·rw[hp,Hx];exact h ks
 ·rw[hG _ _ _ hp,Gu hp];exact⟨_,_,rfl⟩
theorem Aws{X:Option (Int×List Yb×List Bool)}{p:Int×List Yb}{e:Int}{f:List Yb->Int×List Yb}{G:Int×List Yb×List Bool->Option (Int×List Yb×List Bool)}(hX:Out X p)
  (hG:∀e a b,e≠0->G (e,a,b)=some (e,a,b))(h:∀ks,Gl (fE (f ks).1 e) (G (0,ks,tr ks))):Gl (fE (Nn p f).1 e) (X.bind G):=by
 obtain⟨ks,rfl,h0⟩:=hX;rw[Cr];unfold Nn;by_cases hp:p.1=0
 ·rw[if_neg (by simp[hp]),<-h0 hp,hp];exact h ks
 ·rw[if_pos hp,hG _ _ _ hp,Gu hp];exact⟨_,_,rfl⟩
theorem nzE{e:Int}(h:e≠0)(a:List Yb)(b:List Bool)(Y:Option (Int×List Yb×List Bool)):(bif e != 0 then some (e,a,b)else Y)=some (e,a,b):=by rw[W8 h];rfl
theorem A5v(p:Int×List Yb)(f g:List Yb->Int×List Yb):Nn (Nn p f) g=Nn p λb=>Nn (f b) g:=by
 unfold Nn;by_cases hp:p.1=0
 ·simp[hp]
 ·simp[hp]
theorem Bb6{α :Type}{f: α->Int}{lq:List α->Nat->Int->Option (Nat×(Int×Int))}{bd: α->Option Int}
  (hn:∀i v,lq [] i v=some (1,(v,(i:Int))))
  (hc:∀x k i v,lq (x::k) i v=(bd x).bind λo=>bif o != 0 then some (0,(o,(i:Int)))else lq k (i+1) v):
  ∀(k:List α) (i:Nat) (v:Int),(∀x∈k,bd x=some (f x))->∃j,lq k i v=some (if Qm f k=0 then(1,(v,j)) else(0,(Qm f k,j))):=by
 intro k
 induction k with
 |nil=>intro i v _;exact⟨i,by rw[hn];rfl⟩
 |cons x k ih=>
  intro i v h;obtain⟨j,hj⟩:=ih (i+1) v λy hy=>h y (by simp[hy]);rw[hc,h x (by simp),Cr,Qm];by_cases h0:f x=0
  ·exact⟨j,by rw[h0,Hx];exact hj⟩
  ·exact⟨i,by rw[Gu h0,W8 h0,cond_true,if_neg h0]⟩
def B5b(most:Int)(n:Nat)(X:Option (Nat×(Int×Int))):Option Int:=bif decide ((n:Int)>most)then some 6 else X.bind λo=>Aov o.1 [some o.2.1,some 0]
theorem Bh2{α :Type}{f: α->Int}{lq:List α->Nat->Int->Option (Nat×(Int×Int))}{bd: α->Option Int}
  (hn:∀i v,lq [] i v=some (1,(v,(i:Int))))
  (hc:∀x k i v,lq (x::k) i v=(bd x).bind λo=>bif o != 0 then some (0,(o,(i:Int)))else lq k (i+1) v)
  (most:Nat)(l:List α)(v:Int)(X:Option (Nat×(Int×Int)))(hX:X=lq l 0 v)(hb:∀x∈l,bd x=some (f x)):B5b most l.length X=some (if most<l.length then 6 else Qm f l):=by
 unfold B5b;by_cases hm:most<l.length
 ·rw[decide_eq_true (show(l.length:Int)>most by omega),if_pos hm];rfl
 ·rw[decide_eq_false (show¬(l.length:Int)>most by omega),if_neg hm,cond_false,hX];obtain⟨j,hj⟩:=Bb6 hn hc l 0 v hb;rw[hj,Cr];by_cases h0:Qm f l=0
  ·rw[if_pos h0,Sr,h0]
  ·rw[if_neg h0,Ip]
theorem Hj(L:Nat)(x lo hi:Int):Be L x lo hi=some (Bn lo hi x):=by
 simp only[Ahl,Be,aN,aB,Ds,ge_iff_le,Bn]
theorem Ah7(L:Nat)(t:Int):Jf L t=some (U5 t):=by
 simp only[Akg,Jf,aN,aB,Ds,ge_iff_le,U5,Bn]
theorem Aku(L:Nat)(t n:Int):Rw L t n=some (Aja t n):=by
 simp only[An1,Rw,aN,aB,Ayv,Hj,Cr,H3,Aja];by_cases h1:t=1
 ·simp[h1]
 ·by_cases h2:t=2
  ·simp[h2]
  ·by_cases h3:t=3
   ·simp[h3]
   ·simp[h1,h2,h3,beq_false_of_ne h1,beq_false_of_ne h2,beq_false_of_ne h3]
theorem Wq(L:Nat)(l:List Yb)(s:Yb)(hl:l.length<=maxLen)(hL:maxLen<L):Bx L l s=some (l.any λx=>decide (x=s)):=by
 have e:(λx:Yb=>decide (s=x))=λx=>decide (x=s):=funext λx=>decide_eq_decide.2 ⟨Eq.symm,Eq.symm⟩;simp only[Ph,Bx,aN,aB,Aoo L l s hl (by omega),Cr,Avr,e]
def pvA(l:List Er)(i:Nat):Option Int:=if i=0 then none else some (l.getD (i-1) default).At
def geq(p:Option Int)(a:Int):Bool:=match p with
 |some q=>decide (a<=q)
 |none=>false
theorem A7n(cy:Int)(p:Option Int)(c:Er)(k:List Er):A3k cy p (c::k)=if(Bn 0 (cy-1) c.At && Bn 0 1000 c.Units)=false then 2 else if geq p c.At=true then 12 else A3k cy (some c.At) k:=rfl
theorem Bi1{β :Type}(l:List Er)(i:Nat)(hi:i<l.length)(hl:l.length<=maxLen)(a:Int)(A B:Option β):
  (bif decide ((i:Int)>0) then(if(0:Int)<=Bu ((i:Int)-1) then(if Bu ((i:Int)-1)<((l.length:Nat):Int) then(bif decide (a<=(l.getD (Int.toNat (Bu ((i:Int)-1))) default).At)then A else B)else none)else none)else B)=if geq (pvA l i) a=true then A else B:=by
 have hM:=Br;cases i with
 |zero=>rfl
 |succ i=>
  have e:Bu (((i+1:Nat):Int)-1)=(i:Int):=by rw[Boz (by omega)];omega
  rw[e,decide_eq_true (show((i+1:Nat):Int)>0 by omega),cond_true,if_pos (by omega),if_pos (by omega),toN];have e2:pvA l (i+1)=some (l.getD i default).At:=by unfold pvA;rw[if_neg (by omega),Nat.add_sub_cancel]
  rw[e2];show(bif decide (a<=(l.getD i default).At)then A else B)=if decide (a<=(l.getD i default).At)=true then A else B
  cases decide (a<=(l.getD i default).At)<;>rfl
theorem Bd5{l:List Er}{i:Nat}{x:Er}{k:List Er}(h:l.drop i=x::k):pvA l (i+1)=some x.At:=by
 obtain⟨_,h2,_⟩:=Lz h;unfold pvA;rw[if_neg (by omega),Nat.add_sub_cancel,h2]
theorem Auf(L:Nat)(r:Aj)(hl:r.aZ.length<=maxLen)(hc:Bu (r.cZ-1)=r.cZ-1):∀(k:List Er) (i:Nat) (v:Int),r.aZ.drop i=k->
  ∃j,Dq L r k i v=some (if A3k r.cZ (pvA r.aZ i) k=0 then(1,(v,j)) else(0,(A3k r.cZ (pvA r.aZ i) k,j))):=by
 intro k
 induction k with
 |nil=>intro i v _;exact⟨i,rfl⟩
 |cons x k ih=>
  intro i v h;obtain⟨hi,hx,hk⟩:=Lz h;obtain⟨j,hj⟩:=ih (i+1) v hk;rw[Bd5 h]at hj;rw[Dq];simp only[Hj,Cr,hc,Bi1 r.aZ i hi hl,hj,A7n];rcases Bool.eq_false_or_eq_true (Bn 0 (r.cZ-1) x.At)with hA|hA
  ·rcases Bool.eq_false_or_eq_true (Bn 0 1000 x.Units)with hB|hB
   ·rcases Bool.eq_false_or_eq_true (geq (pvA r.aZ i) x.At)with hC|hC
    ·exact⟨i,by simp[hA,hB,hC]⟩
    ·exact⟨j,by simp[hA,hB,hC]⟩
   ·exact⟨i,by simp[hA,hB]⟩
  ·exact⟨i,by simp[hA]⟩
theorem cyc{c:Int}(h:Bn 1 1000000000 c=true):Bu (c-1)=c-1:=by
 unfold Bn at h;rw[Bool.and_eq_true,decide_eq_true_iff,decide_eq_true_iff]at h;exact No (by omega) (by omega)
theorem A8k(r:Aj):Auj r=if r.aZ.length=0 then Rj (r.cZ == 0) 1 else if 20<r.aZ.length then 6 else if Bn 1 1000000000 r.cZ=false then 2 else A3k r.cZ none r.aZ:=rfl
theorem Bus{α :Type}(l:List α):((l.length:Int) == 0)=decide (l.length=0):=by
 by_cases h:l.length=0
 ·simp[h]
 ·rw[decide_eq_false h,beq_false_of_ne (by omega)]
theorem gtN(n m:Nat):decide ((n:Int)>(m:Int))=decide (m<n):=decide_eq_decide.2 (by omega)
theorem Awg(L:Nat)(r:Aj)(hl:r.aZ.length<=maxLen)(hL:maxLen<L):Va L r=some (Auj r):=by
 have e20:decide ((r.aZ.length:Int)>20)=decide (20<r.aZ.length):=gtN _ 20;simp only[Ali,Qg,Qf,Va,Qg,Qf,aN,aB,Hj,Cr,Bus,e20,A8k];by_cases h0:r.aZ.length=0
 ·rw[decide_eq_true h0,if_pos h0,cond_true];unfold Rj;by_cases hz:r.cZ=0
  ·simp[hz]
  ·simp[W8 hz,beq_false_of_ne hz]
 ·rw[decide_eq_false h0,if_neg h0,cond_false];by_cases h2:20<r.aZ.length
  ·rw[decide_eq_true h2,if_pos h2];rfl
  ·rw[decide_eq_false h2,if_neg h2,cond_false];cases hr:Bn 1 1000000000 r.cZ with
   |false=>rfl
   |true=>
    obtain⟨j,hj⟩:=Auf L r hl (cyc hr) r.aZ 0 0 rfl;rw[Arf L r L hl (by omega),hj];simp only[Bool.not_true,cond_false,Cr,Bool.true_eq_false,if_false];have e:pvA r.aZ 0=none:=rfl;rw[e];by_cases hz:A3k r.cZ none r.aZ=0
    ·rw[if_pos hz,Sr,hz]
    ·rw[if_neg hz,Ip]
theorem A4o{d:Bk}(h:Lq d<=1048576):okD d:=by
 unfold Lq at h;have h1:=Iq (g:=λ_:Int=>1) (l:=d.aW) λ_=>Nat.le_refl 1;have h2:=Iq (g:=λ_:Int=>1) (l:=d.aU) λ_=>Nat.le_refl 1;exact⟨by omega,by omega⟩
theorem Bcu(s:Aa)(f:Np):Bie s f=if f.dH.size=0 then Rj (Aga f.Up T4 && Aga f.Down T4) 1 else if s.bB.any (λx=>decide (x=f.dH))=false then 5 else fE (Ao5 f.Up) (Ao5 f.Down):=rfl
theorem Awf(L:Nat)(s:Aa)(f:Np)(hs:s.bB.length<=maxLen)(hb:N7 f<=1048576)(hL:maxLen<L):U9 L s f=some (Bie s f):=by
 unfold N7 at hb;have h1:okD f.Up:=A4o (by omega);have h2:okD f.Down:=A4o (by omega);simp only[Abm,U9,aN,aB,Ie,A2i,Agv L f.Up _ h1 hL,Agv L f.Down _ h2 hL,Adp L f.Up h1 hL,Adp L f.Down h2 hL,Wq L _ _ hs hL,Cr,Bcu];have hz:(⟨0,0,0,0,[],[]⟩:Bk)=T4:=rfl;rw[hz];by_cases h0:f.dH.size=0
 ·simp only[h0,decide_true,cond_true,if_true];cases Aga f.Up T4<;>cases Aga f.Down T4<;>rfl
 ·simp only[h0,decide_false,cond_false,if_false];cases s.bB.any (λx=>decide (x=f.dH)) with
  |false=>rfl
  |true=>
   simp only[Bool.not_true,cond_false,Bool.true_eq_false,if_false];by_cases hd:Ao5 f.Up=0
   ·simp[hd,Hx]
   ·simp[W8 hd,Gu hd]
theorem Bgr(L:Nat)(a b:List A9)(ha:a.length<=1048576)(hb:b.length<=1048576)(hL:maxLen<L):Il L [a,b]=some (a++b):=by
 have hM:=Br;have e1:∀n:Nat,n<=1048576->Bu (0+(n:Int))=(n:Int):=λn hn=>by rw[Int.zero_add];exact No (by omega) (by omega)
 have e2:Bu ((a.length:Int)+(b.length:Int))=((a.length+b.length:Nat):Int):=by rw[No (by omega) (by omega)];omega
 simp only[Wp,K2,Hl,Hk,Il,K2,Hl,Hk,aN,aB,Aer L [a,b] L (by simp;omega) (by simp;omega),Aes L [a,b] L (by simp;omega) (by simp;omega),Du,Dv,e1 _ ha,e2,Cr,Ip];rw[decide_eq_false (show¬(a.length:Int)<0 by omega),decide_eq_false (show¬((a.length+b.length:Nat):Int)<0 by omega)];simp only[cond_false,Cr,Ip,List.nil_append,List.length_nil]
 repeat rw[ifp (by omega)]
 rfl
theorem Akl(L:Nat)(n:Yb)(hs:okS n)(hL:maxLen<L)(ks:List Yb):Bzu (Cu L n) n ks (tr ks)=some (T8 ks n,nx ks n,tr (nx ks n)):=
 Br4 ks (M9 L n hs (Nat.lt_of_le_of_lt hs hL))
theorem A6b{ks:List Yb}{n:Yb}{e:Int}(h:fE (T8 ks n) e=0):nx ks n=ks++ [n]:=if_pos (Bzw.1 h).1
def rtB(L:Nat)(r:Al)(x:A9)(ks:List Yb)(vs:List Bool):Option (Int×List Yb×List Bool):=
 (Iw L x.aF r x ks vs).bind λo=>bif o.1 != 0 then some o else(Jf L x.bM).bind λr4=>bif !r4 then some (1,o.2.1,o.2.2)else some (0,o.2.1,o.2.2)
theorem Bvd(L:Nat)(fs:List A9)(r:Al)(x:A9)(k:List A9)(i:Nat)(v:Int)(ks:List Yb)(vs:List Bool):
  D5 L fs r (x::k) i v ks vs=(rtB L r x ks vs).bind λo=>bif o.1 != 0 then some (0,(o.1,(i:Int),o.2.1,o.2.2))else D5 L fs r k (i+1) v o.2.1 o.2.2:=by
 rw[D5,rtB];cases Iw L x.aF r x ks vs with
 |none=>rfl
 |some o=>
  simp only[Cr];by_cases h0:o.1=0
  ·simp only[h0,bne_self_eq_false,cond_false];cases Jf L x.bM with
   |none=>rfl
   |some b=>cases b<;>rfl
  ·simp only[W8 h0,cond_true,Cr]
theorem B2j(L:Nat)(r:Al)(x:A9)(hx:Zo x)(hL:maxLen<L)(ks:List Yb):
  ∃ks',rtB L r x ks (tr ks)=some (fE (T8 ks x.aF) (Rj (U5 x.bM) 1),ks',tr ks')/\(fE (T8 ks x.aF) (Rj (U5 x.bM) 1)=0->ks'=ks++ [x.aF]):=by
 refine⟨nx ks x.aF,?_,A6b⟩;have e:Iw L x.aF r x ks (tr ks)=some (T8 ks x.aF,nx ks x.aF,tr (nx ks x.aF)):=Akl L x.aF hx.1 hL ks;rw[rtB,e,Cr,Ah7,Cr];by_cases h0:T8 ks x.aF=0
 ·simp only[h0,Hx];cases U5 x.bM<;>rfl
 ·simp only[W8 h0,cond_true,Gu h0]
def Pp:Nat:=maxLen+4194304
theorem H2{L:Nat}(h:Pp<=L):maxLen<L:=Nat.lt_of_lt_of_le (Nat.lt_add_of_pos_right (by decide)) h
theorem Bii{L:Nat}{l:List Ad}(hL:Pp<=L)(hb:Dw l<=1048576):Fu L l:=by
 have h1:=Axa l;refine⟨Nat.lt_of_lt_of_le ?_ hL,hb⟩;unfold Pp;rw[Nat.add_assoc];exact Nat.add_lt_add_left (by omega) _
theorem Bem(r:Al):Awm r=if 6<r.aI.length\/16<r.aI.length+r.bC.length then 6 else fE (Es (λf:A9=>f.aF) (λf=>Rj (U5 f.bM) 1) [] (r.aI++r.bC)).1 (Azb r.bD):=rfl
theorem Ben{r:Al}(hb:Gg r<=1048576):r.aI.length<=1048576/\r.bC.length<=1048576/\Dw r.bD<=1048576:=by
 unfold Gg at hb;have h1:r.aI.length<=F7 N8 r.aI:=Iq λx=>by unfold N8;omega
 have h2:r.bC.length<=F7 N8 r.bC:=Iq λx=>by unfold N8;omega
 rw[Nq];exact⟨by omega,by omega,by omega⟩
theorem Ayt(L:Nat)(r:Al)(hr:Qi r)(hb:Gg r<=1048576)(hL:Pp<=L):Xa L r=some (Awm r):=by
 have hM:=Br;obtain⟨b1,b2,b3⟩:=Ben hb;have hL':maxLen<L:=H2 hL;have e1:decide ((r.aI.length:Int)>6)=decide (6<r.aI.length):=gtN _ 6;have e2:Bu ((r.aI.length:Int)+(r.bC.length:Int))=((r.aI.length+r.bC.length:Nat):Int):=by rw[No (by omega) (by omega)];omega
 have e3:decide (((r.aI.length+r.bC.length:Nat):Int)>16)=decide (16<r.aI.length+r.bC.length):=gtN _ 16;have c1:=Bgr L r.aI r.bC b1 b2 hL';have c2:=A6n (show∀y∈r.bD,Cx y from hr.2.2.2.2) L (Bii hL b3);simp only[Ao1,Sh,Sd,Xa,Sh,Sd,aN,aB,e1,e2,e3,H3,Bem];by_cases h0:6<r.aI.length\/16<r.aI.length+r.bC.length
 ·rw[if_pos h0];have:(decide (6<r.aI.length) || decide (16<r.aI.length+r.bC.length))=true:=by simpa using h0
  rw[this];rfl
 ·rw[if_neg h0];have:(decide (6<r.aI.length) || decide (16<r.aI.length+r.bC.length))=false:=by simpa using h0
  rw[this,cond_false,c1,Cr,Ash L _ r L (by simp;omega) (by simp;omega)];obtain⟨j,ks',hj,_⟩:=Bme (nm:=λf:A9=>f.aF) (f:=λf=>Rj (U5 f.bM) 1) (lq:=D5 L (r.aI++r.bC) r) (bd:=rtB L r) (λ_ _ _ _=>rfl) (Bvd L _ r) (r.aI++r.bC) 0 0 [] (λx hx ks=>B2j L r x (by
   rcases List.mem_append.1 hx with h|h
   ·exact hr.2.1.2 x h
   ·exact hr.2.2.1.2 x h) hL' ks)
  have hj':D5 L (r.aI++r.bC) r (r.aI++r.bC) 0 0 [] []=_:=hj;rw[hj',Cr];by_cases hz:(Es (λf:A9=>f.aF) (λf=>Rj (U5 f.bM) 1) [] (r.aI++r.bC)).1=0
  ·rw[if_pos hz,Sr,hz,Hx,c2];rfl
  ·rw[if_neg hz,Ip,Gu hz]
def Alk(p:List A9)(a:List Int):Bool:=(p.zip a).all λq=>Aja q.1.bM q.2
theorem A8o(s:Aa)(d:Bv):Ay8 s d=match s.aD.find? λr=>decide (r.aF=d.dI) with
 |none=>5
 |some r=>if d.aM.length≠r.aI.length then 8 else if Alk r.aI d.aM=false then 2
  else Rj (Bn 0 1000000000 d.At && Bn 0 1000000000 d.Every && Bn 0 1000000000 d.Until && (d.Every != 0 || d.Until == 0)) 2:=rfl
theorem A1s(L:Nat)(s:Aa)(n:Nat)(d:Bv)(p:List A9)(hp:(s.aD.getD n default).aI=p):∀(k:List Int) (i:Nat) (v:Int),i+k.length=p.length->
  ∃j,Hu L s (n:Int) d k i v=some (if Alk (p.drop i) k=true then(1,(v,j)) else(0,(2,j))):=by
 intro k
 induction k with
 |nil=>intro i v _;exact⟨i,by unfold Alk;simp[Hu]⟩
 |cons x k ih=>
  intro i v h;rw[List.length_cons]at h;have hi:i<p.length:=by omega
  obtain⟨j,hj⟩:=ih (i+1) v (by omega);rw[Hu];simp only[toN,hp,Ly hi,if_true,Aku,Cr,hj];have e:Alk (p.drop i) (x::k)=(Aja (p.getD i default).bM x && Alk (p.drop (i+1)) k):=by
   unfold Alk;rw[Aoa p i hi,List.zip_cons_cons,List.all_cons]
  rw[e];cases Aja (p.getD i default).bM x with
  |false=>exact⟨i,rfl⟩
  |true=>exact⟨j,by simp⟩
theorem A40(L:Nat)(s:Aa)(d:Bv)(hs:s.aD.length<=maxLen)(hd:d.aM.length<=maxLen)(hL:maxLen<L):Sz L s d=some (Ay8 s d):=by
 have hM:=Br;simp only[Ast,Wm,V6,Sz,Wm,V6,aN,aB,Amc L s d.dI hs (by omega),Cr,Ae1,Avs,A8o,Bcz];cases hf:s.aD.findIdx? (λx=>decide (x.aF=d.dI)) with
 |none=>rfl
 |some i=>
  have hi:=Bm9 hf;simp only[Option.isNone_some,cond_false,Zc,nn,if_true,Ly hi,toN,Option.map_some];by_cases hn:d.aM.length=(s.aD.getD i default).aI.length
  ·rw[if_neg (by simpa using hn)];have:((d.aM.length:Int) != ((s.aD.getD i default).aI.length:Int))=false:=by rw[hn];simp
   rw[this,cond_false,Av4 L s _ d L hd (by omega)];obtain⟨j,hj⟩:=A1s L s i d _ rfl d.aM 0 0 (by omega);rw[hj,Cr,List.drop_zero];cases Alk (s.aD.getD i default).aI d.aM with
   |false=>rfl
   |true=>
    simp only[if_true,Sr,Hj,Cr,Bool.true_eq_false,if_false];cases Bn 0 1000000000 d.At<;>cases Bn 0 1000000000 d.Every<;>cases Bn 0 1000000000 d.Until<;>try rfl
    by_cases h1:d.Every=0<;>by_cases h2:d.Until=0<;>simp[h1,h2,Rj,W8,beq_false_of_ne]
  ·rw[if_pos (by simpa using hn)];have:((d.aM.length:Int) != ((s.aD.getD i default).aI.length:Int))=true:=bne_iff_ne.2 (by omega);rw[this];rfl
theorem A5b(L:Nat)(l:List Ar)(s:Aa)(t:Bd):∀(k:List Ar) (i:Nat) (v:Int),K0 L l s t k i v=some (match k.findIdx? (λx=>x.aF.toList == t.aF.toList) with|some j=>(0,(((i+j:Nat):Int),((i+j:Nat):Int)))|none=>(1,(v,((i+k.length:Nat):Int)))):=by
 intro k
 induction k with
 |nil=>intro i v;rfl
 |cons x k ih=>
  intro i v;rw[K0,ih,List.findIdx?_cons];cases hc:x.aF.toList == t.aF.toList with
  |true=>simp only[cond_true,if_true];rfl
  |false=>
   simp only[cond_false,if_false,Bool.false_eq_true];cases k.findIdx? (λx=>x.aF.toList == t.aF.toList) with
   |some j=>simp[Nat.add_assoc,Nat.add_comm 1]
   |none=>simp[Nat.add_assoc,Nat.add_comm 1]
theorem Aud(L:Nat)(l:List Ar)(s:Aa)(t:Bd)(hl:l.length<=maxLen)(hL:maxLen<L):D9 L l s t=some (Zc (l.findIdx? λx=>decide (x.aF=t.aF))):=by
 simp only[D9,Apa,Afz,aN,aB,Ayf L l s t L hl (by omega),A5b,Ie,Cr];cases l.findIdx? (λx=>decide (x.aF=t.aF)) with
 |none=>rfl
 |some i=>simp[Zc,Ip]
theorem Boo(s:Aa)(t:Bd):Rq s t=if Amz t.aQ=0 then 1
 else if(if Amz t.aQ=1 then s.aD.any (λr=>decide (r.aF=t.aF))else if Amz t.aQ=2 then s.aL.any (λx=>decide (x.aF=t.aF))else s.bF.any (λx=>decide (x=t.aF)))=false then 5
 else Az6 t:=rfl
theorem Bzn(t:Bd)(b:Bool):(bif !b then some (5:Int)else bif !Bn (-1000) 1000 t.cO || t.cO == 0 then some 2 else some 0)=some (if b=false then 5 else Az6 t):=by
 cases b with
 |false=>rfl
 |true=>
  unfold Az6 Rj;simp only[Bool.not_true,cond_false,Bool.true_eq_false,if_false];by_cases h:t.cO=0<;>cases Bn (-1000) 1000 t.cO<;>simp[h,W8,beq_false_of_ne]
def wd1:Yb:=⟨#[99,114,101,97,116,101,100]⟩
theorem Bxt:(⟨#[99,114,101,97,116,101,100]⟩:Yb)=wd1:=rfl
def wd2:Yb:=⟨#[101,110,100,101,100]⟩
theorem Bxu:(⟨#[101,110,100,101,100]⟩:Yb)=wd2:=rfl
def wd3:Yb:=⟨#[105,110,115,105,100,101]⟩
theorem Bxv:(⟨#[105,110,115,105,100,101]⟩:Yb)=wd3:=rfl
def wd4:Yb:=⟨#[115,116,111,114,101,100]⟩
theorem Bxw:(⟨#[115,116,111,114,101,100]⟩:Yb)=wd4:=rfl
def wd5:Yb:=⟨#[101,110,116,101,114,101,100]⟩
theorem Bxx:(⟨#[101,110,116,101,114,101,100]⟩:Yb)=wd5:=rfl
def wd6:Yb:=⟨#[108,101,102,116]⟩
theorem Bxy:(⟨#[108,101,102,116]⟩:Yb)=wd6:=rfl
def wd7:Yb:=⟨#[99,111,117,110,116,101,100]⟩
theorem Bxz:(⟨#[99,111,117,110,116,101,100]⟩:Yb)=wd7:=rfl
theorem wdn:¬wd2=wd1/\¬wd3=wd1/\¬wd3=wd2/\¬wd4=wd1/\¬wd4=wd2/\¬wd4=wd3/\¬wd5=wd1/\¬wd5=wd2/\¬wd5=wd3/\¬wd5=wd4/\¬wd6=wd1/\¬wd6=wd2/\¬wd6=wd3/\¬wd6=wd4/\¬wd6=wd5/\¬wd7=wd1/\¬wd7=wd2/\¬wd7=wd3/\¬wd7=wd4/\¬wd7=wd5/\¬wd7=wd6:=by decide
theorem Be7(w:Yb):Amz w=if w=wd1\/w=wd2\/w=wd3 then 1 else if w=wd4\/w=wd5\/w=wd6 then 2 else if w=wd7 then 3 else 0:=rfl
theorem A6m(L:Nat)(s:Aa)(t:Bd)(h:Ah4 s maxLen)(hL:maxLen<L):Vb L s t=some (Rq s t):=by
 have hM:=Br;obtain⟨_,_,h2,_,_,_,_,_,h8,h9⟩:=h;have hR:decide (Ae1 s t.aF>=0)=s.aD.any (λx=>decide (x.aF=t.aF)):=Avr _ _;simp only[Au4,Yg,Xy,Xz,X0,X1,X2,X3,X4,V7,V8,Vb,Yg,Xy,Xz,X0,X1,X2,X3,X4,V7,V8,aN,aB,Ie,Amc L s t.aF h9 (by omega),Aud L _ s t h2 hL,Wq L _ t.aF h8 hL,Hj,Cr,hR,Avr,H3,Bzn,Boo,Be7];simp only[Bxt,Bxu,Bxv,Bxw,Bxx,Bxy,Bxz];by_cases c1:t.aQ=wd1
 ·simp[c1]
 by_cases c2:t.aQ=wd2
 ·simp[c1,c2,wdn]
 by_cases c3:t.aQ=wd3
 ·simp[c1,c2,c3,wdn]
 by_cases c4:t.aQ=wd4
 ·simp[c1,c2,c3,c4,wdn]
 by_cases c5:t.aQ=wd5
 ·simp[c1,c2,c3,c4,c5,wdn]
 by_cases c6:t.aQ=wd6
 ·simp[c1,c2,c3,c4,c5,c6,wdn]
 by_cases c7:t.aQ=wd7
 ·simp[c1,c2,c3,c4,c5,c6,c7,wdn]
 ·simp[c1,c2,c3,c4,c5,c6,c7]
structure SG (s:Aa):Prop where
 ok:B8 s
 bk:Dm s<=1048576
theorem SG.len{s:Aa}(h:SG s):Ah4 s 1099511627776:=(A35 s).mono (Nat.le_trans h.bk (by decide))
theorem SG.ln{s:Aa}(h:SG s):Ah4 s maxLen:=h.len.max
theorem SG.vars{s:Aa}(h:SG s):∀x∈s.bX,N6 x:=by have:=h.ok;unfold B8 at this;exact this.2.1.2
theorem SG.res{s:Aa}(h:SG s):∀x∈s.aG,Qc x:=by have:=h.ok;unfold B8 at this;exact this.2.2.1.2
theorem SG.stores{s:Aa}(h:SG s):∀x∈s.aL,Qj x:=by have:=h.ok;unfold B8 at this;exact this.2.2.2.1.2
theorem SG.belts{s:Aa}(h:SG s):∀x∈s.bN,Sl x:=by have:=h.ok;unfold B8 at this;exact this.2.2.2.2.1.2
theorem SG.queues{s:Aa}(h:SG s):∀x∈s.bH,okS x:=by have:=h.ok;unfold B8 at this;exact this.2.2.2.2.2.1.2
theorem SG.streams{s:Aa}(h:SG s):∀x∈s.bB,okS x:=by have:=h.ok;unfold B8 at this;exact this.2.2.2.2.2.2.1.2
theorem SG.tallies{s:Aa}(h:SG s):∀x∈s.bG,okS x:=by have:=h.ok;unfold B8 at this;exact this.2.2.2.2.2.2.2.1.2
theorem SG.levels{s:Aa}(h:SG s):∀x∈s.bP,okS x:=by have:=h.ok;unfold B8 at this;exact this.2.2.2.2.2.2.2.2.1.2
theorem SG.counts{s:Aa}(h:SG s):∀x∈s.bF,okS x:=by have:=h.ok;unfold B8 at this;exact this.2.2.2.2.2.2.2.2.2.1.2
theorem SG.routs{s:Aa}(h:SG s):∀x∈s.aD,Qi x:=by have:=h.ok;unfold B8 at this;exact this.2.2.2.2.2.2.2.2.2.2.1.2
theorem SG.starts{s:Aa}(h:SG s):s.bV.length<=maxLen/\∀x∈s.bV,Agk x:=by have:=h.ok;unfold B8 at this;exact this.2.2.2.2.2.2.2.2.2.2.2.1
theorem SG.laws{s:Aa}(h:SG s):s.Laws.length<=maxLen/\∀x∈s.Laws,Abi x:=by have:=h.ok;unfold B8 at this;exact this.2.2.2.2.2.2.2.2.2.2.2.2
theorem SG.bkR{s:Aa}(h:SG s):∀x∈s.aD,Gg x<=1048576:=by
 intro x hx;have h1:=W9 (g:=Gg) hx;have h2:=h.bk;unfold Dm at h2;omega
theorem SG.bkD{s:Aa}(h:SG s):∀x∈s.aG,N7 x.bQ<=1048576:=by
 intro x hx;have h1:=W9 (g:=Ey) hx;have h2:=h.bk;have h3:N7 x.bQ<=Ey x:=by unfold Ey;omega
 unfold Dm at h2;omega
theorem Biu(tm:Bd->Int)(l:Bh):A01 tm l=fE (Rj (decide (0<l.bS.length)) 7) (fE (Rj (decide (l.bS.length<=8)) 6) (fE (Qm tm l.bS) (Rj (inZ l.Total) 2))):=rfl
theorem B0k(L:Nat)(s:Aa)(l:Bh)(hl:Abi l)(hs:Ah4 s maxLen)(hL:maxLen<L)(ks:List Yb):
  ∃ks',Nr L l s ks (tr ks) l=some (fE (T8 ks l.aF) (A01 (Rq s) l),ks',tr ks')/\(fE (T8 ks l.aF) (A01 (Rq s) l)=0->ks'=ks++ [l.aF]):=by
 have hM:=Br;refine⟨nx ks l.aF,?_,A6b⟩;have e:Abx L l.aF s ks (tr ks) l l=some (T8 ks l.aF,nx ks l.aF,tr (nx ks l.aF)):=Akl L l.aF hl.1 hL ks;have e2:∀a b c d,Aby L l.bS s a b c d=some (if 8<l.bS.length then 6 else Qm (Rq s) l.bS):=λa b c d=>
  Bh2 (lq:=Nt L l.bS s a b c d) (bd:=Vb L s) (λ_ _=>rfl) (λ_ _ _ _=>rfl) 8 l.bS 0 _ (Ax7 L l.bS s a b c d L hl.2.1.1 (Nat.lt_of_le_of_lt hl.2.1.1 hL) 0) λx _=>A6m L s x hs hL
 simp only[Nr,Ao8,Amk,Acx,Acl,aN,aB,e,e2,Cr,Bus,Ayv,Biu];by_cases h0:T8 ks l.aF=0
 ·simp only[h0,bne_self_eq_false,cond_false,Hx];by_cases h1:l.bS.length=0
  ·rw[decide_eq_true h1,decide_eq_false (show¬0<l.bS.length by omega)];rfl
  ·rw[decide_eq_false h1,decide_eq_true (show 0<l.bS.length by omega),cond_false];by_cases h2:8<l.bS.length
   ·rw[if_pos h2,decide_eq_false (show¬l.bS.length<=8 by omega)];rfl
   ·rw[if_neg h2,decide_eq_true (show l.bS.length<=8 by omega)];simp only[Rj,cond_true,Hx];by_cases h3:Qm (Rq s) l.bS=0
    ·simp only[h3,bne_self_eq_false,cond_false,Hx];cases inZ l.Total<;>rfl
    ·simp only[W8 h3,cond_true,Gu h3]
 ·simp only[W8 h0,cond_true,Gu h0]
theorem Out.e{X:Option (Int×List Yb×List Bool)}{p:Int×List Yb}(h:Out X p):∃a b,X=some (p.1,a,b):=by
 obtain⟨ks,h,_⟩:=h;exact⟨_,_,h⟩
theorem A6k(L:Nat)(s:Aa)(h:SG s)(hL:maxLen<L):Agg L s=some (K8 32 (λl:Bh=>l.aF) (A01 (Rq s)) [] s.Laws).1:=by
 obtain⟨a,b,e⟩:=Out.e (Zv (nm:=λl:Bh=>l.aF) (f:=A01 (Rq s)) (lq:=Ns L s.Laws s) (bd:=λx ks vs=>Nr L x s ks vs x) (λ_ _ _ _=>rfl) (λ_ _ _ _ _ _=>rfl) 32 s.Laws 0 [] _
  (Ax6 L s.Laws s L h.laws.1 (Nat.lt_of_le_of_lt h.laws.1 hL) 0 [] []) λx hx ks=>B0k L s x (h.laws.2 x hx) h.ln hL ks)
 have e1:Aff L s.Laws s=some ((K8 32 (λl:Bh=>l.aF) (A01 (Rq s)) [] s.Laws).1,a,b):=e;simp only[Au2,Vy,Agg,Vy,aN,aB,e1,Cr]
theorem Asb(v:Aw):Wy v=fE (Rj (U5 v.bM) 1) (Rj (Aja v.bM v.N) 2):=rfl
theorem A8s(x:Ar):Auo x=fE (Rj (Bn 1 1000 x.Room) 2) (Rj (Bn 1 3 x.dM) 1):=rfl
theorem Bb9(x:Bg):A3f x=Rj (Bn 1 1000 x.Length && Bn 1 1000 x.Step) 2:=rfl
theorem Bi3(s:Aa)(r:Aj):Bej s r=fE (Rj (Bn 0 1000 r.Units) 2) (fE (Auj r) (Bie s r.bQ)):=rfl
theorem B4d(L:Nat)(s:Aa)(x:Aw)(hx:N6 x)(hL:maxLen<L)(ks:List Yb):
  ∃ks',L2 L x s ks (tr ks) x=some (fE (T8 ks x.aF) (Wy x),ks',tr ks')/\(fE (T8 ks x.aF) (Wy x)=0->ks'=ks++ [x.aF]):=by
 refine⟨nx ks x.aF,?_,A6b⟩;have e:Ab1 L x.aF s ks (tr ks) x x=some (T8 ks x.aF,nx ks x.aF,tr (nx ks x.aF)):=Akl L x.aF hx.1 hL ks;simp only[L2,Alw,Acn,aN,aB,e,Cr,Ah7,Aku,Asb];by_cases h0:T8 ks x.aF=0
 ·simp only[h0,bne_self_eq_false,cond_false,Hx];cases U5 x.bM<;>cases Aja x.bM x.N<;>rfl
 ·simp only[W8 h0,cond_true,Gu h0]
theorem B2f(L:Nat)(s:Aa)(hs:SG s)(x:Aj)(hm:x∈s.aG)(hL:maxLen<L)(ks:List Yb):
  ∃ks',L3 L x s ks (tr ks) x=some (fE (T8 ks x.aF) (Bej s x),ks',tr ks')/\(fE (T8 ks x.aF) (Bej s x)=0->ks'=ks++ [x.aF]):=by
 have hx:=hs.res x hm;refine⟨nx ks x.aF,?_,A6b⟩;have e:Ab3 L x.aF s ks (tr ks) x x=some (T8 ks x.aF,nx ks x.aF,tr (nx ks x.aF)):=Akl L x.aF hx.1 hL ks;simp only[L3,Aly,Aco,aN,aB,e,Cr,Hj,Awg L x hx.2.2.1.1 hL,Awf L s x.bQ hs.ln.2.2.2.2.2.1 (hs.bkD x hm) hL,Bi3];by_cases h0:T8 ks x.aF=0
 ·simp only[h0,bne_self_eq_false,cond_false,Hx];cases Bn 0 1000 x.Units with
  |false=>rfl
  |true=>
   simp only[Bool.not_true,cond_false,Rj,cond_true,Hx];by_cases h1:Auj x=0
   ·simp only[h1,bne_self_eq_false,cond_false,Hx]
   ·simp only[W8 h1,cond_true,Gu h1]
 ·simp only[W8 h0,cond_true,Gu h0]
theorem Bom(L:Nat)(s:Aa)(x:Ar)(hx:Qj x)(hL:maxLen<L)(ks:List Yb):
  ∃ks',L4 L x s ks (tr ks) x=some (fE (T8 ks x.aF) (Auo x),ks',tr ks')/\(fE (T8 ks x.aF) (Auo x)=0->ks'=ks++ [x.aF]):=by
 refine⟨nx ks x.aF,?_,A6b⟩;have e:Ab5 L x.aF s ks (tr ks) x x=some (T8 ks x.aF,nx ks x.aF,tr (nx ks x.aF)):=Akl L x.aF hx.1 hL ks;have e2:(decide (x.dM<1) || decide (x.dM>3))= !Bn 1 3 x.dM:=by
  unfold Bn;by_cases h1:x.dM<1
  ·rw[decide_eq_true h1,decide_eq_false (show¬1<=x.dM by omega)];rfl
  ·rw[decide_eq_false h1,decide_eq_true (show 1<=x.dM by omega)];by_cases h2:x.dM>3
   ·rw[decide_eq_true h2,decide_eq_false (show¬x.dM<=3 by omega)];rfl
   ·rw[decide_eq_false h2,decide_eq_true (show x.dM<=3 by omega)];rfl
 simp only[L4,Al0,Acp,aN,aB,e,Cr,Hj,H3,e2,A8s];by_cases h0:T8 ks x.aF=0
 ·simp only[h0,bne_self_eq_false,cond_false,Hx];cases Bn 1 1000 x.Room<;>cases Bn 1 3 x.dM<;>rfl
 ·simp only[W8 h0,cond_true,Gu h0]
theorem Bq1(L:Nat)(s:Aa)(x:Bg)(hx:Sl x)(hL:maxLen<L)(ks:List Yb):
  ∃ks',L5 L x s ks (tr ks) x=some (fE (T8 ks x.aF) (A3f x),ks',tr ks')/\(fE (T8 ks x.aF) (A3f x)=0->ks'=ks++ [x.aF]):=by
 refine⟨nx ks x.aF,?_,A6b⟩;have e:Ab7 L x.aF s ks (tr ks) x x=some (T8 ks x.aF,nx ks x.aF,tr (nx ks x.aF)):=Akl L x.aF hx.1 hL ks;simp only[L5,Al2,Acr,aN,aB,e,Cr,Hj,Bb9];by_cases h0:T8 ks x.aF=0
 ·simp only[h0,bne_self_eq_false,cond_false,Hx];cases Bn 1 1000 x.Length<;>cases Bn 1 1000 x.Step<;>rfl
 ·simp only[W8 h0,cond_true,Gu h0]
theorem Bvb(L:Nat)(s:Aa)(hs:SG s)(x:Al)(hm:x∈s.aD)(hL:Pp<=L)(ks:List Yb):
  ∃ks',L7 L x s ks (tr ks) x=some (fE (T8 ks x.aF) (Awm x),ks',tr ks')/\(fE (T8 ks x.aF) (Awm x)=0->ks'=ks++ [x.aF]):=by
 have hx:=hs.routs x hm;refine⟨nx ks x.aF,?_,A6b⟩;have e:Ab9 L x.aF s ks (tr ks) x x=some (T8 ks x.aF,nx ks x.aF,tr (nx ks x.aF)):=Akl L x.aF hx.1 (H2 hL) ks;simp only[L7,Al5,Aaf,aN,aB,e,Cr,Ayt L x hx (hs.bkR x hm) hL];by_cases h0:T8 ks x.aF=0
 ·simp only[h0,bne_self_eq_false,cond_false,Hx]
 ·simp only[W8 h0,cond_true,Gu h0]
theorem Bwq(L:Nat)(s:Aa)(x:Yb)(hx:okS x)(hL:maxLen<L)(ks:List Yb):
  ∃ks',L6 L x s ks (tr ks)=some (fE (T8 ks x) 0,ks',tr ks')/\(fE (T8 ks x) 0=0->ks'=ks++ [x]):=by
 refine⟨nx ks x,?_,A6b⟩;have e:L6 L x s ks (tr ks)=some (T8 ks x,nx ks x,tr (nx ks x)):=Akl L x hx hL ks;rw[e];by_cases h0:T8 ks x=0
 ·rw[h0,Hx]
 ·rw[Gu h0]
theorem Aty{α :Type}{l:List α}{L:Nat}(h:l.length<=maxLen)(hL:maxLen<L):l.length<L+24:=Nat.lt_of_lt_of_le (Nat.lt_of_le_of_lt h hL) (Nat.le_add_right L 24)
theorem Bow(L:Nat)(s:Aa)(h:SG s)(hL:maxLen<L):Out (Ab0 L s.bX s) (K8 32 (λx:Aw=>x.aF) Wy [] s.bX):=
 Zv (lq:=Nu L s.bX s) (bd:=λx ks vs=>L2 L x s ks vs x) (λ_ _ _ _=>rfl) (λ_ _ _ _ _ _=>rfl) 32 s.bX 0 [] _
  (Ax8 L s.bX s (L+24) h.ln.1 (Aty h.ln.1 hL) 0 [] []) λx hx ks=>B4d L s x (h.vars x hx) hL ks
theorem Bu8(L:Nat)(s:Aa)(h:SG s)(hL:maxLen<L)(ks:List Yb):Out (Ab2 L s.aG s ks (tr ks)) (K8 32 (λx:Aj=>x.aF) (Bej s) ks s.aG):=
 Zv (lq:=Nv L s.aG s) (bd:=λx ks vs=>L3 L x s ks vs x) (λ_ _ _ _=>rfl) (λ_ _ _ _ _ _=>rfl) 32 s.aG 0 ks _
  (Ax9 L s.aG s (L+24) h.ln.2.1 (Aty h.ln.2.1 hL) 0 ks _) λx hx ks=>B2f L s h x hx hL ks
theorem Bhd(L:Nat)(s:Aa)(h:SG s)(hL:maxLen<L)(ks:List Yb):Out (Ab4 L s.aL s ks (tr ks)) (K8 32 (λx:Ar=>x.aF) Auo ks s.aL):=
 Zv (lq:=Nw L s.aL s) (bd:=λx ks vs=>L4 L x s ks vs x) (λ_ _ _ _=>rfl) (λ_ _ _ _ _ _=>rfl) 32 s.aL 0 ks _
  (Aya L s.aL s (L+24) h.ln.2.2.1 (Aty h.ln.2.2.1 hL) 0 ks _) λx hx ks=>Bom L s x (h.stores x hx) hL ks
theorem Bjr(L:Nat)(s:Aa)(h:SG s)(hL:maxLen<L)(ks:List Yb):Out (Ab6 L s.bN s ks (tr ks)) (K8 32 (λx:Bg=>x.aF) A3f ks s.bN):=
 Zv (lq:=Nx L s.bN s) (bd:=λx ks vs=>L5 L x s ks vs x) (λ_ _ _ _=>rfl) (λ_ _ _ _ _ _=>rfl) 32 s.bN 0 ks _
  (Ayb L s.bN s (L+24) h.ln.2.2.2.1 (Aty h.ln.2.2.2.1 hL) 0 ks _) λx hx ks=>Bq1 L s x (h.belts x hx) hL ks
theorem Amx(L:Nat)(s:Aa)(l:List Yb)(h1:l.length<=maxLen)(h2:∀x∈l,okS x)(hL:maxLen<L)(ks:List Yb):Out (Ix L l s ks (tr ks)) (txE ks l):=
 Zv (lq:=Ny L l s) (bd:=λx ks vs=>L6 L x s ks vs) (λ_ _ _ _=>rfl) (λ_ _ _ _ _ _=>rfl) 32 l 0 ks _
  (Ayc L l s (L+24) h1 (Aty h1 hL) 0 ks _) λx hx ks=>Bwq L s x (h2 x hx) hL ks
theorem Bku(L:Nat)(s:Aa)(h:SG s)(hL:Pp<=L)(ks:List Yb):Out (Ab8 L s.aD s ks (tr ks)) (K8 16 (λx:Al=>x.aF) Awm ks s.aD):=
 Zv (lq:=Nz L s.aD s) (bd:=λx ks vs=>L7 L x s ks vs x) (λ_ _ _ _=>rfl) (λ_ _ _ _ _ _=>rfl) 16 s.aD 0 ks _
  (Ayd L s.aD s (L+24) h.ln.2.2.2.2.2.2.2.2.2 (Aty h.ln.2.2.2.2.2.2.2.2.2 (H2 hL)) 0 ks _) λx hx ks=>Bvb L s h x hx hL ks
theorem A1p(L:Nat)(s:Aa)(h:SG s)(hL:maxLen<L)(a:List Yb)(b:List Bool):Aca L s.bV s a b=some (Awr s):=
 Bh2 (lq:=N0 L s.bV s a b) (bd:=Sz L s) (λ_ _=>rfl) (λ_ _ _ _=>rfl) 32 s.bV 0 _ (Aye L s.bV s a b (L+24) h.starts.1 (Aty h.starts.1 hL) 0) λx hx=>
  A40 L s x h.ln.2.2.2.2.2.2.2.2.2 ((h.starts.2 x hx).2.1.1) hL
theorem Ber(tm:Aa->Bd->Int)(s:Aa):Apj tm s=fE (Axb s).1 (fE (Awr s) (K8 32 (λl:Bh=>l.aF) (A01 (tm s)) [] s.Laws).1):=rfl
theorem Auc(L:Nat)(s:Aa)(h:SG s)(hL:Pp<=L):Gl (Apj Rq s) (Xe L s):=by
 have hl:=H2 hL;have g:∀a b:Int,a<b->((a<b)=True):=λa b h=>eq_true h;have e0:∀n:Int,0<=n->((0<=n)=True):=λn h=>eq_true h;simp only[Xe,Ao9,Acz,Amo,Ac0,Amq,Ac1,Acq,Ac2,Amt,Ac3,Amv,Ac4,Acs,Aa4,Ajt,Aa5,Aju,Aa6,Aae,Aa7,Ajw,Aa8,Aag,aN,aB]
 repeat rw[ifp (by decide)]
 rw[Ber,Axb];simp only[A5v];refine Aws (Bow L s h hl) (λ_ _ _ h=>nzE h _ _ _) λks=>?_;simp only[bne_self_eq_false,cond_false]
 repeat rw[ifp (by decide)]
 refine Aws (Bu8 L s h hl ks) (λ_ _ _ h=>nzE h _ _ _) λks=>?_;simp only[bne_self_eq_false,cond_false]
 repeat rw[ifp (by decide)]
 refine Aws (Bhd L s h hl ks) (λ_ _ _ h=>nzE h _ _ _) λks=>?_;simp only[bne_self_eq_false,cond_false]
 repeat rw[ifp (by decide)]
 refine Aws (Bjr L s h hl ks) (λ_ _ _ h=>nzE h _ _ _) λks=>?_;simp only[bne_self_eq_false,cond_false]
 repeat rw[ifp (by decide)]
 refine Aws (Amx L s s.bH h.ln.2.2.2.2.1 h.queues hl ks) (λ_ _ _ h=>nzE h _ _ _) λks=>?_;simp only[bne_self_eq_false,cond_false]
 repeat rw[ifp (by decide)]
 refine Aws (Amx L s s.bB h.ln.2.2.2.2.2.1 h.streams hl ks) (λ_ _ _ h=>nzE h _ _ _) λks=>?_;simp only[bne_self_eq_false,cond_false]
 repeat rw[ifp (by decide)]
 refine Aws (Amx L s s.bG h.ln.2.2.2.2.2.2.1 h.tallies hl ks) (λ_ _ _ h=>nzE h _ _ _) λks=>?_;simp only[bne_self_eq_false,cond_false]
 repeat rw[ifp (by decide)]
 refine Aws (Amx L s s.bP h.ln.2.2.2.2.2.2.2.1 h.levels hl ks) (λ_ _ _ h=>nzE h _ _ _) λks=>?_;simp only[bne_self_eq_false,cond_false]
 repeat rw[ifp (by decide)]
 refine Aws (Amx L s s.bF h.ln.2.2.2.2.2.2.2.2.1 h.counts hl ks) (λ_ _ _ h=>nzE h _ _ _) λks=>?_;simp only[bne_self_eq_false,cond_false]
 repeat rw[ifp (by decide)]
 refine B7w (Bku L s h hL ks) (λ_ _ _ h=>nzE h _ _ _) λks=>?_;simp only[bne_self_eq_false,cond_false]
 repeat rw[ifp (by decide)]
 rw[A1p L s h hl,Cr];by_cases h1:Awr s=0
 ·simp only[h1,bne_self_eq_false,cond_false,Hx]
  repeat rw[ifp (by decide)]
  rw[A6k L s h hl,Cr];by_cases h2:(K8 32 (λl:Bh=>l.aF) (A01 (Rq s)) [] s.Laws).1=0
  ·simp only[h2,bne_self_eq_false,cond_false];exact⟨_,_,rfl⟩
  ·simp only[W8 h2,cond_true];exact⟨_,_,rfl⟩
 ·simp only[W8 h1,cond_true,Gu h1];exact⟨_,_,rfl⟩
theorem A6l(L:Nat)(s:Aa)(h:SG s)(hL:Pp<=L):Agh L s=some (Apj Rq s):=by
 obtain⟨a,b,e⟩:=Auc L s h hL;simp only[Au3,Tw,Agh,Tw,aN,aB,e,Cr]
def A7c(l:List B9):List Bo:=l.map λx=>(⟨x.aV,x.To⟩:Bo)
def Bk0(seen:List B9)(x:B9):Bool:=seen.any λy=>decide (y.aV=x.aV) && decide (y.To=x.To)
theorem Bdd(m:Ai)(seen:List B9)(l:B9):Bdc m seen l=if(m.aA.any (λd=>decide (d.aF=l.aV)) && m.aA.any (λd=>decide (d.aF=l.To)))=false then 5
 else if l.aV=l.To then 1 else if Bn 1 1000000000 l.bR=false then 2 else Rj (!Bk0 seen l) 4:=rfl
theorem Bws(seen:List B9)(x:B9):((A7c seen).any λb=>x.aV == b.a0 && x.To == b.a1)=Bk0 seen x:=by
 unfold A7c Bk0;rw[List.any_map]
 congr 1
 funext y
 show(x.aV == y.aV && x.To == y.To)=_
 rw[A1y,A1y]
theorem Bes(m:Ai)(n:Yb):decide (A8m m n<0)= !m.aA.any λd=>decide (d.aF=n):=by
 unfold A8m;rw[Avs];cases h:m.aA.findIdx? λd=>decide (d.aF=n) with
 |none=>rw[Alp h];rfl
 |some i=>rw[Ag2 h];rfl
theorem But(L:Nat)(m:Ai)(x:B9)(hm:m.aA.length<=maxLen)(hL:maxLen<L)(seen:List B9):
  ∃ks',Qq L x m (A7c seen) (tr (A7c seen)) x=some (Bdc m seen x,ks',tr ks')/\(Bdc m seen x=0->ks'=A7c (seen++ [x])):=by
 simp only[Qq,Abs,aN,aB,A6j L m _ hm hL,Hj,Cr,Bes,Ie,F6,H3,Bdd];rw[<-Bws];cases m.aA.any (λd=>decide (d.aF=x.aV)) with
 |false=>exact⟨_,rfl,λh=>absurd (show(5:Int)=0 from h) (by decide)⟩
 |true=>
  cases m.aA.any (λd=>decide (d.aF=x.To)) with
  |false=>exact⟨_,rfl,λh=>absurd (show(5:Int)=0 from h) (by decide)⟩
  |true=>
   simp only[Bool.not_true,Bool.or_self,cond_false,Bool.and_self,Bool.true_eq_false,if_false];by_cases h1:x.aV=x.To
   ·rw[decide_eq_true h1,if_pos h1];exact⟨_,rfl,λh=>absurd (show(1:Int)=0 from h) (by decide)⟩
   ·rw[decide_eq_false h1,if_neg h1,cond_false];cases Bn 1 1000000000 x.bR with
    |false=>exact⟨_,rfl,λh=>absurd (show(2:Int)=0 from h) (by decide)⟩
    |true=>
     simp only[Bool.not_true,cond_false,Bool.true_eq_false,if_false];cases hf:(A7c seen).findIdx? λb=>x.aV == b.a0 && x.To == b.a1 with
     |some i=>
      rw[Ag2 hf];obtain⟨h3,_⟩:=List.findIdx?_eq_some_iff_getElem.1 hf;simp only[fko,Bbj h3];exact⟨_,rfl,λh=>absurd (show(4:Int)=0 from h) (by decide)⟩
     |none=>
      rw[Alp hf];simp only[fko];rw[Awu (A7c seen) (⟨x.aV,x.To⟩:Bo)];exact⟨_,rfl,λ_=>by unfold A7c;rw[List.map_append];rfl⟩
theorem A1r(L:Nat)(l:List B9)(m:Ai)(hm:m.aA.length<=maxLen)(hL:maxLen<L):∀(k:List B9) (i:Nat) (v:Int) (seen:List B9),
  ∃j a b,Ht L l m k i v (A7c seen) (tr (A7c seen))=some (if Afq m seen k=0 then(1,(v,(j,a,b))) else(0,(Afq m seen k,(j,a,b)))):=by
 intro k
 induction k with
 |nil=>intro i v seen;exact⟨i,_,_,rfl⟩
 |cons x k ih=>
  intro i v seen;obtain⟨ks',he,hk⟩:=But L m x hm hL seen;rw[Ht,he,Cr,Afq];by_cases h0:Bdc m seen x=0
  ·have:=hk h0;subst this
   obtain⟨j,a,b,hj⟩:=ih (i+1) v (seen++ [x]);rw[h0,Hx];exact⟨j,a,b,hj⟩
  ·rw[Gu h0];exact⟨i,ks',tr ks',by simp only[W8 h0,cond_true,if_neg h0]⟩
theorem A4z(L:Nat)(m:Ai)(hm:m.aA.length<=maxLen)(hl:m.aH.length<=maxLen)(hL:maxLen<L):Ada L m=some (A36 m):=by
 have e32:decide ((m.aH.length:Int)>32)=decide (32<m.aH.length):=gtN _ 32;obtain⟨j,a,b,hj⟩:=A1r L m.aH m hm hL m.aH 0 0 [];have hj':Ht L m.aH m m.aH 0 0 [] []=_:=hj;simp only[Ass,V0,Ada,V0,Abz,Alv,Acy,Acm,aN,aB,e32,Av3 L m.aH m L hl (Nat.lt_of_le_of_lt hl hL),hj',Cr,A36];by_cases h:32<m.aH.length
 ·rw[decide_eq_true h,if_pos h];rfl
 ·rw[decide_eq_false h,if_neg h,cond_false];by_cases h0:Afq m [] m.aH=0
  ·rw[if_pos h0,Sr,h0];rfl
  ·rw[if_neg h0,Ip];rfl
structure MG (m:Ai):Prop where
 ok:Aux m
 bk:An7 m<=1048576
theorem MG.sites{m:Ai}(h:MG m):m.aA.length<=maxLen:=h.ok.2.2.1.1
theorem MG.site{m:Ai}(h:MG m):∀d∈m.aA,SG d:=λd hd=>⟨h.ok.2.2.1.2 d hd,by have h1:=W9 (g:=Dm) hd;have h2:=h.bk;unfold An7 at h2;omega⟩
theorem MG.links{m:Ai}(h:MG m):m.aH.length<=maxLen:=h.ok.2.2.2.1
theorem B2c(L:Nat)(m:Ai)(x:Aw)(hx:N6 x)(hL:maxLen<L)(ks:List Yb):
  ∃ks',L1 L x m ks (tr ks) x=some (fE (T8 ks x.aF) (Wy x),ks',tr ks')/\(fE (T8 ks x.aF) (Wy x)=0->ks'=ks++ [x.aF]):=by
 refine⟨nx ks x.aF,?_,A6b⟩;have e:Abv L x.aF m ks (tr ks) x x=some (T8 ks x.aF,nx ks x.aF,tr (nx ks x.aF)):=Akl L x.aF hx.1 hL ks;simp only[L1,Als,Acj,aN,aB,e,Cr,Ah7,Aku,Asb];by_cases h0:T8 ks x.aF=0
 ·simp only[h0,bne_self_eq_false,cond_false,Hx];cases U5 x.bM<;>cases Aja x.bM x.N<;>rfl
 ·simp only[W8 h0,cond_true,Gu h0]
theorem Bwj(L:Nat)(m:Ai)(a:List Yb)(b:List Bool)(x:Aa)(hx:SG x)(hL:Pp<=L)(ks:List Yb):
  ∃ks',J5 L x m a b ks (tr ks) x=some (fE (T8 ks x.aF) (Apj Rq x),ks',tr ks')/\(fE (T8 ks x.aF) (Apj Rq x)=0->ks'=ks++ [x.aF]):=by
 have hn:okS x.aF:=by have:=hx.ok;unfold B8 at this;exact this.1
 refine⟨nx ks x.aF,?_,A6b⟩;have e:Zy L x.aF m a b ks (tr ks) x x=some (T8 ks x.aF,nx ks x.aF,tr (nx ks x.aF)):=Akl L x.aF hn (H2 hL) ks;simp only[J5,Ajb,Aad,aN,aB,e,Cr,A6l L x hx hL];by_cases h0:T8 ks x.aF=0
 ·simp only[h0,bne_self_eq_false,cond_false,Hx]
 ·simp only[W8 h0,cond_true,Gu h0]
theorem A4y(L:Nat)(m:Ai)(h:MG m)(hL:Pp<=L):Sy L m=some (At5 Rq m):=by
 have hl:=H2 hL;have hp:=h.ok.2.1;obtain⟨a,b,e1⟩:=Out.e (Zv (nm:=λx:Aw=>x.aF) (f:=Wy) (lq:=L8 L m.aI m) (bd:=λx ks vs=>L1 L x m ks vs x) (λ_ _ _ _=>rfl) (λ_ _ _ _ _ _=>rfl) 32 m.aI 0 [] _
  (Av1 L m.aI m L hp.1 (Nat.lt_of_le_of_lt hp.1 hl) 0 [] []) λx hx ks=>B2c L m x (hp.2 x hx) hl ks)
 have e1':Abu L m.aI m=some ((K8 32 (λx:Aw=>x.aF) Wy [] m.aI).1,a,b):=e1;obtain⟨c,d,e2⟩:=Out.e (Zv (nm:=λx:Aa=>x.aF) (f:=Apj Rq) (lq:=L9 L m.aA m a b) (bd:=λx ks vs=>J5 L x m a b ks vs x) (λ_ _ _ _=>rfl) (λ_ _ _ _ _ _=>rfl) 16 m.aA 0 [] _
  (Av2 L m.aA m a b L h.sites (Nat.lt_of_le_of_lt h.sites hl) 0 [] []) λx hx ks=>Bwj L m a b x (h.site x hx) hL ks)
 have e2':Abw L m.aA m a b=some ((K8 16 (λx:Aa=>x.aF) (Apj Rq) [] m.aA).1,c,d):=e2;simp only[Asr,We,Ack,T2,Tu,Sy,We,Ack,T2,Tu,aN,aB,M9 L m.aF h.ok.1 (Nat.lt_of_le_of_lt h.ok.1 hl),e1',e2',A4z L m h.sites h.links hl,Bus,Cr];unfold At5;by_cases h0:Jd m.aF=0
 ·simp only[h0,bne_self_eq_false,cond_false,Hx];by_cases h1:(K8 32 (λx:Aw=>x.aF) Wy [] m.aI).1=0
  ·simp only[h1,bne_self_eq_false,cond_false,Hx];by_cases h2:m.aA.length=0
   ·rw[decide_eq_true h2,decide_eq_false (show¬0<m.aA.length by omega)];rfl
   ·rw[decide_eq_false h2,decide_eq_true (show 0<m.aA.length by omega)];simp only[Rj,cond_true,cond_false,Hx];by_cases h3:(K8 16 (λd:Aa=>d.aF) (Apj Rq) [] m.aA).1=0
    ·simp only[h3,bne_self_eq_false,cond_false,Hx]
    ·simp only[W8 h3,cond_true,Gu h3]
  ·simp only[W8 h1,cond_true,Gu h1]
 ·simp only[W8 h0,cond_true,Gu h0]
theorem Aq9(a b c:Int):fE (fE a b) c=fE a (fE b c):=by
 by_cases h:a=0
 ·subst h;rfl
 ·rw[Gu h,Gu h,Gu h]
theorem Ca8(a:Int):fE a 0=a:=by
 by_cases h:a=0
 ·subst h;rfl
 ·rw[Gu h]
theorem Gv(L:Nat)(a b:Int):Cw L a b=some (fE a b):=by
 simp only[Aqh,Cw,aN,aB];by_cases h:a=0
 ·simp[h,Hx]
 ·simp[W8 h,Gu h]
theorem Gp(L:Nat)(c:Bool)(e:Int):Cj L c e=some (Rj c e):=by
 simp only[Ans,Cj,aN,aB,Rj];cases c<;>rfl
theorem Jh(L:Nat)(x lo hi:Int):Dh L x lo hi=some (Bn lo hi x):=by
 simp only[Ant,Dh,aN,aB,Ds,ge_iff_le,Bn]
theorem Aom(L:Nat)(t:Int):Um L t=some (U5 t):=by
 simp only[Aqg,Um,aN,aB,H3,U5,Bn]
 congr 1
 by_cases h1:t=1
 ·subst h1;rfl
 ·by_cases h2:t=2
  ·subst h2;rfl
  ·by_cases h3:t=3
   ·subst h3;rfl
   ·rw[beq_false_of_ne h1,beq_false_of_ne h2,beq_false_of_ne h3];by_cases h4:1<=t
    ·rw[decide_eq_true h4,decide_eq_false (show¬t<=3 by omega)];rfl
    ·rw[decide_eq_false h4];rfl
theorem Arl(L:Nat)(t n:Int):Ym L t n=some (Aja t n):=by
 simp only[Atl,Ym,aN,aB,Ayq,Jh,Cr,H3,Aja];by_cases h1:t=1
 ·simp[h1]
 ·by_cases h2:t=2
  ·simp[h2]
  ·by_cases h3:t=3
   ·simp[h3]
   ·simp[h1,h2,h3,beq_false_of_ne h1,beq_false_of_ne h2,beq_false_of_ne h3]
theorem Bcv(l:List Yb)(n:Yb):decide (A56 l n<0)= !l.any λx=>decide (x=n):=by
 unfold A56;rw[Avs];cases h:l.findIdx? λx=>decide (x=n) with
 |none=>rw[Alp h];rfl
 |some i=>rw[Ag2 h];rfl
theorem m0(L:Nat)(n:Yb)(bf:List Yb)(hn:okS n)(hb:bf.length<=maxLen)(hL:maxLen<L):Lk L n bf=some (T8 bf n):=by
 have hM:=Br;simp only[Aqi,Lk,aN,aB,Sa L n hn (Nat.lt_of_le_of_lt hn hL) (by omega),Aeu L bf n hb (by omega),Gp,Gv,Cr,Bcv,T8]
theorem Bah(L:Nat)(x:Aw)(bf:List Yb)(hx:N6 x)(hb:bf.length<=maxLen)(hL:maxLen<L):Aeb L x bf=some (fE (T8 bf x.aF) (Wy x)):=by
 simp only[Aqj,Aeb,aN,aB,m0 L x.aF bf hx.1 hb hL,Aom,Arl,Gp,Gv,Cr,Asb,Aq9]
theorem Ay1(L:Nat)(r:Aj)(hl:r.aZ.length<=maxLen)(hc:Bu (r.cZ-1)=r.cZ-1):∀(k:List Er) (i:Nat) (v:Int),r.aZ.drop i=k->
  ∃j,He L r k i v=some (if A3k r.cZ (pvA r.aZ i) k=0 then(1,(v,j)) else(0,(A3k r.cZ (pvA r.aZ i) k,j))):=by
 intro k
 induction k with
 |nil=>intro i v _;exact⟨i,rfl⟩
 |cons x k ih=>
  intro i v h;obtain⟨hi,hx,hk⟩:=Lz h;obtain⟨j,hj⟩:=ih (i+1) v hk;rw[Bd5 h]at hj;rw[He];simp only[Jh,Cr,hc,Bi1 r.aZ i hi hl,hj,A7n];rcases Bool.eq_false_or_eq_true (Bn 0 (r.cZ-1) x.At)with hA|hA
  ·rcases Bool.eq_false_or_eq_true (Bn 0 1000 x.Units)with hB|hB
   ·rcases Bool.eq_false_or_eq_true (geq (pvA r.aZ i) x.At)with hC|hC
    ·exact⟨i,by simp[hA,hB,hC]⟩
    ·exact⟨j,by simp[hA,hB,hC]⟩
   ·exact⟨i,by simp[hA,hB]⟩
  ·exact⟨i,by simp[hA]⟩
theorem A1m(L:Nat)(r:Aj)(hl:r.aZ.length<=maxLen)(hL:maxLen<L):Zi L r=some (Auj r):=by
 have e20:decide ((r.aZ.length:Int)>20)=decide (20<r.aZ.length):=gtN _ 20;simp only[Aqf,Ty,Tq,Zi,Ty,Tq,aN,aB,Jh,Gp,Cr,Bus,e20,A8k];by_cases h0:r.aZ.length=0
 ·rw[decide_eq_true h0,if_pos h0,cond_true]
 ·rw[decide_eq_false h0,if_neg h0,cond_false];by_cases h2:20<r.aZ.length
  ·rw[decide_eq_true h2,if_pos h2];rfl
  ·rw[decide_eq_false h2,if_neg h2,cond_false];rcases Bool.eq_false_or_eq_true (Bn 1 1000000000 r.cZ)with hr|hr
   ·obtain⟨j,hj⟩:=Ay1 L r hl (cyc hr) r.aZ 0 0 rfl;rw[At2 L r L hl (Nat.lt_of_le_of_lt hl hL),hj,hr];simp only[Bool.not_true,cond_false,Cr,Bool.true_eq_false,if_false];have e:pvA r.aZ 0=none:=rfl;rw[e];by_cases hz:A3k r.cZ none r.aZ=0
    ·rw[if_pos hz,Sr,hz]
    ·rw[if_neg hz,Ip]
   ·rw[hr];rfl
theorem A1n(L:Nat)(s:Aa)(r:Aj)(h1:r.aZ.length<=maxLen)(hs:s.bB.length<=maxLen)(hb:N7 r.bQ<=1048576)(hL:maxLen<L):Un L s r=some (Bej s r):=by
 have hz:(⟨0,0,0,0,[],[]⟩:Bk)=T4:=rfl;unfold N7 at hb;have d1:okD r.bQ.Up:=A4o (by omega);have d2:okD r.bQ.Down:=A4o (by omega);simp only[Ahj,Un,aN,aB,Ie,A2i,Jh,Gp,Gv,A1m L r h1 hL,Ajj L r.bQ.Up _ d1 hL,Ajj L r.bQ.Down _ d2 hL,Agu L r.bQ.Up d1 hL,Agu L r.bQ.Down d2 hL,Aeu L s.bB r.bQ.dH hs (Nat.lt_of_le_of_lt hs hL),Bcv,Cr,Bi3,Bcu,<-Aq9,hz];by_cases h0:fE (Rj (Bn 0 1000 r.Units) 2) (Auj r)=0
 ·rw[h0,Hx];simp only[bne_self_eq_false,cond_false];by_cases h2:r.bQ.dH.size=0
  ·simp only[h2,decide_true,cond_true,if_true];cases Aga r.bQ.Up T4<;>cases Aga r.bQ.Down T4<;>rfl
  ·simp only[h2,decide_false,cond_false,if_false];rcases Bool.eq_false_or_eq_true (s.bB.any λx=>decide (x=r.bQ.dH))with h3|h3
   ·simp[h3]
   ·simp[h3]
 ·rw[Gu h0];simp only[W8 h0,cond_true]
theorem Bwz{α :Type}{nm: α->Yb}{f: α->Int}{lq:List α->Nat->Int->List Yb->Option (Nat×(Int×List Yb×Int))}
  (hn:∀i v ks,lq [] i v ks=some (1,(v,ks,(i:Int)))):∀(k:List α) (i:Nat) (v:Int) (ks:List Yb),ks.length+k.length<=1099511627776->
  (∀x∈k,∀(k:List α) (i:Nat) (v:Int) (ks:List Yb),ks.length<=1099511627776->lq (x::k) i v ks=bif fE (T8 ks (nm x)) (f x) != 0 then some (0,(fE (T8 ks (nm x)) (f x),ks,(i:Int)))else if(ks.length+ [nm x].length)*16<=140737488355328 then(if ks.length+ [nm x].length<=maxLen then lq k (i+1) v (ks++ [nm x])else none)else none)->
  ∃j ks',lq k i v ks=some (if(Es nm f ks k).1=0 then(1,(v,ks',j)) else(0,((Es nm f ks k).1,ks',j)))/\((Es nm f ks k).1=0->ks'=(Es nm f ks k).2):=by
 intro k
 induction k with
 |nil=>intro i v ks _ _;exact⟨i,ks,by rw[hn,Es];rfl,λ_=>rfl⟩
 |cons x k ih=>
  intro i v ks hl h;rw[List.length_cons]at hl;rw[h x (by simp) k i v ks (by omega)];by_cases h0:fE (T8 ks (nm x)) (f x)=0
  ·have e:Es nm f ks (x::k)=Es nm f (ks++ [nm x]) k:=by rw[Es,if_neg (by simp[h0])]
   obtain⟨j,ks',hj,he⟩:=ih (i+1) v (ks++ [nm x]) (by simp only[List.length_append,List.length_singleton];omega) λy hy=>h y (by simp[hy]);rw[e,h0];refine⟨j,ks',?_,he⟩;have hM:=Br;simp only[bne_self_eq_false,cond_false,List.length_singleton];rw[if_pos (by omega),if_pos (by omega),hj]
  ·have e:Es nm f ks (x::k)=(fE (T8 ks (nm x)) (f x),ks):=by rw[Es,if_pos h0]
   rw[e];exact⟨i,ks,by simp only[W8 h0,cond_true,if_neg h0],λhh=>absurd hh h0⟩
theorem A4s(L:Nat)(r:Al)(hr:Qi r)(hb:Gg r<=1048576)(hL:Pp<=L):Ac8 L r=some (Awm r):=by
 have hM:=Br;obtain⟨b1,b2,b3⟩:=Ben hb;have hL':maxLen<L:=H2 hL;have e1:decide ((r.aI.length:Int)>6)=decide (6<r.aI.length):=gtN _ 6;have e2:Bu ((r.aI.length:Int)+(r.bC.length:Int))=((r.aI.length+r.bC.length:Nat):Int):=by rw[No (by omega) (by omega)];omega
 have e3:decide (((r.aI.length+r.bC.length:Nat):Int)>16)=decide (16<r.aI.length+r.bC.length):=gtN _ 16;have c2:=Baa (show∀y∈r.bD,Cx y from hr.2.2.2.2) L (Bii hL b3);simp only[Asn,Wa,Vr,Ac8,Wa,Vr,aN,aB,e1,e2,e3,H3,Bem];by_cases h0:6<r.aI.length\/16<r.aI.length+r.bC.length
 ·rw[if_pos h0];have:(decide (6<r.aI.length) || decide (16<r.aI.length+r.bC.length))=true:=by simpa using h0
  rw[this];rfl
 ·rw[if_neg h0];have:(decide (6<r.aI.length) || decide (16<r.aI.length+r.bC.length))=false:=by simpa using h0
  rw[this,cond_false]
  repeat rw[ifp (by omega)]
  rw[Avx L r L (by simp;omega) (by simp;omega)];obtain⟨j,ks',hj,_⟩:=Bwz (nm:=λf:A9=>f.aF) (f:=λf=>Rj (U5 f.bM) 1) (lq:=I8 L r) (λ_ _ _=>rfl) (r.aI++r.bC) 0 0 [] (by simp;omega) (by
   intro x hx k i v ks hk;have ho:okS x.aF:=by
    rcases List.mem_append.1 hx with h|h
    ·exact(hr.2.1.2 x h).1
    ·exact(hr.2.2.1.2 x h).1
   rw[I8];simp only[m0 L x.aF ks ho (by omega) hL',Aom,Gp,Gv,Cr])
  rw[hj,Cr];by_cases hz:(Es (λf:A9=>f.aF) (λf=>Rj (U5 f.bM) 1) [] (r.aI++r.bC)).1=0
  ·rw[if_pos hz,Sr,hz,Hx,c2];rfl
  ·rw[if_neg hz,Ip,Gu hz]
theorem A64(L:Nat)(s:Aa)(n:Nat)(d:Bv):∀(k:List A9) (i:Nat) (v:Int),i+k.length=d.aM.length->
  ∃j,Jy L s (n:Int) d k i v=some (if Alk k (d.aM.drop i)=true then(1,(v,j)) else(0,(2,j))):=by
 intro k
 induction k with
 |nil=>intro i v _;exact⟨i,by unfold Alk;simp[Jy]⟩
 |cons x k ih=>
  intro i v h;rw[List.length_cons]at h;have hi:i<d.aM.length:=by omega
  obtain⟨j,hj⟩:=ih (i+1) v (by omega);rw[Jy];simp only[toN,Ly hi,if_true,Arl,Cr,hj];have e:Alk (x::k) (d.aM.drop i)=(Aja x.bM (d.aM.getD i default) && Alk k (d.aM.drop (i+1))):=by
   unfold Alk;rw[Aoa d.aM i hi,List.zip_cons_cons,List.all_cons]
  rw[e];cases Aja x.bM (d.aM.getD i default) with
  |false=>exact⟨i,rfl⟩
  |true=>exact⟨j,by simp⟩
theorem Bag(L:Nat)(s:Aa)(d:Bv)(hs:Ah4 s 1099511627776)(hd:d.aM.length<=maxLen)(hL:maxLen<L):Y1 L s d=some (Ay8 s d):=by
 have hM:=Br;simp only[Azt,Aaz,z7,Y1,Aaz,z7,aN,aB,A4r L s d.dI hs hL,Cr,Ae1,Avs,A8o,Bcz];cases hf:s.aD.findIdx? (λx=>decide (x.aF=d.dI)) with
 |none=>rfl
 |some i=>
  have hi:=Bm9 hf;simp only[Option.isNone_some,cond_false,Zc,nn,if_true,Ly hi,toN,Option.map_some];by_cases hn:d.aM.length=(s.aD.getD i default).aI.length
  ·rw[if_neg (by simpa using hn)];have:((d.aM.length:Int) != ((s.aD.getD i default).aI.length:Int))=false:=by rw[hn];simp
   rw[this,cond_false,A1f L s _ d L (by rw[toN];omega) (by rw[toN];omega)];obtain⟨j,hj⟩:=A64 L s i d (s.aD.getD i default).aI 0 0 (by omega);rw[toN,hj,Cr,List.drop_zero];cases Alk (s.aD.getD i default).aI d.aM with
   |false=>rfl
   |true=>
    simp only[if_true,Sr,Jh,Gp,Cr,Bool.true_eq_false,if_false];cases Bn 0 1000000000 d.At<;>cases Bn 0 1000000000 d.Every<;>cases Bn 0 1000000000 d.Until<;>rfl
  ·rw[if_pos (by simpa using hn)];have:((d.aM.length:Int) != ((s.aD.getD i default).aI.length:Int))=true:=bne_iff_ne.2 (by omega);rw[this];rfl
theorem Bop(s:Aa)(t:Bd):Aai s t=if Amz t.aQ=0 then 1
 else if A0f s t.aF≠(if Amz t.aQ=1 then Ah0 else if Amz t.aQ=2 then Are else Ard)then 5 else Az6 t:=rfl
theorem Vp(L:Nat)(s:Aa)(t:Bd)(w:Yb)(h:Ah4 s 1099511627776)(hL:maxLen<L):(P8 L s t w:Option Int)=some (fE (Rj (!decide (w.size=0)) 1) (fE (Rj (decide (A0f s t.aF=w)) 5) (Az6 t))):=by
 have hM:=Br;simp only[P8,aN,aB,Ie,A2i,Gp,Gv,Jh,Bds L s t.aF h hL,Cr,Ds,Aq9,Az6]
theorem tR(s:Aa)(n w:Yb)(c:Int)(hw:decide (w.size=0)=false):fE (Rj (!decide (w.size=0)) 1) (fE (Rj (decide (A0f s n=w)) 5) c)=if A0f s n≠w then 5 else c:=by
 rw[hw];by_cases h:A0f s n=w
 ·rw[decide_eq_true h,if_neg (by simpa using h)];rfl
 ·rw[decide_eq_false h,if_pos h];rfl
theorem Bdv(L:Nat)(s:Aa)(t:Bd)(h:Ah4 s 1099511627776)(hL:maxLen<L):Ag9 L s t=some (Aai s t):=by
 have k1:(⟨#[114,111,117,116,105,110,101]⟩:Yb)=Ah0:=rfl;have k2:(⟨#[115,116,111,114,101]⟩:Yb)=Are:=rfl;have k3:(⟨#[99,111,117,110,116]⟩:Yb)=Ard:=rfl;have t0:(P8 L s t ⟨#[]⟩:Option Int)=some 1:=by rw[Vp L s t _ h hL];rfl
 have t1:=Vp L s t Ah0 h hL;have t2:=Vp L s t Are h hL;have t3:=Vp L s t Ard h hL;rw[tR _ _ _ _ rfl]at t1 t2 t3;simp only[Ag9,A2z,sx_R11_term_0,Ak8,sx_R11_term_2,Ak9,sx_R11_term_3,aN,Ie,Bxt,Bxu,Bxv,Bxw,Bxx,Bxy,Bxz,k1,k2,k3,t0,t1,t2,t3,Bop,Be7];by_cases c1:t.aQ=wd1
 ·simp[c1]
 by_cases c2:t.aQ=wd2
 ·simp[c1,c2,wdn]
 by_cases c3:t.aQ=wd3
 ·simp[c1,c2,c3,wdn]
 by_cases c4:t.aQ=wd4
 ·simp[c1,c2,c3,c4,wdn]
 by_cases c5:t.aQ=wd5
 ·simp[c1,c2,c3,c4,c5,wdn]
 by_cases c6:t.aQ=wd6
 ·simp[c1,c2,c3,c4,c5,c6,wdn]
 by_cases c7:t.aQ=wd7
 ·simp[c1,c2,c3,c4,c5,c6,c7,wdn]
 ·simp[c1,c2,c3,c4,c5,c6,c7]
theorem Bd6(L:Nat)(s:Aa)(l:Bh)(h:Ah4 s 1099511627776)(hL:maxLen<L):∀(k:List Bd) (i:Nat) (v:Int),∃j,Oj L s l k i v=some (0,(fE v (Qm (Aai s) k),j)):=by
 intro k
 induction k with
 |nil=>intro i v;exact⟨i,by rw[Oj,Qm,Ca8]⟩
 |cons x k ih=>
  intro i v;obtain⟨j,hj⟩:=ih (i+1) (fE v (Aai s x));refine⟨j,?_⟩;rw[Oj,Bdv L s x h hL,Cr,Gv,Cr,hj,Aq9,Qm]
theorem Bgk(L:Nat)(s:Aa)(l:Bh)(bf:List Yb)(hl:Abi l)(hs:Ah4 s 1099511627776)(hb:bf.length<=maxLen)(hL:maxLen<L):Alg L s l bf=some (fE (T8 bf l.aF) (A01 (Aai s) l)):=by
 obtain⟨j,hj⟩:=Bd6 L s l hs hL l.bS 0 (fE (T8 bf l.aF) (fE (Rj (decide (0<l.bS.length)) 7) (Rj (decide (l.bS.length<=8)) 6)));have e1:decide ((l.bS.length:Int)>0)=decide (0<l.bS.length):=gtN _ 0;have e2:decide ((l.bS.length:Int)<=8)=decide (l.bS.length<=8):=decide_eq_decide.2 (by omega);simp only[A7h,Ag1,Agy,Alg,Ag1,Agy,aN,aB,m0 L l.aF bf hl.1 hb hL,Gp,Gv,Ayq,Cr,e1,e2,A59 L s l L hl.2.1.1 (Nat.lt_of_le_of_lt hl.2.1.1 hL),hj,Ip,Biu,Aq9]
theorem kd0(L:Nat)(s:Aa)(i:Nat)(hi:i<s.bX.length):Da L s 0 (i:Int)=some (Wy (s.bX.getD i default)):=by
 simp only[Jl,Da,aN,aB,beq_self_eq_true,cond_true,nn,Ly hi,if_true,toN,Aom,Arl,Gp,Gv,Cr,Asb]
theorem kd1(L:Nat)(s:Aa)(i:Nat)(hi:i<s.aG.length)(h:SG s)(hL:maxLen<L):Da L s 1 (i:Int)=some (Bej s (s.aG.getD i default)):=by
 have hm:s.aG.getD i default∈s.aG:=by rw[J4 _ i hi];exact List.getElem_mem hi
 have e:=A1n L s (s.aG.getD i default) (h.res _ hm).2.2.1.1 h.ln.2.2.2.2.2.1 (h.bkD _ hm) hL;simp only[Jl,Da,aN,aB,nn,Ly hi,if_true,toN];show(Option.bind (Un L s (s.aG.getD i default)) λr6=>some r6)=_
 rw[e];rfl
theorem kd2(L:Nat)(s:Aa)(i:Nat)(hi:i<s.aL.length):Da L s 2 (i:Int)=some (Auo (s.aL.getD i default)):=by
 have e:∀p:Int,(decide (p>=1) && decide (p<=3))=Bn 1 3 p:=λ_=>rfl;simp only[Jl,Da,aN,aB,nn,Ly hi,if_true,toN,Jh,Gp,Gv,Cr,Ds,e,A8s];rfl
theorem kd3(L:Nat)(s:Aa)(i:Nat)(hi:i<s.bN.length):Da L s 3 (i:Int)=some (A3f (s.bN.getD i default)):=by
 simp only[Jl,Da,aN,aB,nn,Ly hi,if_true,toN,Jh,Gp,Gv,Cr,Bb9,F6];cases Bn 1 1000 (s.bN.getD i default).Length<;>cases Bn 1 1000 (s.bN.getD i default).Step<;>rfl
theorem kd9(L:Nat)(s:Aa)(i:Nat)(hi:i<s.aD.length)(h:SG s)(hL:Pp<=L):Da L s 9 (i:Int)=some (Awm (s.aD.getD i default)):=by
 have hm:s.aD.getD i default∈s.aD:=by rw[J4 _ i hi];exact List.getElem_mem hi
 simp only[Jl,Da,aN,aB,nn,Ly hi,if_true,toN,A4s L _ (h.routs _ hm) (h.bkR _ hm) hL,Cr];rfl
theorem kdN(L:Nat)(s:Aa)(κ :Int)(i:Int)(h: κ =4\/κ =5\/κ =6\/κ =7\/κ =8):Da L s κ i=some 0:=by
 rcases h with rfl|rfl|rfl|rfl|rfl<;>(simp only[Jl,Da,aN,aB];rfl)
theorem Bkb{α :Type} [Inhabited α](nm: α->Yb)(xs:List α)(i:Nat)(hi:i<xs.length):(xs.map nm).getD i default=nm (xs.getD i default):=by
 rw[J4 _ i (by simpa using hi),J4 _ i hi,List.getElem_map]
theorem Bay{α :Type} [Inhabited α](nm: α->Yb)(g: α->Int)(xs:List α)(L:Nat)(s:Aa)(r1:List (List Yb))(κ :Nat)(hκ : κ<r1.length)(hr:r1.getD κ default=xs.map nm)
  (hd:∀i,i<xs.length->Da L s (κ :Int) (i:Int)=some (g (xs.getD i default)))(ho:∀x∈xs,okS (nm x))(hL:maxLen<L)(hx:xs.length<=1048576):
  ∀(n i:Nat) (v:Int) (ks:List Yb),ks.length+xs.length<=1099511627776+i->i<=xs.length->xs.length-i<n->
  ∃j ks',Lt L r1 (κ :Int) s n v ks (i:Int)=some (if(Es nm g ks (xs.drop i)).1=0 then(1,(v,ks',j)) else(0,((Es nm g ks (xs.drop i)).1,ks',j)))/\((Es nm g ks (xs.drop i)).1=0->ks'=(Es nm g ks (xs.drop i)).2):=by
 intro n;have hM:=Br
 induction n with
 |zero=>intro i v ks _ _ h;omega
 |succ n ih=>
  intro i v ks hk hi hn;have hlen:((r1.getD κ default).length:Int)=(xs.length:Int):=by rw[hr,List.length_map]
  have hlen':(r1.getD κ default).length=xs.length:=by rw[hr,List.length_map]
  by_cases hlt:i<xs.length
  ·have hg:(r1.getD κ default).getD i default=nm (xs.getD i default):=by rw[hr,Bkb nm xs i hlt]
   have hm:xs.getD i default∈xs:=by rw[J4 _ i hlt];exact List.getElem_mem hlt
   have hnd:=m0 L (nm (xs.getD i default)) ks (ho _ hm) (by omega) hL;simp only[Lt,Adi,aN,aB,nn,Ly hκ,if_true,toN,hlen,hlen',Dx hlt,Ly hlt,decide_true,cond_true,hg,hnd,hd i hlt,Gv,Cr];rw[Aoa xs i hlt];by_cases h0:fE (T8 ks (nm (xs.getD i default))) (g (xs.getD i default))=0
   ·have e:Es nm g ks (xs.getD i default::xs.drop (i+1))=Es nm g (ks++ [nm (xs.getD i default)]) (xs.drop (i+1)):=by rw[Es,if_neg (λhh=>hh h0)]
    obtain⟨j,ks',hj,he⟩:=ih (i+1) v (ks++ [nm (xs.getD i default)]) (by simp only[List.length_append,List.length_singleton];omega) hlt (by omega);rw[e];refine⟨j,ks',?_,he⟩;simp only[h0,bne_self_eq_false,cond_false,List.length_singleton];rw[if_pos (by omega),if_pos (by omega),Bb hlt (by omega),hj]
   ·have e:Es nm g ks (xs.getD i default::xs.drop (i+1))=(fE (T8 ks (nm (xs.getD i default))) (g (xs.getD i default)),ks):=by rw[Es,if_pos h0]
    rw[e];exact⟨i,ks,by simp only[W8 h0,cond_true,if_neg h0],λhh=>absurd hh h0⟩
  ·have e:xs.drop i= []:=List.drop_eq_nil_of_le (by omega);rw[e,Es];refine⟨i,ks,?_,λ_=>rfl⟩;simp only[Lt,Adi,aN,aB,nn,Ly hκ,if_true,toN,hlen,D3 (show xs.length<=i by omega),cond_false]
def Gr(e v:Int)(X:Option (Nat×(Int×List Yb×Int))):Prop:=∃a b,X=some (if e=0 then(1,(v,a,b)) else(0,(e,a,b)))
theorem S6{α :Type} [Inhabited α](nm: α->Yb)(g: α->Int)(xs:List α)(most:Nat)(L:Nat)(s:Aa)(r1:List (List Yb))(κ :Nat)(hκ : κ<r1.length)(hr:r1.getD κ default=xs.map nm)
  (hmost:(κ =9/\most=16)\/(κ≠9/\most=32))
  (hd:∀i,i<xs.length->Da L s (κ :Int) (i:Int)=some (g (xs.getD i default)))(ho:∀x∈xs,okS (nm x))(hL:maxLen<L)(hx:xs.length<=1048576)
  (f:List Yb->Int×List Yb)(k:List (List Yb))(v:Int)(ks:List Yb)(c:Nat)(hc:ks.length<=c)(hcc:c<=1000)
  (h:∀ks',ks'.length<=c+32->Gr (f ks').1 v (Hz L r1 s k (κ +1) v ks')):Gr (Nn (K8 most nm g ks xs) f).1 v (Hz L r1 s (xs.map nm::k) κ v ks):=by
 have hM:=Br;have e32:decide ((xs.length:Int)>32)=decide (32<xs.length):=gtN _ 32;have e16:decide ((xs.length:Int)>16)=decide (16<xs.length):=gtN _ 16;rw[Hz];simp only[List.length_map,e32,e16,nn,if_true,Ly hκ];have hb:(bif decide (32<xs.length)then some true else bif ((κ :Int) == 9)then some (decide (16<xs.length))else some false)=some (decide (most<xs.length)):=by
  rcases hmost with⟨rfl,rfl⟩|⟨h9,rfl⟩
  ·by_cases h1:32<xs.length
   ·rw[decide_eq_true h1,decide_eq_true (show 16<xs.length by omega)];rfl
   ·rw[decide_eq_false h1];rfl
  ·rw[beq_false_of_ne (show¬(κ :Int)=9 by omega)];cases decide (32<xs.length)<;>rfl
 rw[hb,Cr];unfold K8;by_cases hm:most<xs.length
 ·rw[decide_eq_true hm,if_pos hm];exact⟨ks,κ,rfl⟩
 ·rw[decide_eq_false hm,if_neg hm,cond_false];obtain⟨j,ks',hj,he⟩:=Bay nm g xs L s r1 κ hκ hr hd ho hL hx L 0 v ks (by omega) (by omega) (by omega);rw[List.drop_zero]at hj he;have hj:Lt L r1 (κ :Int) s L v ks 0=_:=hj;rw[hj,Cr];unfold Nn;by_cases h0:(Es nm g ks xs).1=0
  ·rw[if_neg (by simp[h0]),if_pos h0,Sr,<-he h0];refine h ks' ?_;have:=(Bcj nm g xs ks h0).1;rw[he h0,this,List.length_append,List.length_map];rcases hmost with⟨_,rfl⟩|⟨_,rfl⟩<;>omega
  ·rw[if_pos h0,if_neg h0,Ip];exact⟨ks',κ,by rw[if_neg h0]⟩
theorem Boq(p:Int×List Yb):p.1=(Nn p λb=>(0,b)).1:=by
 unfold Nn;by_cases h:p.1=0
 ·rw[if_neg (by simp[h]),h]
 ·rw[if_pos h]
theorem Ays(L:Nat)(s:Aa)(h:SG s)(hL:Pp<=L):Gr (Axb s).1 0 (Hz L (Hv s) s (Hv s) 0 0 []):=by
 have hl:=H2 hL;obtain⟨l0,l1,l2,l3,l4,l5,l6,l7,l8,l9⟩:=(A35 s).mono h.bk;rw[Boq,Axb];simp only[A5v];have e4:∀l:List Yb,l.map (λx=>x)=l:=λl=>List.map_id' l;have lt10:∀ {n:Nat},n<10->n<(Hv s).length:=λh=>h;have e5:∀k,k=Hv s->k= [s.bX.map λx=>x.aF,s.aG.map λx=>x.aF,s.aL.map λx=>x.aF,s.bN.map λx=>x.aF,s.bH.map λx=>x,s.bB.map λx=>x,s.bG.map λx=>x,s.bP.map λx=>x,s.bF.map λx=>x,s.aD.map λx=>x.aF]:=by
  intro k hk;rw[hk,e4,e4,e4,e4,e4];rfl
 suffices H:∀k,k=Hv s->Gr (Nn (K8 32 (λx:Aw=>x.aF) Wy [] s.bX) λb=>Nn (K8 32 (λx:Aj=>x.aF) (Bej s) b s.aG) λb=>Nn (K8 32 (λx:Ar=>x.aF) Auo b s.aL) λb=>Nn (K8 32 (λx:Bg=>x.aF) A3f b s.bN) λb=>Nn (txE b s.bH) λb=>Nn (txE b s.bB) λb=>Nn (txE b s.bG) λb=>Nn (txE b s.bP) λb=>Nn (txE b s.bF) λb=>Nn (K8 16 (λx:Al=>x.aF) Awm b s.aD) λb=>(0,b)).1 0 (Hz L (Hv s) s k 0 0 [])from H _ rfl
 intro k hk;rw[e5 k hk];refine S6 _ _ s.bX 32 L s (Hv s) 0 (lt10 (by decide)) rfl (.inr ⟨by decide,rfl⟩) (λi hi=>kd0 L s i hi) (λx hx=>(h.vars x hx).1) hl l0 _ _ 0 [] 0 (Nat.le_refl _) (by decide) λks1 k1=>?_;refine S6 _ _ s.aG 32 L s (Hv s) 1 (lt10 (by decide)) rfl (.inr ⟨by decide,rfl⟩) (λi hi=>kd1 L s i hi h hl) (λx hx=>(h.res x hx).1) hl l1 _ _ 0 ks1 _ k1 (by decide) λks2 k2=>?_;refine S6 _ _ s.aL 32 L s (Hv s) 2 (lt10 (by decide)) rfl (.inr ⟨by decide,rfl⟩) (λi hi=>kd2 L s i hi) (λx hx=>(h.stores x hx).1) hl l2 _ _ 0 ks2 _ k2 (by decide) λks3 k3=>?_;refine S6 _ _ s.bN 32 L s (Hv s) 3 (lt10 (by decide)) rfl (.inr ⟨by decide,rfl⟩) (λi hi=>kd3 L s i hi) (λx hx=>(h.belts x hx).1) hl l3 _ _ 0 ks3 _ k3 (by decide) λks4 k4=>?_;refine S6 (λx:Yb=>x) (λ_=>0) s.bH 32 L s (Hv s) 4 (lt10 (by decide)) (show(Hv s).getD 4 default=List.map (λx=>x) s.bH from(e4 s.bH).symm) (.inr ⟨by decide,rfl⟩) (λi _=>kdN L s _ _ (.inl rfl)) h.queues hl l4 _ _ 0 ks4 _ k4 (by decide) λks5 k5=>?_;refine S6 (λx:Yb=>x) (λ_=>0) s.bB 32 L s (Hv s) 5 (lt10 (by decide)) (show(Hv s).getD 5 default=List.map (λx=>x) s.bB from(e4 s.bB).symm) (.inr ⟨by decide,rfl⟩) (λi _=>kdN L s _ _ (.inr (.inl rfl))) h.streams hl l5 _ _ 0 ks5 _ k5 (by decide) λks6 k6=>?_;refine S6 (λx:Yb=>x) (λ_=>0) s.bG 32 L s (Hv s) 6 (lt10 (by decide)) (show(Hv s).getD 6 default=List.map (λx=>x) s.bG from(e4 s.bG).symm) (.inr ⟨by decide,rfl⟩) (λi _=>kdN L s _ _ (.inr (.inr (.inl rfl)))) h.tallies hl l6 _ _ 0 ks6 _ k6 (by decide) λks7 k7=>?_
 refine S6 (λx:Yb=>x) (λ_=>0) s.bP 32 L s (Hv s) 7 (lt10 (by decide)) (show(Hv s).getD 7 default=List.map (λx=>x) s.bP from(e4 s.bP).symm) (.inr ⟨by decide,rfl⟩) (λi _=>kdN L s _ _ (.inr (.inr (.inr (.inl rfl))))) h.levels hl l7 _ _ 0 ks7 _ k7 (by decide) λks8 k8=>?_;refine S6 (λx:Yb=>x) (λ_=>0) s.bF 32 L s (Hv s) 8 (lt10 (by decide)) (show(Hv s).getD 8 default=List.map (λx=>x) s.bF from(e4 s.bF).symm) (.inr ⟨by decide,rfl⟩) (λi _=>kdN L s _ _ (.inr (.inr (.inr (.inr rfl))))) h.counts hl l8 _ _ 0 ks8 _ k8 (by decide) λks9 k9=>?_;refine S6 _ _ s.aD 16 L s (Hv s) 9 (lt10 (by decide)) rfl (.inl ⟨rfl,rfl⟩) (λi hi=>kd9 L s i hi h hL) (λx hx=>(h.routs x hx).1) hl l9 _ _ 0 ks9 _ k9 (by decide) λks10 k10=>?_;exact⟨ks10,10,rfl⟩
theorem Bdu(L:Nat)(s:Aa)(h:SG s)(hL:Pp<=L):Ag8 L s=some (Apj Aai s):=by
 have hl:=H2 hL;have hM:=Br;obtain⟨a,b,e1⟩:=Ays L s h hL;have e2:decide ((s.bV.length:Int)>32)=decide (32<s.bV.length):=gtN _ 32;have e3:decide ((s.Laws.length:Int)>32)=decide (32<s.Laws.length):=gtN _ 32;have h1:(Hv s).length=10:=rfl;simp only[A2y,Ad5,Akv,Ad6,Akw,Ad7,Ady,Ag8,Ad5,Akv,Ad6,Akw,Ad7,Ady,aN,aB,Aol L s h.len hl,Cr,A4e L (Hv s) s L (by rw[h1];decide) (by rw[h1];omega),e1,e2,e3,Ber];by_cases h0:(Axb s).1=0
 ·rw[if_pos h0,Sr,h0,Hx];unfold Awr K8;by_cases h2:32<s.bV.length
  ·rw[decide_eq_true h2,if_pos h2,Gu (show(6:Int)≠0 by decide)];rfl
  ·rw[decide_eq_false h2,if_neg h2,cond_false];obtain⟨j,hj⟩:=Bb6 (lq:=S5 L s) (bd:=Y1 L s) (f:=Ay8 s) (λ_ _=>rfl) (λ_ _ _ _=>rfl) s.bV 0 0 λx hx=>Bag L s x h.len (h.starts.2 x hx).2.1.1 hl;rw[A4f L s L h.starts.1 (Nat.lt_of_le_of_lt h.starts.1 hl),hj,Cr];by_cases h3:Qm (Ay8 s) s.bV=0
   ·rw[if_pos h3,Sr,h3,Hx];by_cases h4:32<s.Laws.length
    ·rw[decide_eq_true h4,if_pos h4];rfl
    ·rw[decide_eq_false h4,if_neg h4,cond_false];obtain⟨j,ks',hj,_⟩:=Bwz (nm:=λl:Bh=>l.aF) (f:=A01 (Aai s)) (lq:=P3 L s) (λ_ _ _=>rfl) s.Laws 0 0 [] (by simp;omega) (by
      intro x hx k i v ks hk;rw[P3,Bgk L s x ks (h.laws.2 x hx) h.len (by omega) hl,Cr])
     rw[A4g L s L h.laws.1 (Nat.lt_of_le_of_lt h.laws.1 hl),hj,Cr];by_cases hz:(Es (λl:Bh=>l.aF) (A01 (Aai s)) [] s.Laws).1=0
     ·rw[if_pos hz,Sr,hz]
     ·rw[if_neg hz,Ip]
   ·rw[if_neg h3,Ip,Gu h3]
 ·rw[if_neg h0,Ip,Gu h0]
theorem A63(L:Nat)(m:Ai)(i:Nat)(hi:i<m.aH.length)(hl:m.aH.length<=maxLen):∀(n c:Nat) (v:Int),c<=i->i-c<n->
  ∃j,Jn L (i:Int) m n v (c:Int)=some (if Bk0 ((m.aH.take i).drop c) (m.aH.getD i default)=true then(0,(4,j)) else(1,(v,j))):=by
 intro n;have hM:=Br
 induction n with
 |zero=>intro c v _ h;omega
 |succ n ih=>
  intro c v hc hn;by_cases hlt:c<i
  ·have hcl:c<m.aH.length:=by omega
   obtain⟨j,hj⟩:=ih (c+1) v hlt (by omega);have e:(m.aH.take i).drop c=m.aH.getD c default::(m.aH.take i).drop (c+1):=by
    have h1:c<(m.aH.take i).length:=by rw[List.length_take];omega
    rw[List.drop_eq_getElem_cons h1,List.getElem_take,J4 _ c hcl]
   rw[e];unfold Bk0 at hj ⊢;simp only[Jn,d6,aN,aB,nn,Dx hlt,Ly hcl,if_true,toN,cond_true,Ie,Bb hcl hl,hj,List.any_cons];by_cases h1:(m.aH.getD c default).aV=(m.aH.getD i default).aV
   ·by_cases h2:(m.aH.getD c default).To=(m.aH.getD i default).To
    ·exact⟨c,by simp only[decide_eq_true h1,decide_eq_true h2,cond_true,cond_false,Bool.true_and,Bool.false_and,Bool.and_self,Bool.false_or,Bool.true_or,if_true]⟩
    ·exact⟨j,by simp only[decide_eq_true h1,decide_eq_false h2,cond_true,cond_false,Bool.true_and,Bool.false_and,Bool.and_self,Bool.false_or,Bool.true_or,if_true]⟩
   ·exact⟨j,by simp only[decide_eq_false h1,cond_true,cond_false,Bool.true_and,Bool.false_and,Bool.and_self,Bool.false_or,Bool.true_or,if_true]⟩
  ·have e:(m.aH.take i).drop c= []:=List.drop_eq_nil_of_le (by rw[List.length_take];omega);rw[e];exact⟨c,by simp only[Jn,d6,aN,aB,D3 (show i<=c by omega),cond_false];rfl⟩
theorem A62(L:Nat)(m:Ai)(hm:m.aA.length<=maxLen)(hl:m.aH.length<=maxLen)(hL:maxLen<L):∀(k:List B9) (i:Nat) (v:Int),m.aH.drop i=k->
  ∃j,Jx L m k i v=some (if Afq m (m.aH.take i) k=0 then(1,(v,j)) else(0,(Afq m (m.aH.take i) k,j))):=by
 have hM:=Br;intro k
 induction k with
 |nil=>intro i v _;exact⟨i,rfl⟩
 |cons x k ih=>
  intro i v h;obtain⟨hi,hx,hk⟩:=Lz h;obtain⟨j,hj⟩:=ih (i+1) v hk;obtain⟨c,hc⟩:=A63 L m i hi hl L 0 v (by omega) (by omega);rw[List.drop_zero,hx]at hc;have hc:Jn L (i:Int) m L v 0=_:=hc;have e:m.aH.take i++ [x]=m.aH.take (i+1):=by rw[List.take_add_one,List.getElem?_eq_getElem hi];congr 1;rw[<-hx,J4 _ i hi];rfl
  rw[Jx,Afq,e];simp only[Bdt L m _ hm hL,Jh,Cr,Bes,Ie,F6,H3,hc,Bdd];rcases Bool.eq_false_or_eq_true (m.aA.any λd=>decide (d.aF=x.aV))with a1|a1
  ·rcases Bool.eq_false_or_eq_true (m.aA.any λd=>decide (d.aF=x.To))with a2|a2
   ·by_cases a3:x.aV=x.To
    ·exact⟨i,by simp[a1,a2,a3,fE]⟩
    ·rcases Bool.eq_false_or_eq_true (Bn 1 1000000000 x.bR)with a4|a4
     ·rcases Bool.eq_false_or_eq_true (Bk0 (m.aH.take i) x)with a5|a5
      ·exact⟨i,by simp[a1,a2,a3,a4,a5,fE,Rj,Ip]⟩
      ·refine⟨j,?_⟩;simp only[a1,a2,a3,a4,a5,Rj,decide_false,cond_false,Bool.not_true,Bool.or_self,if_false,Bool.and_self,Bool.true_eq_false,Bool.not_false,cond_true,Hx,Bool.false_eq_true,Cr,Sr];exact hj
     ·exact⟨i,by simp[a1,a2,a3,a4,fE]⟩
   ·exact⟨i,by simp[a1,a2,fE]⟩
  ·exact⟨i,by simp[a1,fE]⟩
theorem Baf(L:Nat)(m:Ai)(hm:m.aA.length<=maxLen)(hl:m.aH.length<=maxLen)(hL:maxLen<L):Aix L m=some (A36 m):=by
 have e32:decide ((m.aH.length:Int)>32)=decide (32<m.aH.length):=gtN _ 32;obtain⟨j,hj⟩:=A62 L m hm hl hL m.aH 0 0 rfl;have hj:Jx L m m.aH 0 0=some (if Afq m [] m.aH=0 then(1,(0,j)) else(0,(Afq m [] m.aH,j))):=hj;simp only[Azs,Aay,z6,Aix,Aay,z6,aN,aB,e32,A1e L m L hl (Nat.lt_of_le_of_lt hl hL),hj,Cr,A36];by_cases h:32<m.aH.length
 ·rw[decide_eq_true h,if_pos h];rfl
 ·rw[decide_eq_false h,if_neg h,cond_false];by_cases h0:Afq m [] m.aH=0
  ·rw[if_pos h0,Sr,h0]
  ·rw[if_neg h0,Ip]
theorem Bmd{α :Type}{nm: α->Yb}{f: α->Int}{lq:List α->Nat->Int->Int->List Yb->Option (Nat×(Int×Int×List Yb×Int))}
  (hn:∀i v e ks,lq [] i v e ks=some (1,(v,e,ks,(i:Int)))):∀(k:List α) (i:Nat) (v e:Int) (ks:List Yb),ks.length+k.length<=1099511627776->
  (∀x∈k,∀(k:List α) (i:Nat) (v e:Int) (ks:List Yb),ks.length<=1099511627776->lq (x::k) i v e ks=bif fE (T8 ks (nm x)) (f x) != 0 then some (0,(fE (T8 ks (nm x)) (f x),fE (T8 ks (nm x)) (f x),ks,(i:Int)))else if(ks.length+ [nm x].length)*16<=140737488355328 then(if ks.length+ [nm x].length<=maxLen then lq k (i+1) v (fE (T8 ks (nm x)) (f x)) (ks++ [nm x])else none)else none)->
  ∃j e' ks',lq k i v e ks=some (if(Es nm f ks k).1=0 then(1,(v,e',ks',j)) else(0,((Es nm f ks k).1,e',ks',j))):=by
 intro k
 induction k with
 |nil=>intro i v e ks _ _;exact⟨i,e,ks,by rw[hn,Es];rfl⟩
 |cons x k ih=>
  intro i v e ks hl h;rw[List.length_cons]at hl;rw[h x (by simp) k i v e ks (by omega)];by_cases h0:fE (T8 ks (nm x)) (f x)=0
  ·have e1:Es nm f ks (x::k)=Es nm f (ks++ [nm x]) k:=by rw[Es,if_neg (λhh=>hh h0)]
   obtain⟨j,e',ks',hj⟩:=ih (i+1) v 0 (ks++ [nm x]) (by simp only[List.length_append,List.length_singleton];omega) λy hy=>h y (by simp[hy]);rw[e1,h0];refine⟨j,e',ks',?_⟩;have hM:=Br;simp only[bne_self_eq_false,cond_false,List.length_singleton];rw[if_pos (by omega),if_pos (by omega),hj]
  ·have e1:Es nm f ks (x::k)=(fE (T8 ks (nm x)) (f x),ks):=by rw[Es,if_pos h0]
   rw[e1];exact⟨i,_,ks,by simp only[W8 h0,cond_true,if_neg h0];rfl⟩
theorem Bos(n:Nat)(c:Nat)(e:Int):Rj (decide ((n:Int)<=(c:Int))) e=if c<n then e else 0:=by
 by_cases h:c<n
 ·rw[if_pos h,decide_eq_false (by omega)];rfl
 ·rw[if_neg h,decide_eq_true (by omega)];rfl
theorem Bae(L:Nat)(m:Ai)(h:MG m)(hL:Pp<=L):Yz L m=some (At5 Aai m):=by
 have hl:=H2 hL;have hM:=Br;have hp:=h.ok.2.1;have u1:Rj (decide ((m.aI.length:Int)<=32)) 6=if 32<m.aI.length then 6 else 0:=Bos _ 32 6
 have u2:Rj (decide ((m.aA.length:Int)<=16)) 6=if 16<m.aA.length then 6 else 0:=Bos _ 16 6
 have u3:decide ((m.aA.length:Int)>0)=decide (0<m.aA.length):=gtN _ 0;simp only[Azq,Aar,Ah9,Aas,w3,Yz,Aar,Ah9,Aas,w3,aN,aB,Sa L m.aF h.ok.1 (Nat.lt_of_le_of_lt h.ok.1 hl) (by omega),Gp,Gv,u1,u2,u3,Baf L m h.sites h.links hl,Cr];unfold At5;by_cases h0:Jd m.aF=0
 ·rw[h0,Hx,Hx];unfold K8;by_cases h1:32<m.aI.length
  ·rw[if_pos h1,if_pos h1,Gu (show(6:Int)≠0 by decide)];rfl
  ·rw[if_neg h1,if_neg h1];obtain⟨j,e',ks',hj⟩:=Bmd (nm:=λx:Aw=>x.aF) (f:=Wy) (lq:=M6 L m) (λ_ _ _ _=>rfl) m.aI 0 0 0 [] (by simp;omega) (by
    intro x hx k i v e ks hk;rw[M6,Bah L x ks (hp.2 x hx) (by omega) hl,Cr])
   simp only[bne_self_eq_false,cond_false];rw[A07 L m L hp.1 (Nat.lt_of_le_of_lt hp.1 hl),hj,Cr];by_cases h2:(Es (λx:Aw=>x.aF) Wy [] m.aI).1=0
   ·rw[if_pos h2,Sr,h2,Hx];by_cases h3:m.aA.length=0
    ·rw[decide_eq_false (show¬0<m.aA.length by omega)];rfl
    ·rw[decide_eq_true (show 0<m.aA.length by omega)];simp only[Rj,cond_true,Hx];by_cases h4:16<m.aA.length
     ·rw[if_pos h4,if_pos h4,Gu (show(6:Int)≠0 by decide)];rfl
     ·rw[if_neg h4,if_neg h4];obtain⟨j2,e2',ks2',hj2⟩:=Bmd (nm:=λx:Aa=>x.aF) (f:=Apj Aai) (lq:=M7 L m) (λ_ _ _ _=>rfl) m.aA 0 0 0 [] (by simp;omega) (by
       intro x hx k i v e ks hk;have hn:okS x.aF:=by have:=(h.site x hx).ok;unfold B8 at this;exact this.1
       rw[M7,m0 L x.aF ks hn (by omega) hl,Cr,Bdu L x (h.site x hx) hL,Cr,Gv,Cr])
      simp only[bne_self_eq_false,cond_false];rw[A08 L m L h.sites (Nat.lt_of_le_of_lt h.sites hl),hj2,Cr];by_cases h5:(Es (λx:Aa=>x.aF) (Apj Aai) [] m.aA).1=0
      ·rw[if_pos h5,Sr,h5,Hx]
      ·rw[if_neg h5,Ip,Gu h5]
   ·rw[if_neg h2,Ip,Gu h2]
 ·rw[Gu h0,Gu h0];simp only[W8 h0,cond_true]
end Go.Proofs.YthjhkpgonleelaaGreatDoor.Ev
