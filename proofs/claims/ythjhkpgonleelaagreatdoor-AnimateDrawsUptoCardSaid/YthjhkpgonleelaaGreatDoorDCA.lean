/-  Chapter 11, plainly: what Check says of a model. -/
import Derived.Test.YthjhkpgonleelaaGreatDoorDPA
import Derived.Test.YthjhkpgonleelaaGreatDoorDQA
import Derived.Test.YthjhkpgonleelaaGreatDoorDRA
set_option maxRecDepth 100000
set_option linter.unusedVariables false
set_option linter.unusedSimpArgs false
set_option linter.unnecessarySimpa false
namespace Go.Proofs.YthjhkpgonleelaaGreatDoor.Ev
open Go An
def fE(a b:Int):Int:=if a=0 then b else a
def R6(c:Bool)(e:Int):Int:=bif c then 0 else e
def Vd(bf:List Yb)(n:Yb):Int:=fE (Jt n) (R6 (!bf.any λx=>decide (x=n)) 4)
def Vx(t:Int):Bool:=Bo 1 3 t
def Ako(t n:Int):Bool:=if t=1 then inZ n else if t=2 then(n == 0 || n == 1)else if t=3 then Bo 0 1000000000 n else false
def Ew{α :Type}(nm: α->Yb)(f: α->Int):List Yb->List α->Int×List Yb
 |bf,[]=>(0,bf)
 |bf,x::k=>if fE (Vd bf (nm x)) (f x)≠0 then(fE (Vd bf (nm x)) (f x),bf)else Ew nm f (bf++ [nm x]) k
def J2{α :Type}(most:Nat)(nm: α->Yb)(f: α->Int)(bf:List Yb)(l:List α):Int×List Yb:=if most<l.length then(6,bf)else Ew nm f bf l
def Ri{α :Type}(f: α->Int):List α->Int
 | []=>0
 |x::k=>fE (f x) (Ri f k)
def A4t(cy:Int):Option Int->List Eu->Int
 |_,[]=>0
 |p,c::k=>if(Bo 0 (cy-1) c.At && Bo 0 1000 c.Units)=false then 2
  else if(match p with|some q=>decide (c.At<=q)|none=>false)=true then 12 else A4t cy (some c.At) k
def Avq(r:Ak):Int:=if r.bA.length=0 then R6 (r.dA == 0) 1 else if 20<r.bA.length then 6 else if Bo 1 1000000000 r.dA=false then 2 else A4t r.dA none r.bA
def Bj3(s:Aa)(f:N7):Int:=if f.dG.size=0 then R6 (Ahl f.Up U9 && Ahl f.Down U9) 1 else if s.aZ.any (λx=>decide (x=f.dG))=false then 5 else fE (Ap7 f.Up) (Ap7 f.Down)
def Bf3(s:Aa)(r:Ak):Int:=fE (R6 (Bo 0 1000 r.Units) 2) (fE (Avq r) (Bj3 s r.bS))
def Avv(x:Au):Int:=fE (R6 (Bo 1 1000 x.Room) 2) (R6 (Bo 1 3 x.dM) 1)
def A4p(x:Bg):Int:=R6 (Bo 1 1000 x.Length && Bo 1 1000 x.Step) 2
def Xx(v:Aw):Int:=fE (R6 (Vx v.bO) 1) (R6 (Ako v.bO v.N) 2)
def Ax1(r:Am):Int:=if 6<r.aJ.length\/16<r.aJ.length+r.bC.length then 6 else fE (Ew (λf:Ba=>f.aF) (λf=>R6 (Vx f.bO) 1) [] (r.aJ++r.bC)).1 (A0n r.bE)
def A0k(s:Aa)(d:Bv):Int:=match s.aD.find? λr=>decide (r.aF=d.dJ) with
 |none=>5
 |some r=>if d.aP.length≠r.aJ.length then 8 else if((r.aJ.zip d.aP).all λp=>Ako p.1.bO p.2)=false then 2
  else R6 (Bo 0 1000000000 d.At && Bo 0 1000000000 d.Every && Bo 0 1000000000 d.Until && (d.Every != 0 || d.Until == 0)) 2
def Ahp(w:Yb):Int:=
 if w=⟨#[99,114,101,97,116,101,100]⟩\/w=⟨#[101,110,100,101,100]⟩\/w=⟨#[105,110,115,105,100,101]⟩then 1
 else if w=⟨#[115,116,111,114,101,100]⟩\/w=⟨#[101,110,116,101,114,101,100]⟩\/w=⟨#[108,101,102,116]⟩then 2
 else if w=⟨#[99,111,117,110,116,101,100]⟩then 3 else 0
def A1g(t:Bd):Int:=R6 (Bo (-1000) 1000 t.cZ && t.cZ != 0) 2
def Hv(s:Aa)(t:Bd):Int:=
 if Ahp t.aO=0 then 1
 else if(if Ahp t.aO=1 then s.aD.any (λr=>decide (r.aF=t.aF))else if Ahp t.aO=2 then s.aM.any (λx=>decide (x.aF=t.aF))else s.bD.any (λx=>decide (x=t.aF)))=false then 5
 else A1g t
def Se(s:Aa)(t:Bd):Int:=
 if Ahp t.aO=0 then 1
 else if b0 s t.aF≠(if Ahp t.aO=1 then Zw else if Ahp t.aO=2 then Ajf else Aje)then 5
 else A1g t
def A2a(tm:Bd->Int)(l:Bh):Int:=fE (R6 (decide (0<l.bV.length)) 7) (fE (R6 (decide (l.bV.length<=8)) 6) (fE (Ri tm l.bV) (R6 (inZ l.Total) 2)))
def Mh(p:Int×List Yb)(f:List Yb->Int×List Yb):Int×List Yb:=if p.1≠0 then p else f p.2
def txE(bf:List Yb)(l:List Yb):Int×List Yb:=J2 32 (λx:Yb=>x) (λ_=>0) bf l
def Ao8(s:Aa):Int×List Yb:=
 Mh (Mh (Mh (Mh (Mh (Mh (Mh (Mh (Mh (J2 32 (λx:Aw=>x.aF) Xx [] s.bX)
  λb=>J2 32 (λx:Ak=>x.aF) (Bf3 s) b s.aG) λb=>J2 32 (λx:Au=>x.aF) Avv b s.aM)
  λb=>J2 32 (λx:Bg=>x.aF) A4p b s.bL) λb=>txE b s.bJ) λb=>txE b s.aZ) λb=>txE b s.bH)
  λb=>txE b s.bP) λb=>txE b s.bD) λb=>J2 16 (λx:Am=>x.aF) Ax1 b s.aD
def Ax5(s:Aa):Int:=if 32<s.bZ.length then 6 else Ri (A0k s) s.bZ
def Age(tm:Aa->Bd->Int)(s:Aa):Int:=fE (Ao8 s).1 (fE (Ax5 s) (J2 32 (λl:Bh=>l.aF) (A2a (tm s)) [] s.Laws).1)
def Beu(m:Aj)(seen:List B9)(l:B9):Int:=
 if(m.aA.any (λd=>decide (d.aF=l.aV)) && m.aA.any (λd=>decide (d.aF=l.To)))=false then 5
 else if l.aV=l.To then 1 else if Bo 1 1000000000 l.bU=false then 2
 else R6 (!seen.any λx=>decide (x.aV=l.aV) && decide (x.To=l.To)) 4
def Ag2(m:Aj):List B9->List B9->Int
 |_,[]=>0
 |seen,l::k=>fE (Beu m seen l) (Ag2 m (seen++ [l]) k)
def A5g(m:Aj):Int:=if 32<m.aH.length then 6 else Ag2 m [] m.aH
def Alu(tm:Aa->Bd->Int)(m:Aj):Int:=
 fE (Jt m.aF) (fE (J2 32 (λx:Aw=>x.aF) Xx [] m.aJ).1 (fE (R6 (decide (0<m.aA.length)) 7)
  (fE (J2 16 (λd:Aa=>d.aF) (Age tm) [] m.aA).1 (A5g m))))
theorem B1u{a b:Int} :fE a b=0↔a=0/\b=0:=by
 unfold fE;by_cases h:a=0
 ·rw[if_pos h];simp[h]
 ·rw[if_neg h];simp[h]
theorem H8(b:Int):fE 0 b=b:=rfl
theorem Gk{a b:Int}(h:a≠0):fE a b=a:=if_neg h
theorem B92{c:Bool}{e:Int}(he:e≠0):R6 c e=0↔c=true:=by cases c<;>simp[R6,he]
theorem B9c{bf:List Yb}{n:Yb}(h:Vd bf n=0):n∉bf:=by
 have h2:=(B1u.1 h).2;rw[B92 (by decide)]at h2;intro hm;have:(bf.any λx=>decide (x=n))=true:=List.any_eq_true.2 ⟨n,hm,by simp⟩;rw[this]at h2;cases h2
def Exd(b:List Yb)(x:Int×List Yb)(l:List Yb):Prop:=x.1=0->x.2=b++l/\(b.Nodup->x.2.Nodup)
theorem A4y{α :Type}(nm: α->Yb)(f: α->Int):∀(l:List α) (b:List Yb),Exd b (Ew nm f b l) (l.map nm)
 | [],b=>λ_=>⟨by simp[Ew],λh=>h⟩
 |x::k,b=>by
  intro h;rw[Ew]at h ⊢;by_cases hz:fE (Vd b (nm x)) (f x)=0
  ·rw[if_neg (by simp[hz])]at h ⊢;obtain⟨h1,h2⟩:=A4y nm f k (b++ [nm x]) h;have hn:=B9c (B1u.1 hz).1;refine⟨by rw[h1];simp,λhb=>h2 ?_⟩;rw[List.nodup_append];refine⟨hb,by simp,?_⟩;intro a ha c hc hac;rw[List.mem_singleton]at hc;subst hc;subst hac
   exact hn ha
  ·rw[if_pos (by simpa using hz)]at h;exact absurd h hz
theorem Amv{α :Type}(most:Nat)(nm: α->Yb)(f: α->Int)(b:List Yb)(l:List α):Exd b (J2 most nm f b l) (l.map nm):=by
 intro h;unfold J2 at h ⊢;by_cases hm:most<l.length
 ·rw[if_pos hm]at h;exact absurd h (by show¬((6:Int)=0);decide)
 ·rw[if_neg hm]at h ⊢;exact A4y nm f l b h
theorem Abo{b l1 l2:List Yb}{p:Int×List Yb}{f:List Yb->Int×List Yb}(h1:Exd b p l1)(h2:∀c,Exd c (f c) l2):Exd b (Mh p f) (l1++l2):=by
 intro h;unfold Mh at h ⊢;by_cases hp:p.1=0
 ·rw[if_neg (by simp[hp])]at h ⊢;obtain⟨e1,n1⟩:=h1 hp;obtain⟨e2,n2⟩:=h2 p.2 h;exact⟨by rw[e2,e1,List.append_assoc],λhb=>n2 (n1 hb)⟩
 ·rw[if_pos (by simpa using hp)]at h;exact absurd h hp
theorem A65(b l:List Yb):Exd b (txE b l) l:=by
 have:=Amv 32 (λx:Yb=>x) (λ_=>0) b l;rw[List.map_id']at this;exact this
theorem Blt(s:Aa):Exd [] (Ao8 s) (s.bX.map (·.aF)++s.aG.map (·.aF)++s.aM.map (·.aF)++s.bL.map (·.aF)++s.bJ++s.aZ++s.bH++s.bP++s.bD++s.aD.map (·.aF)):=
 Abo (Abo (Abo (Abo (Abo (Abo (Abo (Abo (Abo (Amv _ _ _ _ _) λ_=>Amv _ _ _ _ _) λ_=>Amv _ _ _ _ _) λ_=>Amv _ _ _ _ _)
  λ_=>A65 _ _) λ_=>A65 _ _) λ_=>A65 _ _) λ_=>A65 _ _) λ_=>A65 _ _) λ_=>Amv _ _ _ _ _
def Uni(s:Aa):Prop:=(s.bX.map (·.aF)++s.aG.map (·.aF)++s.aM.map (·.aF)++s.bL.map (·.aF)++s.bJ++s.aZ++s.bH++s.bP++s.bD++s.aD.map (·.aF)).Nodup
theorem Blu{s:Aa}(h:(Ao8 s).1=0):Uni s:=by
 obtain⟨h1,h2⟩:=Blt s h;have:=h2 List.nodup_nil;rw[h1,List.nil_append]at this;exact this
theorem B36{a b:List Yb}{n:Yb}(h:(a++b).Nodup)(hn:n∈b):n∉a:=λha=>(List.nodup_append.1 h).2.2 n ha n hn rfl
theorem Be4{a b:List Yb}(h:(a++b).Nodup):a.Nodup:=(List.nodup_append.1 h).1
theorem Bg3{α :Type}(nm: α->Yb)(l:List α)(n:Yb):(l.any λx=>decide (nm x=n))=true↔n∈l.map nm:=by
 rw[List.any_eq_true,List.mem_map];exact⟨λ⟨x,h1,h2⟩=>⟨x,h1,of_decide_eq_true h2⟩,λ⟨x,h1,h2⟩=>⟨x,h1,decide_eq_true h2⟩⟩
theorem Bno(l:List Yb)(n:Yb):(l.any λx=>decide (n=x))=true↔n∈l:=by
 rw[List.any_eq_true];exact⟨λ⟨x,h1,h2⟩=>by rw[of_decide_eq_true h2];exact h1,λh=>⟨n,h,by simp⟩⟩
theorem Aem{α :Type}(nm: α->Yb)(l:List α)(n:Yb)(h:n∉l.map nm):(l.any λx=>decide (nm x=n))=false:=Bool.eq_false_iff.2 λhh=>h ((Bg3 nm l n).1 hh)
theorem Ahy(l:List Yb)(n:Yb)(h:n∉l):(l.any λx=>decide (n=x))=false:=Bool.eq_false_iff.2 λhh=>h ((Bno l n).1 hh)
theorem neK{a b:Yb}(h:decide (a=b)=false)(i:Int):(a,i).1≠b:=of_decide_eq_false h
theorem Bbh{s:Aa}(hu:Uni s)(n:Yb):decide (b0 s n=Zw)=s.aD.any λx=>decide (x.aF=n):=by
 cases h10:s.aD.any λx=>decide (x.aF=n) with
 |true=>
  have hm:=B36 hu ((Bg3 _ _ _).1 h10);simp only[List.mem_append,not_or]at hm;obtain⟨⟨⟨⟨⟨⟨⟨⟨a1,a2⟩,a3⟩,a4⟩,a5⟩,a6⟩,a7⟩,a8⟩,a9⟩:=hm;simp only[b0,Asp,Aem _ _ _ a1,Aem _ _ _ a2,Aem _ _ _ a3,Aem _ _ _ a4,Ahy _ _ a5,Ahy _ _ a6,Ahy _ _ a7,Ahy _ _ a8,Ahy _ _ a9,h10,cond_false,cond_true,decide_true]
 |false=>
  apply decide_eq_false;unfold b0 Asp;rw[h10];simp only[cond_false]
  repeat' (refine(?_:Prod.fst (bif _ then _ else _)≠_);rw[Bool.cond_eq_ite];split;(· exact neK rfl _))
  exact neK rfl _
theorem Bhy{s:Aa}(hu:Uni s)(n:Yb):decide (b0 s n=Ajf)=s.aM.any λx=>decide (x.aF=n):=by
 cases h10:s.aM.any λx=>decide (x.aF=n) with
 |true=>
  have hm:=B36 (Be4 (Be4 (Be4 (Be4 (Be4 (Be4 (Be4 hu))))))) ((Bg3 _ _ _).1 h10);simp only[List.mem_append,not_or]at hm;obtain⟨a1,a2⟩:=hm;simp only[b0,Asp,Aem _ _ _ a1,Aem _ _ _ a2,h10,cond_false,cond_true,decide_true]
 |false=>
  apply decide_eq_false;unfold b0 Asp;rw[h10];simp only[cond_false]
  repeat' (refine(?_:Prod.fst (bif _ then _ else _)≠_);rw[Bool.cond_eq_ite];split;(· exact neK rfl _))
  exact neK rfl _
theorem Bhx{s:Aa}(hu:Uni s)(n:Yb):decide (b0 s n=Aje)=s.bD.any λx=>decide (x=n):=by
 have e:(s.bD.any λx=>decide (x=n))=s.bD.any λx=>decide (n=x):=by
  congr 1;funext x;exact decide_eq_decide.2 ⟨Eq.symm,Eq.symm⟩
 rw[e];cases h10:s.bD.any λx=>decide (n=x) with
 |true=>
  have hm:=B36 (Be4 hu) ((Bno _ _).1 h10);simp only[List.mem_append,not_or]at hm;obtain⟨⟨⟨⟨⟨⟨⟨a1,a2⟩,a3⟩,a4⟩,a5⟩,a6⟩,a7⟩,a8⟩:=hm;simp only[b0,Asp,Aem _ _ _ a1,Aem _ _ _ a2,Aem _ _ _ a3,Aem _ _ _ a4,Ahy _ _ a5,Ahy _ _ a6,Ahy _ _ a7,Ahy _ _ a8,h10,cond_false,cond_true,decide_true]
 |false=>
  apply decide_eq_false;unfold b0 Asp;rw[h10];simp only[cond_false]
  repeat' (refine(?_:Prod.fst (bif _ then _ else _)≠_);rw[Bool.cond_eq_ite];split;(· exact neK rfl _))
  exact neK rfl _
theorem Bym{s:Aa}(hu:Uni s)(t:Bd):Hv s t=Se s t:=by
 unfold Hv Se;have h1:=Bbh hu t.aF;have h2:=Bhy hu t.aF;have h3:=Bhx hu t.aF;by_cases hw:Ahp t.aO=0
 ·rw[if_pos hw,if_pos hw]
 ·rw[if_neg hw,if_neg hw];by_cases w1:Ahp t.aO=1
  ·simp only[w1,if_true];rw[<-h1];by_cases hk:b0 s t.aF=Zw<;>simp[hk]
  ·by_cases w2:Ahp t.aO=2
   ·simp only[w1,w2,if_true,if_false];rw[<-h2];by_cases hk:b0 s t.aF=Ajf<;>simp[hk]
   ·simp only[w1,w2,if_false];rw[<-h3];by_cases hk:b0 s t.aF=Aje<;>simp[hk]
theorem Bye(s:Aa):Age Hv s=Age Se s:=by
 unfold Age;by_cases h:(Ao8 s).1=0
 ·have:Hv s=Se s:=funext (Bym (Blu h));rw[this]
 ·rw[Gk h,Gk h]
theorem Bpl(m:Aj):Alu Hv m=Alu Se m:=by
 have:Age Hv=Age Se:=funext Bye;unfold Alu;rw[this]
def tr{α :Type}(ks:List α):List Bool:=List.replicate ks.length true
theorem Ax8{α :Type}(ks:List α)(n: α):tr ks++ [true]=tr (ks++ [n]):=by
 unfold tr;rw[List.length_append,List.length_singleton,List.replicate_succ']
def nx(ks:List Yb)(n:Yb):List Yb:=if Vd ks n=0 then ks++ [n]else ks
def B1s(X:Option Int)(n:Yb)(ks:List Yb)(vs:List Bool):Option (Int×List Yb×List Bool):=
 X.bind λr=>bif r != 0 then some (r,ks,vs)else fko (ks.findIdx? λb=>n == b)
  (λi=>bif vs.getD i default then some (4,ks,vs)else fko (ks.findIdx? λb=>n == b) (λj=>some (0,ks,vs.set j true)) (some (0,ks++ [n],vs++ [true])))
  (fko (ks.findIdx? λb=>n == b) (λj=>some (0,ks,vs.set j true)) (some (0,ks++ [n],vs++ [true])))
theorem Bc2{α :Type}{ks:List α}{i:Nat}(h:i<ks.length):(tr ks).getD i default=true:=by
 unfold tr;rw[List.getD_eq_getElem?_getD,List.getElem?_replicate,if_pos h];rfl
theorem Amx{α :Type}{ks:List α}{p: α->Bool}(h:ks.findIdx? p=none):ks.any p=false:=by
 rw[List.findIdx?_eq_none_iff]at h;rw[List.any_eq_false];intro x hx;simp[h x hx]
theorem Aif{α :Type}{ks:List α}{p: α->Bool}{i:Nat}(h:ks.findIdx? p=some i):ks.any p=true:=by
 obtain⟨h1,h2,_⟩:=List.findIdx?_eq_some_iff_getElem.1 h;exact List.any_eq_true.2 ⟨_,List.getElem_mem h1,h2⟩
theorem A29(n b:Yb):(n == b)=decide (b=n):=by
 show(n.data == b.data)=_
 rw[Bool.eq_iff_iff,beq_iff_eq,decide_eq_true_iff];constructor
 ·intro h;cases n;cases b;cases h;rfl
 ·rintro rfl;rfl
theorem Bty{X:Option Int}{n:Yb}(ks:List Yb)(h:X=some (Jt n)):B1s X n ks (tr ks)=some (Vd ks n,nx ks n,tr (nx ks n)):=by
 subst h;unfold B1s nx Vd;rw[Co];by_cases h0:Jt n=0
 ·have e:(λb=>n == b)=λx:Yb=>decide (x=n):=funext λb=>A29 n b;rw[h0,e];cases hf:ks.findIdx? λx=>decide (x=n) with
  |none=>
   rw[Amx hf];simp only[fko,fE,R6,Bool.not_false,cond_true,if_true,Ax8 ks n];rfl
  |some i=>
   rw[Aif hf];obtain⟨h1,_⟩:=List.findIdx?_eq_some_iff_getElem.1 hf;simp only[fko,Bc2 h1];rfl
 ·rw[Xv h0,cond_true,Gk h0,if_neg h0]
def Out(X:Option (Int×List Yb×List Bool))(p:Int×List Yb):Prop:=∃ks,X=some (p.1,ks,tr ks)/\(p.1=0->ks=p.2)
theorem Bn9{α :Type}{nm: α->Yb}{f: α->Int}{lq:List α->Nat->Int->List Yb->List Bool->Option (Nat×(Int×Int×List Yb×List Bool))}{bd: α->List Yb->List Bool->Option (Int×List Yb×List Bool)}
  (hn:∀i v ks vs,lq [] i v ks vs=some (1,(v,(i:Int),ks,vs)))
  (hc:∀x k i v ks vs,lq (x::k) i v ks vs=(bd x ks vs).bind λo=>bif o.1 != 0 then some (0,(o.1,(i:Int),o.2.1,o.2.2))else lq k (i+1) v o.2.1 o.2.2):
  ∀(k:List α) (i:Nat) (v:Int) (ks:List Yb),(∀x∈k,∀ks,∃ks',bd x ks (tr ks)=some (fE (Vd ks (nm x)) (f x),ks',tr ks')/\(fE (Vd ks (nm x)) (f x)=0->ks'=ks++ [nm x]))->
  ∃j ks',lq k i v ks (tr ks)=some (if(Ew nm f ks k).1=0 then(1,(v,(j,ks',tr ks'))) else(0,((Ew nm f ks k).1,(j,ks',tr ks'))))/\((Ew nm f ks k).1=0->ks'=(Ew nm f ks k).2):=by
 intro k
 induction k with
 |nil=>intro i v ks _;exact⟨i,ks,by rw[hn,Ew];rfl,λ_=>rfl⟩
 |cons x k ih=>
  intro i v ks h;obtain⟨ks1,hb,hz⟩:=h x (by simp) ks;rw[hc,hb,Co];by_cases h0:fE (Vd ks (nm x)) (f x)=0
  ·have:=hz h0;subst this
   have e:Ew nm f ks (x::k)=Ew nm f (ks++ [nm x]) k:=by rw[Ew,if_neg (by simp[h0])]
   obtain⟨j,ks',hj,he⟩:=ih (i+1) v (ks++ [nm x]) λy hy=>h y (by simp[hy]);rw[e];exact⟨j,ks',by simp only[h0];exact hj,he⟩
  ·have e:Ew nm f ks (x::k)=(fE (Vd ks (nm x)) (f x),ks):=by rw[Ew,if_pos h0]
   rw[e];exact⟨i,ks1,by simp only[Xv h0,cond_true,if_neg h0],λhh=>absurd hh h0⟩
def Byv(most:Int)(n:Nat)(ks:List Yb)(vs:List Bool)(X:Option (Nat×(Int×Int×List Yb×List Bool))):Option (Int×List Yb×List Bool):=
 bif decide ((n:Int)>most)then some (6,ks,vs)else X.bind λo=>Apw o.1 [some (o.2.1,o.2.2.2.1,o.2.2.2.2),some (0,o.2.2.2.1,o.2.2.2.2)]
theorem q9{α :Type}{nm: α->Yb}{f: α->Int}{lq:List α->Nat->Int->List Yb->List Bool->Option (Nat×(Int×Int×List Yb×List Bool))}{bd: α->List Yb->List Bool->Option (Int×List Yb×List Bool)}
  (hn:∀i v ks vs,lq [] i v ks vs=some (1,(v,(i:Int),ks,vs)))
  (hc:∀x k i v ks vs,lq (x::k) i v ks vs=(bd x ks vs).bind λo=>bif o.1 != 0 then some (0,(o.1,(i:Int),o.2.1,o.2.2))else lq k (i+1) v o.2.1 o.2.2)
  (most:Nat)(l:List α)(v:Int)(ks:List Yb)(X:Option (Nat×(Int×Int×List Yb×List Bool)))(hX:X=lq l 0 v ks (tr ks))
  (hb:∀x∈l,∀ks,∃ks',bd x ks (tr ks)=some (fE (Vd ks (nm x)) (f x),ks',tr ks')/\(fE (Vd ks (nm x)) (f x)=0->ks'=ks++ [nm x])):
  Out (Byv most l.length ks (tr ks) X) (J2 most nm f ks l):=by
 unfold Out Byv J2;by_cases hm:most<l.length
 ·rw[decide_eq_true (show(l.length:Int)>most by omega),if_pos hm];exact⟨ks,rfl,λ_=>rfl⟩
 ·rw[decide_eq_false (show¬(l.length:Int)>most by omega),if_neg hm,cond_false,hX];obtain⟨j,ks',hj,he⟩:=Bn9 hn hc l 0 v ks hb;refine⟨ks',?_,he⟩;rw[hj,Co];by_cases h0:(Ew nm f ks l).1=0
  ·rw[if_pos h0,S5,h0]
  ·rw[if_neg h0,H4]
def Gl(e:Int)(X:Option (Int×List Yb×List Bool)):Prop:=∃a b,X=some (e,a,b)
theorem B9y{X:Option (Int×List Yb×List Bool)}{p:Int×List Yb}{e:Int}{G:Int×List Yb×List Bool->Option (Int×List Yb×List Bool)}(hX:Out X p)
  (hG:∀e a b,e≠0->G (e,a,b)=some (e,a,b))(h:∀ks,Gl e (G (0,ks,tr ks))):Gl (fE p.1 e) (X.bind G):=by
 obtain⟨ks,rfl,h0⟩:=hX;rw[Co];by_cases hp:p.1=0
 ·rw[hp,H8];exact h ks
 ·rw[hG _ _ _ hp,Gk hp];exact⟨_,_,rfl⟩
theorem Ax6{X:Option (Int×List Yb×List Bool)}{p:Int×List Yb}{e:Int}{f:List Yb->Int×List Yb}{G:Int×List Yb×List Bool->Option (Int×List Yb×List Bool)}(hX:Out X p)
  (hG:∀e a b,e≠0->G (e,a,b)=some (e,a,b))(h:∀ks,Gl (fE (f ks).1 e) (G (0,ks,tr ks))):Gl (fE (Mh p f).1 e) (X.bind G):=by
 obtain⟨ks,rfl,h0⟩:=hX;rw[Co];unfold Mh;by_cases hp:p.1=0
 ·rw[if_neg (by simp[hp]),<-h0 hp,hp];exact h ks
 ·rw[if_pos hp,hG _ _ _ hp,Gk hp];exact⟨_,_,rfl⟩
theorem nzE{e:Int}(h:e≠0)(a:List Yb)(b:List Bool)(Y:Option (Int×List Yb×List Bool)):(bif e != 0 then some (e,a,b)else Y)=some (e,a,b):=by rw[Xv h];rfl
theorem A64(p:Int×List Yb)(f g:List Yb->Int×List Yb):Mh (Mh p f) g=Mh p λb=>Mh (f b) g:=by
 unfold Mh;by_cases hp:p.1=0
 ·simp[hp]
 ·simp[hp]
theorem Bdn{α :Type}{f: α->Int}{lq:List α->Nat->Int->Option (Nat×(Int×Int))}{bd: α->Option Int}
  (hn:∀i v,lq [] i v=some (1,(v,(i:Int))))
  (hc:∀x k i v,lq (x::k) i v=(bd x).bind λo=>bif o != 0 then some (0,(o,(i:Int)))else lq k (i+1) v):
  ∀(k:List α) (i:Nat) (v:Int),(∀x∈k,bd x=some (f x))->∃j,lq k i v=some (if Ri f k=0 then(1,(v,j)) else(0,(Ri f k,j))):=by
 intro k
 induction k with
 |nil=>intro i v _;exact⟨i,by rw[hn];rfl⟩
 |cons x k ih=>
  intro i v h;obtain⟨j,hj⟩:=ih (i+1) v λy hy=>h y (by simp[hy]);rw[hc,h x (by simp),Co,Ri];by_cases h0:f x=0
  ·exact⟨j,by rw[h0,H8];exact hj⟩
  ·exact⟨i,by rw[Gk h0,Xv h0,cond_true,if_neg h0]⟩
def B7c(most:Int)(n:Nat)(X:Option (Nat×(Int×Int))):Option Int:=bif decide ((n:Int)>most)then some 6 else X.bind λo=>Apw o.1 [some o.2.1,some 0]
theorem Bjs{α :Type}{f: α->Int}{lq:List α->Nat->Int->Option (Nat×(Int×Int))}{bd: α->Option Int}
  (hn:∀i v,lq [] i v=some (1,(v,(i:Int))))
  (hc:∀x k i v,lq (x::k) i v=(bd x).bind λo=>bif o != 0 then some (0,(o,(i:Int)))else lq k (i+1) v)
  (most:Nat)(l:List α)(v:Int)(X:Option (Nat×(Int×Int)))(hX:X=lq l 0 v)(hb:∀x∈l,bd x=some (f x)):B7c most l.length X=some (if most<l.length then 6 else Ri f l):=by
 unfold B7c;by_cases hm:most<l.length
 ·rw[decide_eq_true (show(l.length:Int)>most by omega),if_pos hm];rfl
 ·rw[decide_eq_false (show¬(l.length:Int)>most by omega),if_neg hm,cond_false,hX];obtain⟨j,hj⟩:=Bdn hn hc l 0 v hb;rw[hj,Co];by_cases h0:Ri f l=0
  ·rw[if_pos h0,S5,h0]
  ·rw[if_neg h0,H4]
theorem Hr(L:Nat)(x lo hi:Int):Be L x lo hi=some (Bo lo hi x):=by
 simp only[Aiy,Be,aN,aB,Du,ge_iff_le,Bo]
theorem Ajn(L:Nat)(t:Int):Ju L t=some (Vx t):=by
 simp only[Alk,Ju,aN,aB,Du,ge_iff_le,Vx,Bo]
theorem Alz(L:Nat)(t n:Int):Sl L t n=some (Ako t n):=by
 simp only[Aoz,Sl,aN,aB,Az5,Hr,Co,Hu,Ako];by_cases h1:t=1
 ·simp[h1]
 ·by_cases h2:t=2
  ·simp[h2]
  ·by_cases h3:t=3
   ·simp[h3]
   ·simp[h1,h2,h3,beq_false_of_ne h1,beq_false_of_ne h2,beq_false_of_ne h3]
theorem Xp(L:Nat)(l:List Yb)(s:Yb)(hl:l.length<=maxLen)(hL:maxLen<L):Bx L l s=some (l.any λx=>decide (x=s)):=by
 have e:(λx:Yb=>decide (s=x))=λx=>decide (x=s):=funext λx=>decide_eq_decide.2 ⟨Eq.symm,Eq.symm⟩;simp only[P7,Bx,aN,aB,Apo L l s hl (by omega),Co,Awz,e]
def pvA(l:List Eu)(i:Nat):Option Int:=if i=0 then none else some (l.getD (i-1) default).At
def geq(p:Option Int)(a:Int):Bool:=match p with
 |some q=>decide (a<=q)
 |none=>false
theorem A82(cy:Int)(p:Option Int)(c:Eu)(k:List Eu):A4t cy p (c::k)=if(Bo 0 (cy-1) c.At && Bo 0 1000 c.Units)=false then 2 else if geq p c.At=true then 12 else A4t cy (some c.At) k:=rfl
theorem Bkp{β :Type}(l:List Eu)(i:Nat)(hi:i<l.length)(hl:l.length<=maxLen)(a:Int)(A B:Option β):
  (bif decide ((i:Int)>0) then(if(0:Int)<=Bs ((i:Int)-1) then(if Bs ((i:Int)-1)<((l.length:Nat):Int) then(bif decide (a<=(l.getD (Int.toNat (Bs ((i:Int)-1))) default).At)then A else B)else none)else none)else B)=if geq (pvA l i) a=true then A else B:=by
 have hM:=Bl;cases i with
 |zero=>rfl
 |succ i=>
  have e:Bs (((i+1:Nat):Int)-1)=(i:Int):=by rw[Bqs (by omega)];omega
  rw[e,decide_eq_true (show((i+1:Nat):Int)>0 by omega),cond_true,if_pos (by omega),if_pos (by omega),toN];have e2:pvA l (i+1)=some (l.getD i default).At:=by unfold pvA;rw[if_neg (by omega),Nat.add_sub_cancel]
  rw[e2];show(bif decide (a<=(l.getD i default).At)then A else B)=if decide (a<=(l.getD i default).At)=true then A else B
  cases decide (a<=(l.getD i default).At)<;>rfl
theorem Bfp{l:List Eu}{i:Nat}{x:Eu}{k:List Eu}(h:l.drop i=x::k):pvA l (i+1)=some x.At:=by
 obtain⟨_,h2,_⟩:=I8 h;unfold pvA;rw[if_neg (by omega),Nat.add_sub_cancel,h2]
theorem Avm(L:Nat)(r:Ak)(hl:r.bA.length<=maxLen)(hc:Bs (r.dA-1)=r.dA-1):∀(k:List Eu) (i:Nat) (v:Int),r.bA.drop i=k->
  ∃j,Ds L r k i v=some (if A4t r.dA (pvA r.bA i) k=0 then(1,(v,j)) else(0,(A4t r.dA (pvA r.bA i) k,j))):=by
 intro k
 induction k with
 |nil=>intro i v _;exact⟨i,rfl⟩
 |cons x k ih=>
  intro i v h;obtain⟨hi,hx,hk⟩:=I8 h;obtain⟨j,hj⟩:=ih (i+1) v hk;rw[Bfp h]at hj;rw[Ds];simp only[Hr,Co,hc,Bkp r.bA i hi hl,hj,A82];rcases Bool.eq_false_or_eq_true (Bo 0 (r.dA-1) x.At)with hA|hA
  ·rcases Bool.eq_false_or_eq_true (Bo 0 1000 x.Units)with hB|hB
   ·rcases Bool.eq_false_or_eq_true (geq (pvA r.bA i) x.At)with hC|hC
    ·exact⟨i,by simp[hA,hB,hC]⟩
    ·exact⟨j,by simp[hA,hB,hC]⟩
   ·exact⟨i,by simp[hA,hB]⟩
  ·exact⟨i,by simp[hA]⟩
theorem cyc{c:Int}(h:Bo 1 1000000000 c=true):Bs (c-1)=c-1:=by
 unfold Bo at h;rw[Bool.and_eq_true,decide_eq_true_iff,decide_eq_true_iff]at h;exact H7 (by omega) (by omega)
theorem A93(r:Ak):Avq r=if r.bA.length=0 then R6 (r.dA == 0) 1 else if 20<r.bA.length then 6 else if Bo 1 1000000000 r.dA=false then 2 else A4t r.dA none r.bA:=rfl
theorem Bwn{α :Type}(l:List α):((l.length:Int) == 0)=decide (l.length=0):=by
 by_cases h:l.length=0
 ·simp[h]
 ·rw[decide_eq_false h,beq_false_of_ne (by omega)]
theorem gtN(n m:Nat):decide ((n:Int)>(m:Int))=decide (m<n):=decide_eq_decide.2 (by omega)
theorem Axv(L:Nat)(r:Ak)(hl:r.bA.length<=maxLen)(hL:maxLen<L):V2 L r=some (Avq r):=by
 have e20:decide ((r.bA.length:Int)>20)=decide (20<r.bA.length):=gtN _ 20;simp only[Amp,Rb,Q0,V2,Rb,Q0,aN,aB,Hr,Co,Bwn,e20,A93];by_cases h0:r.bA.length=0
 ·rw[decide_eq_true h0,if_pos h0,cond_true];unfold R6;by_cases hz:r.dA=0
  ·simp[hz]
  ·simp[Xv hz,beq_false_of_ne hz]
 ·rw[decide_eq_false h0,if_neg h0,cond_false];by_cases h2:20<r.bA.length
  ·rw[decide_eq_true h2,if_pos h2];rfl
  ·rw[decide_eq_false h2,if_neg h2,cond_false];cases hr:Bo 1 1000000000 r.dA with
   |false=>rfl
   |true=>
    obtain⟨j,hj⟩:=Avm L r hl (cyc hr) r.bA 0 0 rfl;rw[Asc L r L hl (by omega),hj];simp only[Bool.not_true,cond_false,Co,Bool.true_eq_false,if_false];have e:pvA r.bA 0=none:=rfl;rw[e];by_cases hz:A4t r.dA none r.bA=0
    ·rw[if_pos hz,S5,hz]
    ·rw[if_neg hz,H4]
theorem A5y{d:Bk}(h:L9 d<=1048576):okD d:=by
 unfold L9 at h;have h1:=I3 (g:=λ_:Int=>1) (l:=d.aW) λ_=>Nat.le_refl 1;have h2:=I3 (g:=λ_:Int=>1) (l:=d.aU) λ_=>Nat.le_refl 1;exact⟨by omega,by omega⟩
theorem Beb(s:Aa)(f:N7):Bj3 s f=if f.dG.size=0 then R6 (Ahl f.Up U9 && Ahl f.Down U9) 1 else if s.aZ.any (λx=>decide (x=f.dG))=false then 5 else fE (Ap7 f.Up) (Ap7 f.Down):=rfl
theorem Axu(L:Nat)(s:Aa)(f:N7)(hs:s.aZ.length<=maxLen)(hb:Ou f<=1048576)(hL:maxLen<L):V1 L s f=some (Bj3 s f):=by
 unfold Ou at hb;have h1:okD f.Up:=A5y (by omega);have h2:okD f.Down:=A5y (by omega);simp only[Acz,V1,aN,aB,Iu,A3t,Ah8 L f.Up _ h1 hL,Ah8 L f.Down _ h2 hL,Ae0 L f.Up h1 hL,Ae0 L f.Down h2 hL,Xp L _ _ hs hL,Co,Beb];have hz:(⟨0,0,0,0,[],[]⟩:Bk)=U9:=rfl;rw[hz];by_cases h0:f.dG.size=0
 ·simp only[h0,decide_true,cond_true,if_true];cases Ahl f.Up U9<;>cases Ahl f.Down U9<;>rfl
 ·simp only[h0,decide_false,cond_false,if_false];cases s.aZ.any (λx=>decide (x=f.dG)) with
  |false=>rfl
  |true=>
   simp only[Bool.not_true,cond_false,Bool.true_eq_false,if_false];by_cases hd:Ap7 f.Up=0
   ·simp[hd,H8]
   ·simp[Xv hd,Gk hd]
theorem Bid(L:Nat)(a b:List Ba)(ha:a.length<=1048576)(hb:b.length<=1048576)(hL:maxLen<L):I0 L [a,b]=some (a++b):=by
 have hM:=Bl;have e1:∀n:Nat,n<=1048576->Bs (0+(n:Int))=(n:Int):=λn hn=>by rw[Int.zero_add];exact H7 (by omega) (by omega)
 have e2:Bs ((a.length:Int)+(b.length:Int))=((a.length+b.length:Nat):Int):=by rw[H7 (by omega) (by omega)];omega
 simp only[Xo,Lm,Ht,Hs,I0,Lm,Ht,Hs,aN,aB,Af2 L [a,b] L (by simp;omega) (by simp;omega),Af3 L [a,b] L (by simp;omega) (by simp;omega),Dw,Dx,e1 _ ha,e2,Co,H4];rw[decide_eq_false (show¬(a.length:Int)<0 by omega),decide_eq_false (show¬((a.length+b.length:Nat):Int)<0 by omega)];simp only[cond_false,Co,H4,List.nil_append,List.length_nil]
 repeat rw[ifp (by omega)]
 rfl
theorem Alp(L:Nat)(n:Yb)(hs:okS n)(hL:maxLen<L)(ks:List Yb):B1s (Cw L n) n ks (tr ks)=some (Vd ks n,nx ks n,tr (nx ks n)):=
 Bty ks (Nu L n hs (Nat.lt_of_le_of_lt hs hL))
theorem A7m{ks:List Yb}{n:Yb}{e:Int}(h:fE (Vd ks n) e=0):nx ks n=ks++ [n]:=if_pos (B1u.1 h).1
def rtB(L:Nat)(r:Am)(x:Ba)(ks:List Yb)(vs:List Bool):Option (Int×List Yb×List Bool):=
 (I9 L x.aF r x ks vs).bind λo=>bif o.1 != 0 then some o else(Ju L x.bO).bind λr4=>bif !r4 then some (1,o.2.1,o.2.2)else some (0,o.2.1,o.2.2)
theorem Bw9(L:Nat)(fs:List Ba)(r:Am)(x:Ba)(k:List Ba)(i:Nat)(v:Int)(ks:List Yb)(vs:List Bool):
  D7 L fs r (x::k) i v ks vs=(rtB L r x ks vs).bind λo=>bif o.1 != 0 then some (0,(o.1,(i:Int),o.2.1,o.2.2))else D7 L fs r k (i+1) v o.2.1 o.2.2:=by
 rw[D7,rtB];cases I9 L x.aF r x ks vs with
 |none=>rfl
 |some o=>
  simp only[Co];by_cases h0:o.1=0
  ·simp only[h0,bne_self_eq_false,cond_false];cases Ju L x.bO with
   |none=>rfl
   |some b=>cases b<;>rfl
  ·simp only[Xv h0,cond_true,Co]
theorem B4i(L:Nat)(r:Am)(x:Ba)(hx:m8 x)(hL:maxLen<L)(ks:List Yb):
  ∃ks',rtB L r x ks (tr ks)=some (fE (Vd ks x.aF) (R6 (Vx x.bO) 1),ks',tr ks')/\(fE (Vd ks x.aF) (R6 (Vx x.bO) 1)=0->ks'=ks++ [x.aF]):=by
 refine⟨nx ks x.aF,?_,A7m⟩;have e:I9 L x.aF r x ks (tr ks)=some (Vd ks x.aF,nx ks x.aF,tr (nx ks x.aF)):=Alp L x.aF hx.1 hL ks;rw[rtB,e,Co,Ajn,Co];by_cases h0:Vd ks x.aF=0
 ·simp only[h0,H8];cases Vx x.bO<;>rfl
 ·simp only[Xv h0,cond_true,Gk h0]
def Ko:Nat:=maxLen+4194304
theorem Hk{L:Nat}(h:Ko<=L):maxLen<L:=Nat.lt_of_lt_of_le (Nat.lt_add_of_pos_right (by decide)) h
theorem Bj6{L:Nat}{l:List Ad}(hL:Ko<=L)(hb:Dy l<=1048576):Fu L l:=by
 have h1:=Ayo l;refine⟨Nat.lt_of_lt_of_le ?_ hL,hb⟩;unfold Ko;rw[Nat.add_assoc];exact Nat.add_lt_add_left (by omega) _
theorem Bf5(r:Am):Ax1 r=if 6<r.aJ.length\/16<r.aJ.length+r.bC.length then 6 else fE (Ew (λf:Ba=>f.aF) (λf=>R6 (Vx f.bO) 1) [] (r.aJ++r.bC)).1 (A0n r.bE):=rfl
theorem Bf6{r:Am}(hb:Gj r<=1048576):r.aJ.length<=1048576/\r.bC.length<=1048576/\Dy r.bE<=1048576:=by
 unfold Gj at hb;have h1:r.aJ.length<=Ga Ov r.aJ:=I3 λx=>by unfold Ov;omega
 have h2:r.bC.length<=Ga Ov r.bC:=I3 λx=>by unfold Ov;omega
 rw[N8];exact⟨by omega,by omega,by omega⟩
theorem Az3(L:Nat)(r:Am)(hr:Re r)(hb:Gj r<=1048576)(hL:Ko<=L):Yd L r=some (Ax1 r):=by
 have hM:=Bl;obtain⟨b1,b2,b3⟩:=Bf6 hb;have hL':maxLen<L:=Hk hL;have e1:decide ((r.aJ.length:Int)>6)=decide (6<r.aJ.length):=gtN _ 6;have e2:Bs ((r.aJ.length:Int)+(r.bC.length:Int))=((r.aJ.length+r.bC.length:Nat):Int):=by rw[H7 (by omega) (by omega)];omega
 have e3:decide (((r.aJ.length+r.bC.length:Nat):Int)>16)=decide (16<r.aJ.length+r.bC.length):=gtN _ 16;have c1:=Bid L r.aJ r.bC b1 b2 hL';have c2:=A7z (show∀y∈r.bE,Cz y from hr.2.2.2.2) L (Bj6 hL b3);simp only[Ap3,S9,S4,Yd,S9,S4,aN,aB,e1,e2,e3,Hu,Bf5];by_cases h0:6<r.aJ.length\/16<r.aJ.length+r.bC.length
 ·rw[if_pos h0];have:(decide (6<r.aJ.length) || decide (16<r.aJ.length+r.bC.length))=true:=by simpa using h0
  rw[this];rfl
 ·rw[if_neg h0];have:(decide (6<r.aJ.length) || decide (16<r.aJ.length+r.bC.length))=false:=by simpa using h0
  rw[this,cond_false,c1,Co,Ati L _ r L (by simp;omega) (by simp;omega)];obtain⟨j,ks',hj,_⟩:=Bn9 (nm:=λf:Ba=>f.aF) (f:=λf=>R6 (Vx f.bO) 1) (lq:=D7 L (r.aJ++r.bC) r) (bd:=rtB L r) (λ_ _ _ _=>rfl) (Bw9 L _ r) (r.aJ++r.bC) 0 0 [] (λx hx ks=>B4i L r x (by
   rcases List.mem_append.1 hx with h|h
   ·exact hr.2.1.2 x h
   ·exact hr.2.2.1.2 x h) hL' ks)
  have hj':D7 L (r.aJ++r.bC) r (r.aJ++r.bC) 0 0 [] []=_:=hj;rw[hj',Co];by_cases hz:(Ew (λf:Ba=>f.aF) (λf=>R6 (Vx f.bO) 1) [] (r.aJ++r.bC)).1=0
  ·rw[if_pos hz,S5,hz,H8,c2];rfl
  ·rw[if_neg hz,H4,Gk hz]
def Amr(p:List Ba)(a:List Int):Bool:=(p.zip a).all λq=>Ako q.1.bO q.2
theorem A98(s:Aa)(d:Bv):A0k s d=match s.aD.find? λr=>decide (r.aF=d.dJ) with
 |none=>5
 |some r=>if d.aP.length≠r.aJ.length then 8 else if Amr r.aJ d.aP=false then 2
  else R6 (Bo 0 1000000000 d.At && Bo 0 1000000000 d.Every && Bo 0 1000000000 d.Until && (d.Every != 0 || d.Until == 0)) 2:=rfl
theorem A21(L:Nat)(s:Aa)(n:Nat)(d:Bv)(p:List Ba)(hp:(s.aD.getD n default).aJ=p):∀(k:List Int) (i:Nat) (v:Int),i+k.length=p.length->
  ∃j,H3 L s (n:Int) d k i v=some (if Amr (p.drop i) k=true then(1,(v,j)) else(0,(2,j))):=by
 intro k
 induction k with
 |nil=>intro i v _;exact⟨i,by unfold Amr;simp[H3]⟩
 |cons x k ih=>
  intro i v h;rw[List.length_cons]at h;have hi:i<p.length:=by omega
  obtain⟨j,hj⟩:=ih (i+1) v (by omega);rw[H3];simp only[toN,hp,Ll hi,if_true,Alz,Co,hj];have e:Amr (p.drop i) (x::k)=(Ako (p.getD i default).bO x && Amr (p.drop (i+1)) k):=by
   unfold Amr;rw[Ao9 p i hi,List.zip_cons_cons,List.all_cons]
  rw[e];cases Ako (p.getD i default).bO x with
  |false=>exact⟨i,rfl⟩
  |true=>exact⟨j,by simp⟩
theorem A59(L:Nat)(s:Aa)(d:Bv)(hs:s.aD.length<=maxLen)(hd:d.aP.length<=maxLen)(hL:maxLen<L):Tr L s d=some (A0k s d):=by
 have hM:=Bl;simp only[Aty,Xl,W4,Tr,Xl,W4,aN,aB,Ani L s d.dJ hs (by omega),Co,Agc,Aw0,A98,Beg];cases hf:s.aD.findIdx? (λx=>decide (x.aF=d.dJ)) with
 |none=>rfl
 |some i=>
  have hi:=Bo5 hf;simp only[Option.isNone_some,cond_false,d8,nn,if_true,Ll hi,toN,Option.map_some];by_cases hn:d.aP.length=(s.aD.getD i default).aJ.length
  ·rw[if_neg (by simpa using hn)];have:((d.aP.length:Int) != ((s.aD.getD i default).aJ.length:Int))=false:=by rw[hn];simp
   rw[this,cond_false,Axh L s _ d L hd (by omega)];obtain⟨j,hj⟩:=A21 L s i d _ rfl d.aP 0 0 (by omega);rw[hj,Co,List.drop_zero];cases Amr (s.aD.getD i default).aJ d.aP with
   |false=>rfl
   |true=>
    simp only[if_true,S5,Hr,Co,Bool.true_eq_false,if_false];cases Bo 0 1000000000 d.At<;>cases Bo 0 1000000000 d.Every<;>cases Bo 0 1000000000 d.Until<;>try rfl
    by_cases h1:d.Every=0<;>by_cases h2:d.Until=0<;>simp[h1,h2,R6,Xv,beq_false_of_ne]
  ·rw[if_pos (by simpa using hn)];have:((d.aP.length:Int) != ((s.aD.getD i default).aJ.length:Int))=true:=bne_iff_ne.2 (by omega);rw[this];rfl
theorem A6k(L:Nat)(l:List Au)(s:Aa)(t:Bd):∀(k:List Au) (i:Nat) (v:Int),Lj L l s t k i v=some (match k.findIdx? (λx=>x.aF.toList == t.aF.toList) with|some j=>(0,(((i+j:Nat):Int),((i+j:Nat):Int)))|none=>(1,(v,((i+k.length:Nat):Int)))):=by
 intro k
 induction k with
 |nil=>intro i v;rfl
 |cons x k ih=>
  intro i v;rw[Lj,ih,List.findIdx?_cons];cases hc:x.aF.toList == t.aF.toList with
  |true=>simp only[cond_true,if_true];rfl
  |false=>
   simp only[cond_false,if_false,Bool.false_eq_true];cases k.findIdx? (λx=>x.aF.toList == t.aF.toList) with
   |some j=>simp[Nat.add_assoc,Nat.add_comm 1]
   |none=>simp[Nat.add_assoc,Nat.add_comm 1]
theorem Avk(L:Nat)(l:List Au)(s:Aa)(t:Bd)(hl:l.length<=maxLen)(hL:maxLen<L):Eb L l s t=some (d8 (l.findIdx? λx=>decide (x.aF=t.aF))):=by
 simp only[Eb,Aqb,Ahc,aN,aB,Azp L l s t L hl (by omega),A6k,Iu,Co];cases l.findIdx? (λx=>decide (x.aF=t.aF)) with
 |none=>rfl
 |some i=>simp[d8,H4]
theorem Bqj(s:Aa)(t:Bd):Hv s t=if Ahp t.aO=0 then 1
 else if(if Ahp t.aO=1 then s.aD.any (λr=>decide (r.aF=t.aF))else if Ahp t.aO=2 then s.aM.any (λx=>decide (x.aF=t.aF))else s.bD.any (λx=>decide (x=t.aF)))=false then 5
 else A1g t:=rfl
theorem B1l(t:Bd)(b:Bool):(bif !b then some (5:Int)else bif !Bo (-1000) 1000 t.cZ || t.cZ == 0 then some 2 else some 0)=some (if b=false then 5 else A1g t):=by
 cases b with
 |false=>rfl
 |true=>
  unfold A1g R6;simp only[Bool.not_true,cond_false,Bool.true_eq_false,if_false];by_cases h:t.cZ=0<;>cases Bo (-1000) 1000 t.cZ<;>simp[h,Xv,beq_false_of_ne]
def wd1:Yb:=⟨#[99,114,101,97,116,101,100]⟩
theorem Bzr:(⟨#[99,114,101,97,116,101,100]⟩:Yb)=wd1:=rfl
def wd2:Yb:=⟨#[101,110,100,101,100]⟩
theorem Bzs:(⟨#[101,110,100,101,100]⟩:Yb)=wd2:=rfl
def wd3:Yb:=⟨#[105,110,115,105,100,101]⟩
theorem Bzt:(⟨#[105,110,115,105,100,101]⟩:Yb)=wd3:=rfl
def wd4:Yb:=⟨#[115,116,111,114,101,100]⟩
theorem Bzu:(⟨#[115,116,111,114,101,100]⟩:Yb)=wd4:=rfl
def wd5:Yb:=⟨#[101,110,116,101,114,101,100]⟩
theorem Bzv:(⟨#[101,110,116,101,114,101,100]⟩:Yb)=wd5:=rfl
def wd6:Yb:=⟨#[108,101,102,116]⟩
theorem Bzw:(⟨#[108,101,102,116]⟩:Yb)=wd6:=rfl
def wd7:Yb:=⟨#[99,111,117,110,116,101,100]⟩
theorem Bzx:(⟨#[99,111,117,110,116,101,100]⟩:Yb)=wd7:=rfl
theorem wdn:¬wd2=wd1/\¬wd3=wd1/\¬wd3=wd2/\¬wd4=wd1/\¬wd4=wd2/\¬wd4=wd3/\¬wd5=wd1/\¬wd5=wd2/\¬wd5=wd3/\¬wd5=wd4/\¬wd6=wd1/\¬wd6=wd2/\¬wd6=wd3/\¬wd6=wd4/\¬wd6=wd5/\¬wd7=wd1/\¬wd7=wd2/\¬wd7=wd3/\¬wd7=wd4/\¬wd7=wd5/\¬wd7=wd6:=by decide
theorem Bgr(w:Yb):Ahp w=if w=wd1\/w=wd2\/w=wd3 then 1 else if w=wd4\/w=wd5\/w=wd6 then 2 else if w=wd7 then 3 else 0:=rfl
theorem A7y(L:Nat)(s:Aa)(t:Bd)(h:Ajj s maxLen)(hL:maxLen<L):V3 L s t=some (Hv s t):=by
 have hM:=Bl;obtain⟨_,_,h2,_,_,_,_,_,h8,h9⟩:=h;have hR:decide (Agc s t.aF>=0)=s.aD.any (λx=>decide (x.aF=t.aF)):=Awz _ _;simp only[Awb,Zh,Y3,Y4,Y5,Y6,Y7,Y8,Y9,W5,W6,V3,Zh,Y3,Y4,Y5,Y6,Y7,Y8,Y9,W5,W6,aN,aB,Iu,Ani L s t.aF h9 (by omega),Avk L _ s t h2 hL,Xp L _ t.aF h8 hL,Hr,Co,hR,Awz,Hu,B1l,Bqj,Bgr];simp only[Bzr,Bzs,Bzt,Bzu,Bzv,Bzw,Bzx];by_cases c1:t.aO=wd1
 ·simp[c1]
 by_cases c2:t.aO=wd2
 ·simp[c1,c2,wdn]
 by_cases c3:t.aO=wd3
 ·simp[c1,c2,c3,wdn]
 by_cases c4:t.aO=wd4
 ·simp[c1,c2,c3,c4,wdn]
 by_cases c5:t.aO=wd5
 ·simp[c1,c2,c3,c4,c5,wdn]
 by_cases c6:t.aO=wd6
 ·simp[c1,c2,c3,c4,c5,c6,wdn]
 by_cases c7:t.aO=wd7
 ·simp[c1,c2,c3,c4,c5,c6,c7,wdn]
 ·simp[c1,c2,c3,c4,c5,c6,c7]
structure SG (s:Aa):Prop where
 ok:B8 s
 bk:Dm s<=1048576
theorem SG.len{s:Aa}(h:SG s):Ajj s 1099511627776:=(A5f s).mono (Nat.le_trans h.bk (by decide))
theorem SG.ln{s:Aa}(h:SG s):Ajj s maxLen:=h.len.max
theorem SG.vars{s:Aa}(h:SG s):∀x∈s.bX,Ot x:=by have:=h.ok;unfold B8 at this;exact this.2.1.2
theorem SG.res{s:Aa}(h:SG s):∀x∈s.aG,Qv x:=by have:=h.ok;unfold B8 at this;exact this.2.2.1.2
theorem SG.stores{s:Aa}(h:SG s):∀x∈s.aM,Rf x:=by have:=h.ok;unfold B8 at this;exact this.2.2.2.1.2
theorem SG.belts{s:Aa}(h:SG s):∀x∈s.bL,Tg x:=by have:=h.ok;unfold B8 at this;exact this.2.2.2.2.1.2
theorem SG.queues{s:Aa}(h:SG s):∀x∈s.bJ,okS x:=by have:=h.ok;unfold B8 at this;exact this.2.2.2.2.2.1.2
theorem SG.streams{s:Aa}(h:SG s):∀x∈s.aZ,okS x:=by have:=h.ok;unfold B8 at this;exact this.2.2.2.2.2.2.1.2
theorem SG.tallies{s:Aa}(h:SG s):∀x∈s.bH,okS x:=by have:=h.ok;unfold B8 at this;exact this.2.2.2.2.2.2.2.1.2
theorem SG.levels{s:Aa}(h:SG s):∀x∈s.bP,okS x:=by have:=h.ok;unfold B8 at this;exact this.2.2.2.2.2.2.2.2.1.2
theorem SG.counts{s:Aa}(h:SG s):∀x∈s.bD,okS x:=by have:=h.ok;unfold B8 at this;exact this.2.2.2.2.2.2.2.2.2.1.2
theorem SG.routs{s:Aa}(h:SG s):∀x∈s.aD,Re x:=by have:=h.ok;unfold B8 at this;exact this.2.2.2.2.2.2.2.2.2.2.1.2
theorem SG.starts{s:Aa}(h:SG s):s.bZ.length<=maxLen/\∀x∈s.bZ,Ahw x:=by have:=h.ok;unfold B8 at this;exact this.2.2.2.2.2.2.2.2.2.2.2.1
theorem SG.laws{s:Aa}(h:SG s):s.Laws.length<=maxLen/\∀x∈s.Laws,Acv x:=by have:=h.ok;unfold B8 at this;exact this.2.2.2.2.2.2.2.2.2.2.2.2
theorem SG.bkR{s:Aa}(h:SG s):∀x∈s.aD,Gj x<=1048576:=by
 intro x hx;have h1:=Ya (g:=Gj) hx;have h2:=h.bk;unfold Dm at h2;omega
theorem SG.bkD{s:Aa}(h:SG s):∀x∈s.aG,Ou x.bS<=1048576:=by
 intro x hx;have h1:=Ya (g:=E9) hx;have h2:=h.bk;have h3:Ou x.bS<=E9 x:=by unfold E9;omega
 unfold Dm at h2;omega
theorem Bkh(tm:Bd->Int)(l:Bh):A2a tm l=fE (R6 (decide (0<l.bV.length)) 7) (fE (R6 (decide (l.bV.length<=8)) 6) (fE (Ri tm l.bV) (R6 (inZ l.Total) 2))):=rfl
theorem B2i(L:Nat)(s:Aa)(l:Bh)(hl:Acv l)(hs:Ajj s maxLen)(hL:maxLen<L)(ks:List Yb):
  ∃ks',N9 L l s ks (tr ks) l=some (fE (Vd ks l.aF) (A2a (Hv s) l),ks',tr ks')/\(fE (Vd ks l.aF) (A2a (Hv s) l)=0->ks'=ks++ [l.aF]):=by
 have hM:=Bl;refine⟨nx ks l.aF,?_,A7m⟩;have e:Ada L l.aF s ks (tr ks) l l=some (Vd ks l.aF,nx ks l.aF,tr (nx ks l.aF)):=Alp L l.aF hl.1 hL ks;have e2:∀a b c d,Adb L l.bV s a b c d=some (if 8<l.bV.length then 6 else Ri (Hv s) l.bV):=λa b c d=>
  Bjs (lq:=Ob L l.bV s a b c d) (bd:=V3 L s) (λ_ _=>rfl) (λ_ _ _ _=>rfl) 8 l.bV 0 _ (Azh L l.bV s a b c d L hl.2.1.1 (Nat.lt_of_le_of_lt hl.2.1.1 hL) 0) λx _=>A7y L s x hs hL
 simp only[N9,Ap9,Anm,Ad8,Adx,aN,aB,e,e2,Co,Bwn,Az5,Bkh];by_cases h0:Vd ks l.aF=0
 ·simp only[h0,bne_self_eq_false,cond_false,H8];by_cases h1:l.bV.length=0
  ·rw[decide_eq_true h1,decide_eq_false (show¬0<l.bV.length by omega)];rfl
  ·rw[decide_eq_false h1,decide_eq_true (show 0<l.bV.length by omega),cond_false];by_cases h2:8<l.bV.length
   ·rw[if_pos h2,decide_eq_false (show¬l.bV.length<=8 by omega)];rfl
   ·rw[if_neg h2,decide_eq_true (show l.bV.length<=8 by omega)];simp only[R6,cond_true,H8];by_cases h3:Ri (Hv s) l.bV=0
    ·simp only[h3,bne_self_eq_false,cond_false,H8];cases inZ l.Total<;>rfl
    ·simp only[Xv h3,cond_true,Gk h3]
 ·simp only[Xv h0,cond_true,Gk h0]
theorem Out.e{X:Option (Int×List Yb×List Bool)}{p:Int×List Yb}(h:Out X p):∃a b,X=some (p.1,a,b):=by
 obtain⟨ks,h,_⟩:=h;exact⟨_,_,h⟩
theorem A7w(L:Nat)(s:Aa)(h:SG s)(hL:maxLen<L):Ahs L s=some (J2 32 (λl:Bh=>l.aF) (A2a (Hv s)) [] s.Laws).1:=by
 obtain⟨a,b,e⟩:=Out.e (q9 (nm:=λl:Bh=>l.aF) (f:=A2a (Hv s)) (lq:=Oa L s.Laws s) (bd:=λx ks vs=>N9 L x s ks vs x) (λ_ _ _ _=>rfl) (λ_ _ _ _ _ _=>rfl) 32 s.Laws 0 [] _
  (Azg L s.Laws s L h.laws.1 (Nat.lt_of_le_of_lt h.laws.1 hL) 0 [] []) λx hx ks=>B2i L s x (h.laws.2 x hx) h.ln hL ks)
 have e1:Agr L s.Laws s=some ((J2 32 (λl:Bh=>l.aF) (A2a (Hv s)) [] s.Laws).1,a,b):=e;simp only[Av9,Ww,Ahs,Ww,aN,aB,e1,Co]
theorem Atb(v:Aw):Xx v=fE (R6 (Vx v.bO) 1) (R6 (Ako v.bO v.N) 2):=rfl
theorem Bac(x:Au):Avv x=fE (R6 (Bo 1 1000 x.Room) 2) (R6 (Bo 1 3 x.dM) 1):=rfl
theorem Bdr(x:Bg):A4p x=R6 (Bo 1 1000 x.Length && Bo 1 1000 x.Step) 2:=rfl
theorem Bks(s:Aa)(r:Ak):Bf3 s r=fE (R6 (Bo 0 1000 r.Units) 2) (fE (Avq r) (Bj3 s r.bS)):=rfl
theorem B6c(L:Nat)(s:Aa)(x:Aw)(hx:Ot x)(hL:maxLen<L)(ks:List Yb):
  ∃ks',Mm L x s ks (tr ks) x=some (fE (Vd ks x.aF) (Xx x),ks',tr ks')/\(fE (Vd ks x.aF) (Xx x)=0->ks'=ks++ [x.aF]):=by
 refine⟨nx ks x.aF,?_,A7m⟩;have e:Adf L x.aF s ks (tr ks) x x=some (Vd ks x.aF,nx ks x.aF,tr (nx ks x.aF)):=Alp L x.aF hx.1 hL ks;simp only[Mm,Am5,Adz,aN,aB,e,Co,Ajn,Alz,Atb];by_cases h0:Vd ks x.aF=0
 ·simp only[h0,bne_self_eq_false,cond_false,H8];cases Vx x.bO<;>cases Ako x.bO x.N<;>rfl
 ·simp only[Xv h0,cond_true,Gk h0]
theorem B4f(L:Nat)(s:Aa)(hs:SG s)(x:Ak)(hm:x∈s.aG)(hL:maxLen<L)(ks:List Yb):
  ∃ks',Mn L x s ks (tr ks) x=some (fE (Vd ks x.aF) (Bf3 s x),ks',tr ks')/\(fE (Vd ks x.aF) (Bf3 s x)=0->ks'=ks++ [x.aF]):=by
 have hx:=hs.res x hm;refine⟨nx ks x.aF,?_,A7m⟩;have e:Adh L x.aF s ks (tr ks) x x=some (Vd ks x.aF,nx ks x.aF,tr (nx ks x.aF)):=Alp L x.aF hx.1 hL ks;simp only[Mn,Am7,Ad0,aN,aB,e,Co,Hr,Axv L x hx.2.2.1.1 hL,Axu L s x.bS hs.ln.2.2.2.2.2.1 (hs.bkD x hm) hL,Bks];by_cases h0:Vd ks x.aF=0
 ·simp only[h0,bne_self_eq_false,cond_false,H8];cases Bo 0 1000 x.Units with
  |false=>rfl
  |true=>
   simp only[Bool.not_true,cond_false,R6,cond_true,H8];by_cases h1:Avq x=0
   ·simp only[h1,bne_self_eq_false,cond_false,H8]
   ·simp only[Xv h1,cond_true,Gk h1]
 ·simp only[Xv h0,cond_true,Gk h0]
theorem Bqh(L:Nat)(s:Aa)(x:Au)(hx:Rf x)(hL:maxLen<L)(ks:List Yb):
  ∃ks',Mo L x s ks (tr ks) x=some (fE (Vd ks x.aF) (Avv x),ks',tr ks')/\(fE (Vd ks x.aF) (Avv x)=0->ks'=ks++ [x.aF]):=by
 refine⟨nx ks x.aF,?_,A7m⟩;have e:Adj L x.aF s ks (tr ks) x x=some (Vd ks x.aF,nx ks x.aF,tr (nx ks x.aF)):=Alp L x.aF hx.1 hL ks;have e2:(decide (x.dM<1) || decide (x.dM>3))= !Bo 1 3 x.dM:=by
  unfold Bo;by_cases h1:x.dM<1
  ·rw[decide_eq_true h1,decide_eq_false (show¬1<=x.dM by omega)];rfl
  ·rw[decide_eq_false h1,decide_eq_true (show 1<=x.dM by omega)];by_cases h2:x.dM>3
   ·rw[decide_eq_true h2,decide_eq_false (show¬x.dM<=3 by omega)];rfl
   ·rw[decide_eq_false h2,decide_eq_true (show x.dM<=3 by omega)];rfl
 simp only[Mo,Am9,Ad1,aN,aB,e,Co,Hr,Hu,e2,Bac];by_cases h0:Vd ks x.aF=0
 ·simp only[h0,bne_self_eq_false,cond_false,H8];cases Bo 1 1000 x.Room<;>cases Bo 1 3 x.dM<;>rfl
 ·simp only[Xv h0,cond_true,Gk h0]
theorem Bsv(L:Nat)(s:Aa)(x:Bg)(hx:Tg x)(hL:maxLen<L)(ks:List Yb):
  ∃ks',Mp L x s ks (tr ks) x=some (fE (Vd ks x.aF) (A4p x),ks',tr ks')/\(fE (Vd ks x.aF) (A4p x)=0->ks'=ks++ [x.aF]):=by
 refine⟨nx ks x.aF,?_,A7m⟩;have e:Adl L x.aF s ks (tr ks) x x=some (Vd ks x.aF,nx ks x.aF,tr (nx ks x.aF)):=Alp L x.aF hx.1 hL ks;simp only[Mp,Anb,Ad3,aN,aB,e,Co,Hr,Bdr];by_cases h0:Vd ks x.aF=0
 ·simp only[h0,bne_self_eq_false,cond_false,H8];cases Bo 1 1000 x.Length<;>cases Bo 1 1000 x.Step<;>rfl
 ·simp only[Xv h0,cond_true,Gk h0]
theorem Bw7(L:Nat)(s:Aa)(hs:SG s)(x:Am)(hm:x∈s.aD)(hL:Ko<=L)(ks:List Yb):
  ∃ks',Mr L x s ks (tr ks) x=some (fE (Vd ks x.aF) (Ax1 x),ks',tr ks')/\(fE (Vd ks x.aF) (Ax1 x)=0->ks'=ks++ [x.aF]):=by
 have hx:=hs.routs x hm;refine⟨nx ks x.aF,?_,A7m⟩;have e:Adn L x.aF s ks (tr ks) x x=some (Vd ks x.aF,nx ks x.aF,tr (nx ks x.aF)):=Alp L x.aF hx.1 (Hk hL) ks;simp only[Mr,Anf,Abk,aN,aB,e,Co,Az3 L x hx (hs.bkR x hm) hL];by_cases h0:Vd ks x.aF=0
 ·simp only[h0,bne_self_eq_false,cond_false,H8]
 ·simp only[Xv h0,cond_true,Gk h0]
theorem Byn(L:Nat)(s:Aa)(x:Yb)(hx:okS x)(hL:maxLen<L)(ks:List Yb):
  ∃ks',Mq L x s ks (tr ks)=some (fE (Vd ks x) 0,ks',tr ks')/\(fE (Vd ks x) 0=0->ks'=ks++ [x]):=by
 refine⟨nx ks x,?_,A7m⟩;have e:Mq L x s ks (tr ks)=some (Vd ks x,nx ks x,tr (nx ks x)):=Alp L x hx hL ks;rw[e];by_cases h0:Vd ks x=0
 ·rw[h0,H8]
 ·rw[Gk h0]
theorem Au5{α :Type}{l:List α}{L:Nat}(h:l.length<=maxLen)(hL:maxLen<L):l.length<L+24:=Nat.lt_of_lt_of_le (Nat.lt_of_le_of_lt h hL) (Nat.le_add_right L 24)
theorem Bqp(L:Nat)(s:Aa)(h:SG s)(hL:maxLen<L):Out (Ade L s.bX s) (J2 32 (λx:Aw=>x.aF) Xx [] s.bX):=
 q9 (lq:=Oc L s.bX s) (bd:=λx ks vs=>Mm L x s ks vs x) (λ_ _ _ _=>rfl) (λ_ _ _ _ _ _=>rfl) 32 s.bX 0 [] _
  (Azi L s.bX s (L+24) h.ln.1 (Au5 h.ln.1 hL) 0 [] []) λx hx ks=>B6c L s x (h.vars x hx) hL ks
theorem Bw4(L:Nat)(s:Aa)(h:SG s)(hL:maxLen<L)(ks:List Yb):Out (Adg L s.aG s ks (tr ks)) (J2 32 (λx:Ak=>x.aF) (Bf3 s) ks s.aG):=
 q9 (lq:=Od L s.aG s) (bd:=λx ks vs=>Mn L x s ks vs x) (λ_ _ _ _=>rfl) (λ_ _ _ _ _ _=>rfl) 32 s.aG 0 ks _
  (Azj L s.aG s (L+24) h.ln.2.1 (Au5 h.ln.2.1 hL) 0 ks _) λx hx ks=>B4f L s h x hx hL ks
theorem Bi4(L:Nat)(s:Aa)(h:SG s)(hL:maxLen<L)(ks:List Yb):Out (Adi L s.aM s ks (tr ks)) (J2 32 (λx:Au=>x.aF) Avv ks s.aM):=
 q9 (lq:=Oe L s.aM s) (bd:=λx ks vs=>Mo L x s ks vs x) (λ_ _ _ _=>rfl) (λ_ _ _ _ _ _=>rfl) 32 s.aM 0 ks _
  (Azk L s.aM s (L+24) h.ln.2.2.1 (Au5 h.ln.2.2.1 hL) 0 ks _) λx hx ks=>Bqh L s x (h.stores x hx) hL ks
theorem Blf(L:Nat)(s:Aa)(h:SG s)(hL:maxLen<L)(ks:List Yb):Out (Adk L s.bL s ks (tr ks)) (J2 32 (λx:Bg=>x.aF) A4p ks s.bL):=
 q9 (lq:=Og L s.bL s) (bd:=λx ks vs=>Mp L x s ks vs x) (λ_ _ _ _=>rfl) (λ_ _ _ _ _ _=>rfl) 32 s.bL 0 ks _
  (Azl L s.bL s (L+24) h.ln.2.2.2.1 (Au5 h.ln.2.2.2.1 hL) 0 ks _) λx hx ks=>Bsv L s x (h.belts x hx) hL ks
theorem An1(L:Nat)(s:Aa)(l:List Yb)(h1:l.length<=maxLen)(h2:∀x∈l,okS x)(hL:maxLen<L)(ks:List Yb):Out (Ja L l s ks (tr ks)) (txE ks l):=
 q9 (lq:=Oh L l s) (bd:=λx ks vs=>Mq L x s ks vs) (λ_ _ _ _=>rfl) (λ_ _ _ _ _ _=>rfl) 32 l 0 ks _
  (Azm L l s (L+24) h1 (Au5 h1 hL) 0 ks _) λx hx ks=>Byn L s x (h2 x hx) hL ks
theorem Bmo(L:Nat)(s:Aa)(h:SG s)(hL:Ko<=L)(ks:List Yb):Out (Adm L s.aD s ks (tr ks)) (J2 16 (λx:Am=>x.aF) Ax1 ks s.aD):=
 q9 (lq:=Oi L s.aD s) (bd:=λx ks vs=>Mr L x s ks vs x) (λ_ _ _ _=>rfl) (λ_ _ _ _ _ _=>rfl) 16 s.aD 0 ks _
  (Azn L s.aD s (L+24) h.ln.2.2.2.2.2.2.2.2.2 (Au5 h.ln.2.2.2.2.2.2.2.2.2 (Hk hL)) 0 ks _) λx hx ks=>Bw7 L s h x hx hL ks
theorem A2y(L:Nat)(s:Aa)(h:SG s)(hL:maxLen<L)(a:List Yb)(b:List Bool):Ado L s.bZ s a b=some (Ax5 s):=
 Bjs (lq:=Oj L s.bZ s a b) (bd:=Tr L s) (λ_ _=>rfl) (λ_ _ _ _=>rfl) 32 s.bZ 0 _ (Azo L s.bZ s a b (L+24) h.starts.1 (Au5 h.starts.1 hL) 0) λx hx=>
  A59 L s x h.ln.2.2.2.2.2.2.2.2.2 ((h.starts.2 x hx).2.1.1) hL
theorem Bga(tm:Aa->Bd->Int)(s:Aa):Age tm s=fE (Ao8 s).1 (fE (Ax5 s) (J2 32 (λl:Bh=>l.aF) (A2a (tm s)) [] s.Laws).1):=rfl
theorem Avj(L:Nat)(s:Aa)(h:SG s)(hL:Ko<=L):Gl (Age Hv s) (Yh L s):=by
 have hl:=Hk hL;have g:∀a b:Int,a<b->((a<b)=True):=λa b h=>eq_true h;have e0:∀n:Int,0<=n->((0<=n)=True):=λn h=>eq_true h;simp only[Yh,Aqa,Aea,Anq,Aeb,Ans,Aec,Ad2,Aed,Anv,Aee,Anx,Aef,Ad4,Ace,Ak3,Acf,Ak4,Acg,Abj,Ach,Ak6,Aci,Abl,aN,aB]
 repeat rw[ifp (by decide)]
 rw[Bga,Ao8];simp only[A64];refine Ax6 (Bqp L s h hl) (λ_ _ _ h=>nzE h _ _ _) λks=>?_;simp only[bne_self_eq_false,cond_false]
 repeat rw[ifp (by decide)]
 refine Ax6 (Bw4 L s h hl ks) (λ_ _ _ h=>nzE h _ _ _) λks=>?_;simp only[bne_self_eq_false,cond_false]
 repeat rw[ifp (by decide)]
 refine Ax6 (Bi4 L s h hl ks) (λ_ _ _ h=>nzE h _ _ _) λks=>?_;simp only[bne_self_eq_false,cond_false]
 repeat rw[ifp (by decide)]
 refine Ax6 (Blf L s h hl ks) (λ_ _ _ h=>nzE h _ _ _) λks=>?_;simp only[bne_self_eq_false,cond_false]
 repeat rw[ifp (by decide)]
 refine Ax6 (An1 L s s.bJ h.ln.2.2.2.2.1 h.queues hl ks) (λ_ _ _ h=>nzE h _ _ _) λks=>?_;simp only[bne_self_eq_false,cond_false]
 repeat rw[ifp (by decide)]
 refine Ax6 (An1 L s s.aZ h.ln.2.2.2.2.2.1 h.streams hl ks) (λ_ _ _ h=>nzE h _ _ _) λks=>?_;simp only[bne_self_eq_false,cond_false]
 repeat rw[ifp (by decide)]
 refine Ax6 (An1 L s s.bH h.ln.2.2.2.2.2.2.1 h.tallies hl ks) (λ_ _ _ h=>nzE h _ _ _) λks=>?_;simp only[bne_self_eq_false,cond_false]
 repeat rw[ifp (by decide)]
 refine Ax6 (An1 L s s.bP h.ln.2.2.2.2.2.2.2.1 h.levels hl ks) (λ_ _ _ h=>nzE h _ _ _) λks=>?_;simp only[bne_self_eq_false,cond_false]
 repeat rw[ifp (by decide)]
 refine Ax6 (An1 L s s.bD h.ln.2.2.2.2.2.2.2.2.1 h.counts hl ks) (λ_ _ _ h=>nzE h _ _ _) λks=>?_;simp only[bne_self_eq_false,cond_false]
 repeat rw[ifp (by decide)]
 refine B9y (Bmo L s h hL ks) (λ_ _ _ h=>nzE h _ _ _) λks=>?_;simp only[bne_self_eq_false,cond_false]
 repeat rw[ifp (by decide)]
 rw[A2y L s h hl,Co];by_cases h1:Ax5 s=0
 ·simp only[h1,bne_self_eq_false,cond_false,H8]
  repeat rw[ifp (by decide)]
  rw[A7w L s h hl,Co];by_cases h2:(J2 32 (λl:Bh=>l.aF) (A2a (Hv s)) [] s.Laws).1=0
  ·simp only[h2,bne_self_eq_false,cond_false];exact⟨_,_,rfl⟩
  ·simp only[Xv h2,cond_true];exact⟨_,_,rfl⟩
 ·simp only[Xv h1,cond_true,Gk h1];exact⟨_,_,rfl⟩
theorem A7x(L:Nat)(s:Aa)(h:SG s)(hL:Ko<=L):Aht L s=some (Age Hv s):=by
 obtain⟨a,b,e⟩:=Avj L s h hL;simp only[Awa,U0,Aht,U0,aN,aB,e,Co]
def A8q(l:List B9):List Bp:=l.map λx=>(⟨x.aV,x.To⟩:Bp)
def Bmt(seen:List B9)(x:B9):Bool:=seen.any λy=>decide (y.aV=x.aV) && decide (y.To=x.To)
theorem Bev(m:Aj)(seen:List B9)(l:B9):Beu m seen l=if(m.aA.any (λd=>decide (d.aF=l.aV)) && m.aA.any (λd=>decide (d.aF=l.To)))=false then 5
 else if l.aV=l.To then 1 else if Bo 1 1000000000 l.bU=false then 2 else R6 (!Bmt seen l) 4:=rfl
theorem Byp(seen:List B9)(x:B9):((A8q seen).any λb=>x.aV == b.a0 && x.To == b.a1)=Bmt seen x:=by
 unfold A8q Bmt;rw[List.any_map]
 congr 1
 funext y
 show(x.aV == y.aV && x.To == y.To)=_
 rw[A29,A29]
theorem Bgb(m:Aj)(n:Yb):decide (A95 m n<0)= !m.aA.any λd=>decide (d.aF=n):=by
 unfold A95;rw[Aw0];cases h:m.aA.findIdx? λd=>decide (d.aF=n) with
 |none=>rw[Amx h];rfl
 |some i=>rw[Aif h];rfl
theorem Bwo(L:Nat)(m:Aj)(x:B9)(hm:m.aA.length<=maxLen)(hL:maxLen<L)(seen:List B9):
  ∃ks',Rm L x m (A8q seen) (tr (A8q seen)) x=some (Beu m seen x,ks',tr ks')/\(Beu m seen x=0->ks'=A8q (seen++ [x])):=by
 simp only[Rm,Ac5,aN,aB,A7v L m _ hm hL,Hr,Co,Bgb,Iu,F9,Hu,Bev];rw[<-Byp];cases m.aA.any (λd=>decide (d.aF=x.aV)) with
 |false=>exact⟨_,rfl,λh=>absurd (show(5:Int)=0 from h) (by decide)⟩
 |true=>
  cases m.aA.any (λd=>decide (d.aF=x.To)) with
  |false=>exact⟨_,rfl,λh=>absurd (show(5:Int)=0 from h) (by decide)⟩
  |true=>
   simp only[Bool.not_true,Bool.or_self,cond_false,Bool.and_self,Bool.true_eq_false,if_false];by_cases h1:x.aV=x.To
   ·rw[decide_eq_true h1,if_pos h1];exact⟨_,rfl,λh=>absurd (show(1:Int)=0 from h) (by decide)⟩
   ·rw[decide_eq_false h1,if_neg h1,cond_false];cases Bo 1 1000000000 x.bU with
    |false=>exact⟨_,rfl,λh=>absurd (show(2:Int)=0 from h) (by decide)⟩
    |true=>
     simp only[Bool.not_true,cond_false,Bool.true_eq_false,if_false];cases hf:(A8q seen).findIdx? λb=>x.aV == b.a0 && x.To == b.a1 with
     |some i=>
      rw[Aif hf];obtain⟨h3,_⟩:=List.findIdx?_eq_some_iff_getElem.1 hf;simp only[fko,Bc2 h3];exact⟨_,rfl,λh=>absurd (show(4:Int)=0 from h) (by decide)⟩
     |none=>
      rw[Amx hf];simp only[fko];rw[Ax8 (A8q seen) (⟨x.aV,x.To⟩:Bp)];exact⟨_,rfl,λ_=>by unfold A8q;rw[List.map_append];rfl⟩
theorem A20(L:Nat)(l:List B9)(m:Aj)(hm:m.aA.length<=maxLen)(hL:maxLen<L):∀(k:List B9) (i:Nat) (v:Int) (seen:List B9),
  ∃j a b,H2 L l m k i v (A8q seen) (tr (A8q seen))=some (if Ag2 m seen k=0 then(1,(v,(j,a,b))) else(0,(Ag2 m seen k,(j,a,b)))):=by
 intro k
 induction k with
 |nil=>intro i v seen;exact⟨i,_,_,rfl⟩
 |cons x k ih=>
  intro i v seen;obtain⟨ks',he,hk⟩:=Bwo L m x hm hL seen;rw[H2,he,Co,Ag2];by_cases h0:Beu m seen x=0
  ·have:=hk h0;subst this
   obtain⟨j,a,b,hj⟩:=ih (i+1) v (seen++ [x]);rw[h0,H8];exact⟨j,a,b,hj⟩
  ·rw[Gk h0];exact⟨i,ks',tr ks',by simp only[Xv h0,cond_true,if_neg h0]⟩
theorem A58(L:Nat)(m:Aj)(hm:m.aA.length<=maxLen)(hl:m.aH.length<=maxLen)(hL:maxLen<L):Ael L m=some (A5g m):=by
 have e32:decide ((m.aH.length:Int)>32)=decide (32<m.aH.length):=gtN _ 32;obtain⟨j,a,b,hj⟩:=A20 L m.aH m hm hL m.aH 0 0 [];have hj':H2 L m.aH m m.aH 0 0 [] []=_:=hj;simp only[Atx,Wy,Ael,Wy,Adc,Am4,Ad9,Ady,aN,aB,e32,Axg L m.aH m L hl (Nat.lt_of_le_of_lt hl hL),hj',Co,A5g];by_cases h:32<m.aH.length
 ·rw[decide_eq_true h,if_pos h];rfl
 ·rw[decide_eq_false h,if_neg h,cond_false];by_cases h0:Ag2 m [] m.aH=0
  ·rw[if_pos h0,S5,h0];rfl
  ·rw[if_neg h0,H4];rfl
structure MG (m:Aj):Prop where
 ok:Av3 m
 bk:Ao5 m<=1048576
theorem MG.sites{m:Aj}(h:MG m):m.aA.length<=maxLen:=h.ok.2.2.1.1
theorem MG.site{m:Aj}(h:MG m):∀d∈m.aA,SG d:=λd hd=>⟨h.ok.2.2.1.2 d hd,by have h1:=Ya (g:=Dm) hd;have h2:=h.bk;unfold Ao5 at h2;omega⟩
theorem MG.links{m:Aj}(h:MG m):m.aH.length<=maxLen:=h.ok.2.2.2.1
theorem B4b(L:Nat)(m:Aj)(x:Aw)(hx:Ot x)(hL:maxLen<L)(ks:List Yb):
  ∃ks',Ml L x m ks (tr ks) x=some (fE (Vd ks x.aF) (Xx x),ks',tr ks')/\(fE (Vd ks x.aF) (Xx x)=0->ks'=ks++ [x.aF]):=by
 refine⟨nx ks x.aF,?_,A7m⟩;have e:Ac8 L x.aF m ks (tr ks) x x=some (Vd ks x.aF,nx ks x.aF,tr (nx ks x.aF)):=Alp L x.aF hx.1 hL ks;simp only[Ml,Am1,Adv,aN,aB,e,Co,Ajn,Alz,Atb];by_cases h0:Vd ks x.aF=0
 ·simp only[h0,bne_self_eq_false,cond_false,H8];cases Vx x.bO<;>cases Ako x.bO x.N<;>rfl
 ·simp only[Xv h0,cond_true,Gk h0]
theorem Byf(L:Nat)(m:Aj)(a:List Yb)(b:List Bool)(x:Aa)(hx:SG x)(hL:Ko<=L)(ks:List Yb):
  ∃ks',Kk L x m a b ks (tr ks) x=some (fE (Vd ks x.aF) (Age Hv x),ks',tr ks')/\(fE (Vd ks x.aF) (Age Hv x)=0->ks'=ks++ [x.aF]):=by
 have hn:okS x.aF:=by have:=hx.ok;unfold B8 at this;exact this.1
 refine⟨nx ks x.aF,?_,A7m⟩;have e:t6 L x.aF m a b ks (tr ks) x x=some (Vd ks x.aF,nx ks x.aF,tr (nx ks x.aF)):=Alp L x.aF hn (Hk hL) ks;simp only[Kk,Akp,Abi,aN,aB,e,Co,A7x L x hx hL];by_cases h0:Vd ks x.aF=0
 ·simp only[h0,bne_self_eq_false,cond_false,H8]
 ·simp only[Xv h0,cond_true,Gk h0]
theorem A57(L:Nat)(m:Aj)(h:MG m)(hL:Ko<=L):Tq L m=some (Alu Hv m):=by
 have hl:=Hk hL;have hp:=h.ok.2.1;obtain⟨a,b,e1⟩:=Out.e (q9 (nm:=λx:Aw=>x.aF) (f:=Xx) (lq:=Ms L m.aJ m) (bd:=λx ks vs=>Ml L x m ks vs x) (λ_ _ _ _=>rfl) (λ_ _ _ _ _ _=>rfl) 32 m.aJ 0 [] _
  (Axe L m.aJ m L hp.1 (Nat.lt_of_le_of_lt hp.1 hl) 0 [] []) λx hx ks=>B4b L m x (hp.2 x hx) hl ks)
 have e1':Ac7 L m.aJ m=some ((J2 32 (λx:Aw=>x.aF) Xx [] m.aJ).1,a,b):=e1;obtain⟨c,d,e2⟩:=Out.e (q9 (nm:=λx:Aa=>x.aF) (f:=Age Hv) (lq:=Mt L m.aA m a b) (bd:=λx ks vs=>Kk L x m a b ks vs x) (λ_ _ _ _=>rfl) (λ_ _ _ _ _ _=>rfl) 16 m.aA 0 [] _
  (Axf L m.aA m a b L h.sites (Nat.lt_of_le_of_lt h.sites hl) 0 [] []) λx hx ks=>Byf L m a b x (h.site x hx) hL ks)
 have e2':Ac9 L m.aA m a b=some ((J2 16 (λx:Aa=>x.aF) (Age Hv) [] m.aA).1,c,d):=e2;simp only[Atw,Xd,Adw,U7,Uy,Tq,Xd,Adw,U7,Uy,aN,aB,Nu L m.aF h.ok.1 (Nat.lt_of_le_of_lt h.ok.1 hl),e1',e2',A58 L m h.sites h.links hl,Bwn,Co];unfold Alu;by_cases h0:Jt m.aF=0
 ·simp only[h0,bne_self_eq_false,cond_false,H8];by_cases h1:(J2 32 (λx:Aw=>x.aF) Xx [] m.aJ).1=0
  ·simp only[h1,bne_self_eq_false,cond_false,H8];by_cases h2:m.aA.length=0
   ·rw[decide_eq_true h2,decide_eq_false (show¬0<m.aA.length by omega)];rfl
   ·rw[decide_eq_false h2,decide_eq_true (show 0<m.aA.length by omega)];simp only[R6,cond_true,cond_false,H8];by_cases h3:(J2 16 (λd:Aa=>d.aF) (Age Hv) [] m.aA).1=0
    ·simp only[h3,bne_self_eq_false,cond_false,H8]
    ·simp only[Xv h3,cond_true,Gk h3]
  ·simp only[Xv h1,cond_true,Gk h1]
 ·simp only[Xv h0,cond_true,Gk h0]
theorem Ar8(a b c:Int):fE (fE a b) c=fE a (fE b c):=by
 by_cases h:a=0
 ·subst h;rfl
 ·rw[Gk h,Gk h,Gk h]
theorem Cda(a:Int):fE a 0=a:=by
 by_cases h:a=0
 ·subst h;rfl
 ·rw[Gk h]
theorem Ha(L:Nat)(a b:Int):Cy L a b=some (fE a b):=by
 simp only[Are,Cy,aN,aB];by_cases h:a=0
 ·simp[h,H8]
 ·simp[Xv h,Gk h]
theorem Gu(L:Nat)(c:Bool)(e:Int):Cj L c e=some (R6 c e):=by
 simp only[Aor,Cj,aN,aB,R6];cases c<;>rfl
theorem Jw(L:Nat)(x lo hi:Int):Dh L x lo hi=some (Bo lo hi x):=by
 simp only[Aos,Dh,aN,aB,Du,ge_iff_le,Bo]
theorem Apm(L:Nat)(t:Int):Vf L t=some (Vx t):=by
 simp only[Ard,Vf,aN,aB,Hu,Vx,Bo]
 congr 1
 by_cases h1:t=1
 ·subst h1;rfl
 ·by_cases h2:t=2
  ·subst h2;rfl
  ·by_cases h3:t=3
   ·subst h3;rfl
   ·rw[beq_false_of_ne h1,beq_false_of_ne h2,beq_false_of_ne h3];by_cases h4:1<=t
    ·rw[decide_eq_true h4,decide_eq_false (show¬t<=3 by omega)];rfl
    ·rw[decide_eq_false h4];rfl
theorem Asi(L:Nat)(t n:Int):Zn L t n=some (Ako t n):=by
 simp only[Aur,Zn,aN,aB,Az0,Jw,Co,Hu,Ako];by_cases h1:t=1
 ·simp[h1]
 ·by_cases h2:t=2
  ·simp[h2]
  ·by_cases h3:t=3
   ·simp[h3]
   ·simp[h1,h2,h3,beq_false_of_ne h1,beq_false_of_ne h2,beq_false_of_ne h3]
theorem Bec(l:List Yb)(n:Yb):decide (A7g l n<0)= !l.any λx=>decide (x=n):=by
 unfold A7g;rw[Aw0];cases h:l.findIdx? λx=>decide (x=n) with
 |none=>rw[Amx h];rfl
 |some i=>rw[Aif h];rfl
theorem Aak(L:Nat)(n:Yb)(bf:List Yb)(hn:okS n)(hb:bf.length<=maxLen)(hL:maxLen<L):L4 L n bf=some (Vd bf n):=by
 have hM:=Bl;simp only[Arf,L4,aN,aB,Sz L n hn (Nat.lt_of_le_of_lt hn hL) (by omega),Af5 L bf n hb (by omega),Gu,Ha,Co,Bec,Vd]
theorem Bb3(L:Nat)(x:Aw)(bf:List Yb)(hx:Ot x)(hb:bf.length<=maxLen)(hL:maxLen<L):Afm L x bf=some (fE (Vd bf x.aF) (Xx x)):=by
 simp only[Arg,Afm,aN,aB,Aak L x.aF bf hx.1 hb hL,Apm,Asi,Gu,Ha,Co,Atb,Ar8]
theorem A0c(L:Nat)(r:Ak)(hl:r.bA.length<=maxLen)(hc:Bs (r.dA-1)=r.dA-1):∀(k:List Eu) (i:Nat) (v:Int),r.bA.drop i=k->
  ∃j,Hl L r k i v=some (if A4t r.dA (pvA r.bA i) k=0 then(1,(v,j)) else(0,(A4t r.dA (pvA r.bA i) k,j))):=by
 intro k
 induction k with
 |nil=>intro i v _;exact⟨i,rfl⟩
 |cons x k ih=>
  intro i v h;obtain⟨hi,hx,hk⟩:=I8 h;obtain⟨j,hj⟩:=ih (i+1) v hk;rw[Bfp h]at hj;rw[Hl];simp only[Jw,Co,hc,Bkp r.bA i hi hl,hj,A82];rcases Bool.eq_false_or_eq_true (Bo 0 (r.dA-1) x.At)with hA|hA
  ·rcases Bool.eq_false_or_eq_true (Bo 0 1000 x.Units)with hB|hB
   ·rcases Bool.eq_false_or_eq_true (geq (pvA r.bA i) x.At)with hC|hC
    ·exact⟨i,by simp[hA,hB,hC]⟩
    ·exact⟨j,by simp[hA,hB,hC]⟩
   ·exact⟨i,by simp[hA,hB]⟩
  ·exact⟨i,by simp[hA]⟩
theorem A2v(L:Nat)(r:Ak)(hl:r.bA.length<=maxLen)(hL:maxLen<L):j6 L r=some (Avq r):=by
 have e20:decide ((r.bA.length:Int)>20)=decide (20<r.bA.length):=gtN _ 20;simp only[Arc,U2,Us,j6,U2,Us,aN,aB,Jw,Gu,Co,Bwn,e20,A93];by_cases h0:r.bA.length=0
 ·rw[decide_eq_true h0,if_pos h0,cond_true]
 ·rw[decide_eq_false h0,if_neg h0,cond_false];by_cases h2:20<r.bA.length
  ·rw[decide_eq_true h2,if_pos h2];rfl
  ·rw[decide_eq_false h2,if_neg h2,cond_false];rcases Bool.eq_false_or_eq_true (Bo 1 1000000000 r.dA)with hr|hr
   ·obtain⟨j,hj⟩:=A0c L r hl (cyc hr) r.bA 0 0 rfl;rw[Ava L r L hl (Nat.lt_of_le_of_lt hl hL),hj,hr];simp only[Bool.not_true,cond_false,Co,Bool.true_eq_false,if_false];have e:pvA r.bA 0=none:=rfl;rw[e];by_cases hz:A4t r.dA none r.bA=0
    ·rw[if_pos hz,S5,hz]
    ·rw[if_neg hz,H4]
   ·rw[hr];rfl
theorem A2w(L:Nat)(s:Aa)(r:Ak)(h1:r.bA.length<=maxLen)(hs:s.aZ.length<=maxLen)(hb:Ou r.bS<=1048576)(hL:maxLen<L):Vg L s r=some (Bf3 s r):=by
 have hz:(⟨0,0,0,0,[],[]⟩:Bk)=U9:=rfl;unfold Ou at hb;have d1:okD r.bS.Up:=A5y (by omega);have d2:okD r.bS.Down:=A5y (by omega);simp only[Aiw,Vg,aN,aB,Iu,A3t,Jw,Gu,Ha,A2v L r h1 hL,Akw L r.bS.Up _ d1 hL,Akw L r.bS.Down _ d2 hL,Ah7 L r.bS.Up d1 hL,Ah7 L r.bS.Down d2 hL,Af5 L s.aZ r.bS.dG hs (Nat.lt_of_le_of_lt hs hL),Bec,Co,Bks,Beb,<-Ar8,hz];by_cases h0:fE (R6 (Bo 0 1000 r.Units) 2) (Avq r)=0
 ·rw[h0,H8];simp only[bne_self_eq_false,cond_false];by_cases h2:r.bS.dG.size=0
  ·simp only[h2,decide_true,cond_true,if_true];cases Ahl r.bS.Up U9<;>cases Ahl r.bS.Down U9<;>rfl
  ·simp only[h2,decide_false,cond_false,if_false];rcases Bool.eq_false_or_eq_true (s.aZ.any λx=>decide (x=r.bS.dG))with h3|h3
   ·simp[h3]
   ·simp[h3]
 ·rw[Gk h0];simp only[Xv h0,cond_true]
theorem Byw{α :Type}{nm: α->Yb}{f: α->Int}{lq:List α->Nat->Int->List Yb->Option (Nat×(Int×List Yb×Int))}
  (hn:∀i v ks,lq [] i v ks=some (1,(v,ks,(i:Int)))):∀(k:List α) (i:Nat) (v:Int) (ks:List Yb),ks.length+k.length<=1099511627776->
  (∀x∈k,∀(k:List α) (i:Nat) (v:Int) (ks:List Yb),ks.length<=1099511627776->lq (x::k) i v ks=bif fE (Vd ks (nm x)) (f x) != 0 then some (0,(fE (Vd ks (nm x)) (f x),ks,(i:Int)))else if(ks.length+ [nm x].length)*16<=140737488355328 then(if ks.length+ [nm x].length<=maxLen then lq k (i+1) v (ks++ [nm x])else none)else none)->
  ∃j ks',lq k i v ks=some (if(Ew nm f ks k).1=0 then(1,(v,ks',j)) else(0,((Ew nm f ks k).1,ks',j)))/\((Ew nm f ks k).1=0->ks'=(Ew nm f ks k).2):=by
 intro k
 induction k with
 |nil=>intro i v ks _ _;exact⟨i,ks,by rw[hn,Ew];rfl,λ_=>rfl⟩
 |cons x k ih=>
  intro i v ks hl h;rw[List.length_cons]at hl;rw[h x (by simp) k i v ks (by omega)];by_cases h0:fE (Vd ks (nm x)) (f x)=0
  ·have e:Ew nm f ks (x::k)=Ew nm f (ks++ [nm x]) k:=by rw[Ew,if_neg (by simp[h0])]
   obtain⟨j,ks',hj,he⟩:=ih (i+1) v (ks++ [nm x]) (by simp only[List.length_append,List.length_singleton];omega) λy hy=>h y (by simp[hy]);rw[e,h0];refine⟨j,ks',?_,he⟩;have hM:=Bl;simp only[bne_self_eq_false,cond_false,List.length_singleton];rw[if_pos (by omega),if_pos (by omega),hj]
  ·have e:Ew nm f ks (x::k)=(fE (Vd ks (nm x)) (f x),ks):=by rw[Ew,if_pos h0]
   rw[e];exact⟨i,ks,by simp only[Xv h0,cond_true,if_neg h0],λhh=>absurd hh h0⟩
theorem A52(L:Nat)(r:Am)(hr:Re r)(hb:Gj r<=1048576)(hL:Ko<=L):Aej L r=some (Ax1 r):=by
 have hM:=Bl;obtain⟨b1,b2,b3⟩:=Bf6 hb;have hL':maxLen<L:=Hk hL;have e1:decide ((r.aJ.length:Int)>6)=decide (6<r.aJ.length):=gtN _ 6;have e2:Bs ((r.aJ.length:Int)+(r.bC.length:Int))=((r.aJ.length+r.bC.length:Nat):Int):=by rw[H7 (by omega) (by omega)];omega
 have e3:decide (((r.aJ.length+r.bC.length:Nat):Int)>16)=decide (16<r.aJ.length+r.bC.length):=gtN _ 16;have c2:=Bbw (show∀y∈r.bE,Cz y from hr.2.2.2.2) L (Bj6 hL b3);simp only[Atr,W8,Wl,Aej,W8,Wl,aN,aB,e1,e2,e3,Hu,Bf5];by_cases h0:6<r.aJ.length\/16<r.aJ.length+r.bC.length
 ·rw[if_pos h0];have:(decide (6<r.aJ.length) || decide (16<r.aJ.length+r.bC.length))=true:=by simpa using h0
  rw[this];rfl
 ·rw[if_neg h0];have:(decide (6<r.aJ.length) || decide (16<r.aJ.length+r.bC.length))=false:=by simpa using h0
  rw[this,cond_false]
  repeat rw[ifp (by omega)]
  rw[Aw6 L r L (by simp;omega) (by simp;omega)];obtain⟨j,ks',hj,_⟩:=Byw (nm:=λf:Ba=>f.aF) (f:=λf=>R6 (Vx f.bO) 1) (lq:=Jn L r) (λ_ _ _=>rfl) (r.aJ++r.bC) 0 0 [] (by simp;omega) (by
   intro x hx k i v ks hk;have ho:okS x.aF:=by
    rcases List.mem_append.1 hx with h|h
    ·exact(hr.2.1.2 x h).1
    ·exact(hr.2.2.1.2 x h).1
   rw[Jn];simp only[Aak L x.aF ks ho (by omega) hL',Apm,Gu,Ha,Co])
  rw[hj,Co];by_cases hz:(Ew (λf:Ba=>f.aF) (λf=>R6 (Vx f.bO) 1) [] (r.aJ++r.bC)).1=0
  ·rw[if_pos hz,S5,hz,H8,c2];rfl
  ·rw[if_neg hz,H4,Gk hz]
theorem A8h(L:Nat)(s:Aa)(n:Nat)(d:Bv):∀(k:List Ba) (i:Nat) (v:Int),i+k.length=d.aP.length->
  ∃j,Ke L s (n:Int) d k i v=some (if Amr k (d.aP.drop i)=true then(1,(v,j)) else(0,(2,j))):=by
 intro k
 induction k with
 |nil=>intro i v _;exact⟨i,by unfold Amr;simp[Ke]⟩
 |cons x k ih=>
  intro i v h;rw[List.length_cons]at h;have hi:i<d.aP.length:=by omega
  obtain⟨j,hj⟩:=ih (i+1) v (by omega);rw[Ke];simp only[toN,Ll hi,if_true,Asi,Co,hj];have e:Amr (x::k) (d.aP.drop i)=(Ako x.bO (d.aP.getD i default) && Amr k (d.aP.drop (i+1))):=by
   unfold Amr;rw[Ao9 d.aP i hi,List.zip_cons_cons,List.all_cons]
  rw[e];cases Ako x.bO (d.aP.getD i default) with
  |false=>exact⟨i,rfl⟩
  |true=>exact⟨j,by simp⟩
theorem Bb2(L:Nat)(s:Aa)(d:Bv)(hs:Ajj s 1099511627776)(hd:d.aP.length<=maxLen)(hL:maxLen<L):Z1 L s d=some (A0k s d):=by
 have hM:=Bl;simp only[A04,Ab5,Abb,Z1,Ab5,Abb,aN,aB,A51 L s d.dJ hs hL,Co,Agc,Aw0,A98,Beg];cases hf:s.aD.findIdx? (λx=>decide (x.aF=d.dJ)) with
 |none=>rfl
 |some i=>
  have hi:=Bo5 hf;simp only[Option.isNone_some,cond_false,d8,nn,if_true,Ll hi,toN,Option.map_some];by_cases hn:d.aP.length=(s.aD.getD i default).aJ.length
  ·rw[if_neg (by simpa using hn)];have:((d.aP.length:Int) != ((s.aD.getD i default).aJ.length:Int))=false:=by rw[hn];simp
   rw[this,cond_false,A2o L s _ d L (by rw[toN];omega) (by rw[toN];omega)];obtain⟨j,hj⟩:=A8h L s i d (s.aD.getD i default).aJ 0 0 (by omega);rw[toN,hj,Co,List.drop_zero];cases Amr (s.aD.getD i default).aJ d.aP with
   |false=>rfl
   |true=>
    simp only[if_true,S5,Jw,Gu,Co,Bool.true_eq_false,if_false];cases Bo 0 1000000000 d.At<;>cases Bo 0 1000000000 d.Every<;>cases Bo 0 1000000000 d.Until<;>rfl
  ·rw[if_pos (by simpa using hn)];have:((d.aP.length:Int) != ((s.aD.getD i default).aJ.length:Int))=true:=bne_iff_ne.2 (by omega);rw[this];rfl
theorem Bqk(s:Aa)(t:Bd):Se s t=if Ahp t.aO=0 then 1
 else if b0 s t.aF≠(if Ahp t.aO=1 then Zw else if Ahp t.aO=2 then Ajf else Aje)then 5 else A1g t:=rfl
theorem Wj(L:Nat)(s:Aa)(t:Bd)(w:Yb)(h:Ajj s 1099511627776)(hL:maxLen<L):(Qr L s t w:Option Int)=some (fE (R6 (!decide (w.size=0)) 1) (fE (R6 (decide (b0 s t.aF=w)) 5) (A1g t))):=by
 have hM:=Bl;simp only[Qr,aN,aB,Iu,A3t,Gu,Ha,Jw,Bfb L s t.aF h hL,Co,Du,Ar8,A1g]
theorem tR(s:Aa)(n w:Yb)(c:Int)(hw:decide (w.size=0)=false):fE (R6 (!decide (w.size=0)) 1) (fE (R6 (decide (b0 s n=w)) 5) c)=if b0 s n≠w then 5 else c:=by
 rw[hw];by_cases h:b0 s n=w
 ·rw[decide_eq_true h,if_neg (by simpa using h)];rfl
 ·rw[decide_eq_false h,if_pos h];rfl
theorem Bfe(L:Nat)(s:Aa)(t:Bd)(h:Ajj s 1099511627776)(hL:maxLen<L):Aim L s t=some (Se s t):=by
 have k1:(⟨#[114,111,117,116,105,110,101]⟩:Yb)=Zw:=rfl;have k2:(⟨#[115,116,111,114,101]⟩:Yb)=Ajf:=rfl;have k3:(⟨#[99,111,117,110,116]⟩:Yb)=Aje:=rfl;have t0:(Qr L s t ⟨#[]⟩:Option Int)=some 1:=by rw[Wj L s t _ h hL];rfl
 have t1:=Wj L s t Zw h hL;have t2:=Wj L s t Ajf h hL;have t3:=Wj L s t Aje h hL;rw[tR _ _ _ _ rfl]at t1 t2 t3;simp only[Aim,A4a,sx_R11_term_0,Ame,sx_R11_term_2,Amf,sx_R11_term_3,aN,Iu,Bzr,Bzs,Bzt,Bzu,Bzv,Bzw,Bzx,k1,k2,k3,t0,t1,t2,t3,Bqk,Bgr];by_cases c1:t.aO=wd1
 ·simp[c1]
 by_cases c2:t.aO=wd2
 ·simp[c1,c2,wdn]
 by_cases c3:t.aO=wd3
 ·simp[c1,c2,c3,wdn]
 by_cases c4:t.aO=wd4
 ·simp[c1,c2,c3,c4,wdn]
 by_cases c5:t.aO=wd5
 ·simp[c1,c2,c3,c4,c5,wdn]
 by_cases c6:t.aO=wd6
 ·simp[c1,c2,c3,c4,c5,c6,wdn]
 by_cases c7:t.aO=wd7
 ·simp[c1,c2,c3,c4,c5,c6,c7,wdn]
 ·simp[c1,c2,c3,c4,c5,c6,c7]
theorem Bfq(L:Nat)(s:Aa)(l:Bh)(h:Ajj s 1099511627776)(hL:maxLen<L):∀(k:List Bd) (i:Nat) (v:Int),∃j,O6 L s l k i v=some (0,(fE v (Ri (Se s) k),j)):=by
 intro k
 induction k with
 |nil=>intro i v;exact⟨i,by rw[O6,Ri,Cda]⟩
 |cons x k ih=>
  intro i v;obtain⟨j,hj⟩:=ih (i+1) (fE v (Se s x));refine⟨j,?_⟩;rw[O6,Bfe L s x h hL,Co,Ha,Co,hj,Ar8,Ri]
theorem Bh7(L:Nat)(s:Aa)(l:Bh)(bf:List Yb)(hl:Acv l)(hs:Ajj s 1099511627776)(hb:bf.length<=maxLen)(hL:maxLen<L):Amm L s l bf=some (fE (Vd bf l.aF) (A2a (Se s) l)):=by
 obtain⟨j,hj⟩:=Bfq L s l hs hL l.bV 0 (fE (Vd bf l.aF) (fE (R6 (decide (0<l.bV.length)) 7) (R6 (decide (l.bV.length<=8)) 6)));have e1:decide ((l.bV.length:Int)>0)=decide (0<l.bV.length):=gtN _ 0;have e2:decide ((l.bV.length:Int)<=8)=decide (l.bV.length<=8):=decide_eq_decide.2 (by omega);simp only[A8v,Aie,Aib,Amm,Aie,Aib,aN,aB,Aak L l.aF bf hl.1 hb hL,Gu,Ha,Az0,Co,e1,e2,A7k L s l L hl.2.1.1 (Nat.lt_of_le_of_lt hl.2.1.1 hL),hj,H4,Bkh,Ar8]
theorem kd0(L:Nat)(s:Aa)(i:Nat)(hi:i<s.bX.length):Da L s 0 (i:Int)=some (Xx (s.bX.getD i default)):=by
 simp only[J0,Da,aN,aB,beq_self_eq_true,cond_true,nn,Ll hi,if_true,toN,Apm,Asi,Gu,Ha,Co,Atb]
theorem kd1(L:Nat)(s:Aa)(i:Nat)(hi:i<s.aG.length)(h:SG s)(hL:maxLen<L):Da L s 1 (i:Int)=some (Bf3 s (s.aG.getD i default)):=by
 have hm:s.aG.getD i default∈s.aG:=by rw[Kj _ i hi];exact List.getElem_mem hi
 have e:=A2w L s (s.aG.getD i default) (h.res _ hm).2.2.1.1 h.ln.2.2.2.2.2.1 (h.bkD _ hm) hL;simp only[J0,Da,aN,aB,nn,Ll hi,if_true,toN];show(Option.bind (Vg L s (s.aG.getD i default)) λr6=>some r6)=_
 rw[e];rfl
theorem kd2(L:Nat)(s:Aa)(i:Nat)(hi:i<s.aM.length):Da L s 2 (i:Int)=some (Avv (s.aM.getD i default)):=by
 have e:∀p:Int,(decide (p>=1) && decide (p<=3))=Bo 1 3 p:=λ_=>rfl;simp only[J0,Da,aN,aB,nn,Ll hi,if_true,toN,Jw,Gu,Ha,Co,Du,e,Bac];rfl
theorem kd3(L:Nat)(s:Aa)(i:Nat)(hi:i<s.bL.length):Da L s 3 (i:Int)=some (A4p (s.bL.getD i default)):=by
 simp only[J0,Da,aN,aB,nn,Ll hi,if_true,toN,Jw,Gu,Ha,Co,Bdr,F9];cases Bo 1 1000 (s.bL.getD i default).Length<;>cases Bo 1 1000 (s.bL.getD i default).Step<;>rfl
theorem kd9(L:Nat)(s:Aa)(i:Nat)(hi:i<s.aD.length)(h:SG s)(hL:Ko<=L):Da L s 9 (i:Int)=some (Ax1 (s.aD.getD i default)):=by
 have hm:s.aD.getD i default∈s.aD:=by rw[Kj _ i hi];exact List.getElem_mem hi
 simp only[J0,Da,aN,aB,nn,Ll hi,if_true,toN,A52 L _ (h.routs _ hm) (h.bkR _ hm) hL,Co];rfl
theorem kdN(L:Nat)(s:Aa)(κ :Int)(i:Int)(h: κ =4\/κ =5\/κ =6\/κ =7\/κ =8):Da L s κ i=some 0:=by
 rcases h with rfl|rfl|rfl|rfl|rfl<;>(simp only[J0,Da,aN,aB];rfl)
theorem Bl1{α :Type} [Inhabited α](nm: α->Yb)(xs:List α)(i:Nat)(hi:i<xs.length):(xs.map nm).getD i default=nm (xs.getD i default):=by
 rw[Kj _ i (by simpa using hi),Kj _ i hi,List.getElem_map]
theorem Bci{α :Type} [Inhabited α](nm: α->Yb)(g: α->Int)(xs:List α)(L:Nat)(s:Aa)(r1:List (List Yb))(κ :Nat)(hκ : κ<r1.length)(hr:r1.getD κ default=xs.map nm)
  (hd:∀i,i<xs.length->Da L s (κ :Int) (i:Int)=some (g (xs.getD i default)))(ho:∀x∈xs,okS (nm x))(hL:maxLen<L)(hx:xs.length<=1048576):
  ∀(n i:Nat) (v:Int) (ks:List Yb),ks.length+xs.length<=1099511627776+i->i<=xs.length->xs.length-i<n->
  ∃j ks',Mc L r1 (κ :Int) s n v ks (i:Int)=some (if(Ew nm g ks (xs.drop i)).1=0 then(1,(v,ks',j)) else(0,((Ew nm g ks (xs.drop i)).1,ks',j)))/\((Ew nm g ks (xs.drop i)).1=0->ks'=(Ew nm g ks (xs.drop i)).2):=by
 intro n;have hM:=Bl
 induction n with
 |zero=>intro i v ks _ _ h;omega
 |succ n ih=>
  intro i v ks hk hi hn;have hlen:((r1.getD κ default).length:Int)=(xs.length:Int):=by rw[hr,List.length_map]
  have hlen':(r1.getD κ default).length=xs.length:=by rw[hr,List.length_map]
  by_cases hlt:i<xs.length
  ·have hg:(r1.getD κ default).getD i default=nm (xs.getD i default):=by rw[hr,Bl1 nm xs i hlt]
   have hm:xs.getD i default∈xs:=by rw[Kj _ i hlt];exact List.getElem_mem hlt
   have hnd:=Aak L (nm (xs.getD i default)) ks (ho _ hm) (by omega) hL;simp only[Mc,Aet,aN,aB,nn,Ll hκ,if_true,toN,hlen,hlen',Dn hlt,Ll hlt,decide_true,cond_true,hg,hnd,hd i hlt,Ha,Co];rw[Ao9 xs i hlt];by_cases h0:fE (Vd ks (nm (xs.getD i default))) (g (xs.getD i default))=0
   ·have e:Ew nm g ks (xs.getD i default::xs.drop (i+1))=Ew nm g (ks++ [nm (xs.getD i default)]) (xs.drop (i+1)):=by rw[Ew,if_neg (λhh=>hh h0)]
    obtain⟨j,ks',hj,he⟩:=ih (i+1) v (ks++ [nm (xs.getD i default)]) (by simp only[List.length_append,List.length_singleton];omega) hlt (by omega);rw[e];refine⟨j,ks',?_,he⟩;simp only[h0,bne_self_eq_false,cond_false,List.length_singleton];rw[if_pos (by omega),if_pos (by omega),Az hlt (by omega),hj]
   ·have e:Ew nm g ks (xs.getD i default::xs.drop (i+1))=(fE (Vd ks (nm (xs.getD i default))) (g (xs.getD i default)),ks):=by rw[Ew,if_pos h0]
    rw[e];exact⟨i,ks,by simp only[Xv h0,cond_true,if_neg h0],λhh=>absurd hh h0⟩
  ·have e:xs.drop i= []:=List.drop_eq_nil_of_le (by omega);rw[e,Ew];refine⟨i,ks,?_,λ_=>rfl⟩;simp only[Mc,Aet,aN,aB,nn,Ll hκ,if_true,toN,hlen,Dr (show xs.length<=i by omega),cond_false]
def Gr(e v:Int)(X:Option (Nat×(Int×List Yb×Int))):Prop:=∃a b,X=some (if e=0 then(1,(v,a,b)) else(0,(e,a,b)))
theorem Tw{α :Type} [Inhabited α](nm: α->Yb)(g: α->Int)(xs:List α)(most:Nat)(L:Nat)(s:Aa)(r1:List (List Yb))(κ :Nat)(hκ : κ<r1.length)(hr:r1.getD κ default=xs.map nm)
  (hmost:(κ =9/\most=16)\/(κ≠9/\most=32))
  (hd:∀i,i<xs.length->Da L s (κ :Int) (i:Int)=some (g (xs.getD i default)))(ho:∀x∈xs,okS (nm x))(hL:maxLen<L)(hx:xs.length<=1048576)
  (f:List Yb->Int×List Yb)(k:List (List Yb))(v:Int)(ks:List Yb)(c:Nat)(hc:ks.length<=c)(hcc:c<=1000)
  (h:∀ks',ks'.length<=c+32->Gr (f ks').1 v (Ia L r1 s k (κ +1) v ks')):Gr (Mh (J2 most nm g ks xs) f).1 v (Ia L r1 s (xs.map nm::k) κ v ks):=by
 have hM:=Bl;have e32:decide ((xs.length:Int)>32)=decide (32<xs.length):=gtN _ 32;have e16:decide ((xs.length:Int)>16)=decide (16<xs.length):=gtN _ 16;rw[Ia];simp only[List.length_map,e32,e16,nn,if_true,Ll hκ];have hb:(bif decide (32<xs.length)then some true else bif ((κ :Int) == 9)then some (decide (16<xs.length))else some false)=some (decide (most<xs.length)):=by
  rcases hmost with⟨rfl,rfl⟩|⟨h9,rfl⟩
  ·by_cases h1:32<xs.length
   ·rw[decide_eq_true h1,decide_eq_true (show 16<xs.length by omega)];rfl
   ·rw[decide_eq_false h1];rfl
  ·rw[beq_false_of_ne (show¬(κ :Int)=9 by omega)];cases decide (32<xs.length)<;>rfl
 rw[hb,Co];unfold J2;by_cases hm:most<xs.length
 ·rw[decide_eq_true hm,if_pos hm];exact⟨ks,κ,rfl⟩
 ·rw[decide_eq_false hm,if_neg hm,cond_false];obtain⟨j,ks',hj,he⟩:=Bci nm g xs L s r1 κ hκ hr hd ho hL hx L 0 v ks (by omega) (by omega) (by omega);rw[List.drop_zero]at hj he;have hj:Mc L r1 (κ :Int) s L v ks 0=_:=hj;rw[hj,Co];unfold Mh;by_cases h0:(Ew nm g ks xs).1=0
  ·rw[if_neg (by simp[h0]),if_pos h0,S5,<-he h0];refine h ks' ?_;have:=(A4y nm g xs ks h0).1;rw[he h0,this,List.length_append,List.length_map];rcases hmost with⟨_,rfl⟩|⟨_,rfl⟩<;>omega
  ·rw[if_pos h0,if_neg h0,H4];exact⟨ks',κ,by rw[if_neg h0]⟩
theorem Bql(p:Int×List Yb):p.1=(Mh p λb=>(0,b)).1:=by
 unfold Mh;by_cases h:p.1=0
 ·rw[if_neg (by simp[h]),h]
 ·rw[if_pos h]
theorem Az2(L:Nat)(s:Aa)(h:SG s)(hL:Ko<=L):Gr (Ao8 s).1 0 (Ia L (H5 s) s (H5 s) 0 0 []):=by
 have hl:=Hk hL;obtain⟨l0,l1,l2,l3,l4,l5,l6,l7,l8,l9⟩:=(A5f s).mono h.bk;rw[Bql,Ao8];simp only[A64];have e4:∀l:List Yb,l.map (λx=>x)=l:=λl=>List.map_id' l;have lt10:∀ {n:Nat},n<10->n<(H5 s).length:=λh=>h;have e5:∀k,k=H5 s->k= [s.bX.map λx=>x.aF,s.aG.map λx=>x.aF,s.aM.map λx=>x.aF,s.bL.map λx=>x.aF,s.bJ.map λx=>x,s.aZ.map λx=>x,s.bH.map λx=>x,s.bP.map λx=>x,s.bD.map λx=>x,s.aD.map λx=>x.aF]:=by
  intro k hk;rw[hk,e4,e4,e4,e4,e4];rfl
 suffices H:∀k,k=H5 s->Gr (Mh (J2 32 (λx:Aw=>x.aF) Xx [] s.bX) λb=>Mh (J2 32 (λx:Ak=>x.aF) (Bf3 s) b s.aG) λb=>Mh (J2 32 (λx:Au=>x.aF) Avv b s.aM) λb=>Mh (J2 32 (λx:Bg=>x.aF) A4p b s.bL) λb=>Mh (txE b s.bJ) λb=>Mh (txE b s.aZ) λb=>Mh (txE b s.bH) λb=>Mh (txE b s.bP) λb=>Mh (txE b s.bD) λb=>Mh (J2 16 (λx:Am=>x.aF) Ax1 b s.aD) λb=>(0,b)).1 0 (Ia L (H5 s) s k 0 0 [])from H _ rfl
 intro k hk;rw[e5 k hk];refine Tw _ _ s.bX 32 L s (H5 s) 0 (lt10 (by decide)) rfl (.inr ⟨by decide,rfl⟩) (λi hi=>kd0 L s i hi) (λx hx=>(h.vars x hx).1) hl l0 _ _ 0 [] 0 (Nat.le_refl _) (by decide) λks1 k1=>?_;refine Tw _ _ s.aG 32 L s (H5 s) 1 (lt10 (by decide)) rfl (.inr ⟨by decide,rfl⟩) (λi hi=>kd1 L s i hi h hl) (λx hx=>(h.res x hx).1) hl l1 _ _ 0 ks1 _ k1 (by decide) λks2 k2=>?_;refine Tw _ _ s.aM 32 L s (H5 s) 2 (lt10 (by decide)) rfl (.inr ⟨by decide,rfl⟩) (λi hi=>kd2 L s i hi) (λx hx=>(h.stores x hx).1) hl l2 _ _ 0 ks2 _ k2 (by decide) λks3 k3=>?_;refine Tw _ _ s.bL 32 L s (H5 s) 3 (lt10 (by decide)) rfl (.inr ⟨by decide,rfl⟩) (λi hi=>kd3 L s i hi) (λx hx=>(h.belts x hx).1) hl l3 _ _ 0 ks3 _ k3 (by decide) λks4 k4=>?_;refine Tw (λx:Yb=>x) (λ_=>0) s.bJ 32 L s (H5 s) 4 (lt10 (by decide)) (show(H5 s).getD 4 default=List.map (λx=>x) s.bJ from(e4 s.bJ).symm) (.inr ⟨by decide,rfl⟩) (λi _=>kdN L s _ _ (.inl rfl)) h.queues hl l4 _ _ 0 ks4 _ k4 (by decide) λks5 k5=>?_;refine Tw (λx:Yb=>x) (λ_=>0) s.aZ 32 L s (H5 s) 5 (lt10 (by decide)) (show(H5 s).getD 5 default=List.map (λx=>x) s.aZ from(e4 s.aZ).symm) (.inr ⟨by decide,rfl⟩) (λi _=>kdN L s _ _ (.inr (.inl rfl))) h.streams hl l5 _ _ 0 ks5 _ k5 (by decide) λks6 k6=>?_;refine Tw (λx:Yb=>x) (λ_=>0) s.bH 32 L s (H5 s) 6 (lt10 (by decide)) (show(H5 s).getD 6 default=List.map (λx=>x) s.bH from(e4 s.bH).symm) (.inr ⟨by decide,rfl⟩) (λi _=>kdN L s _ _ (.inr (.inr (.inl rfl)))) h.tallies hl l6 _ _ 0 ks6 _ k6 (by decide) λks7 k7=>?_
 refine Tw (λx:Yb=>x) (λ_=>0) s.bP 32 L s (H5 s) 7 (lt10 (by decide)) (show(H5 s).getD 7 default=List.map (λx=>x) s.bP from(e4 s.bP).symm) (.inr ⟨by decide,rfl⟩) (λi _=>kdN L s _ _ (.inr (.inr (.inr (.inl rfl))))) h.levels hl l7 _ _ 0 ks7 _ k7 (by decide) λks8 k8=>?_;refine Tw (λx:Yb=>x) (λ_=>0) s.bD 32 L s (H5 s) 8 (lt10 (by decide)) (show(H5 s).getD 8 default=List.map (λx=>x) s.bD from(e4 s.bD).symm) (.inr ⟨by decide,rfl⟩) (λi _=>kdN L s _ _ (.inr (.inr (.inr (.inr rfl))))) h.counts hl l8 _ _ 0 ks8 _ k8 (by decide) λks9 k9=>?_;refine Tw _ _ s.aD 16 L s (H5 s) 9 (lt10 (by decide)) rfl (.inl ⟨rfl,rfl⟩) (λi hi=>kd9 L s i hi h hL) (λx hx=>(h.routs x hx).1) hl l9 _ _ 0 ks9 _ k9 (by decide) λks10 k10=>?_;exact⟨ks10,10,rfl⟩
theorem Bfd(L:Nat)(s:Aa)(h:SG s)(hL:Ko<=L):Ail L s=some (Age Se s):=by
 have hl:=Hk hL;have hM:=Bl;obtain⟨a,b,e1⟩:=Az2 L s h hL;have e2:decide ((s.bZ.length:Int)>32)=decide (32<s.bZ.length):=gtN _ 32;have e3:decide ((s.Laws.length:Int)>32)=decide (32<s.Laws.length):=gtN _ 32;have h1:(H5 s).length=10:=rfl;simp only[A39,Afg,Al0,Afh,Al1,Afi,Ae9,Ail,Afg,Al0,Afh,Al1,Afi,Ae9,aN,aB,Apl L s h.len hl,Co,A5o L (H5 s) s L (by rw[h1];decide) (by rw[h1];omega),e1,e2,e3,Bga];by_cases h0:(Ao8 s).1=0
 ·rw[if_pos h0,S5,h0,H8];unfold Ax5 J2;by_cases h2:32<s.bZ.length
  ·rw[decide_eq_true h2,if_pos h2,Gk (show(6:Int)≠0 by decide)];rfl
  ·rw[decide_eq_false h2,if_neg h2,cond_false];obtain⟨j,hj⟩:=Bdn (lq:=Tv L s) (bd:=Z1 L s) (f:=A0k s) (λ_ _=>rfl) (λ_ _ _ _=>rfl) s.bZ 0 0 λx hx=>Bb2 L s x h.len (h.starts.2 x hx).2.1.1 hl;rw[A5p L s L h.starts.1 (Nat.lt_of_le_of_lt h.starts.1 hl),hj,Co];by_cases h3:Ri (A0k s) s.bZ=0
   ·rw[if_pos h3,S5,h3,H8];by_cases h4:32<s.Laws.length
    ·rw[decide_eq_true h4,if_pos h4];rfl
    ·rw[decide_eq_false h4,if_neg h4,cond_false];obtain⟨j,ks',hj,_⟩:=Byw (nm:=λl:Bh=>l.aF) (f:=A2a (Se s)) (lq:=Qm L s) (λ_ _ _=>rfl) s.Laws 0 0 [] (by simp;omega) (by
      intro x hx k i v ks hk;rw[Qm,Bh7 L s x ks (h.laws.2 x hx) h.len (by omega) hl,Co])
     rw[A5q L s L h.laws.1 (Nat.lt_of_le_of_lt h.laws.1 hl),hj,Co];by_cases hz:(Ew (λl:Bh=>l.aF) (A2a (Se s)) [] s.Laws).1=0
     ·rw[if_pos hz,S5,hz]
     ·rw[if_neg hz,H4]
   ·rw[if_neg h3,H4,Gk h3]
 ·rw[if_neg h0,H4,Gk h0]
theorem A8g(L:Nat)(m:Aj)(i:Nat)(hi:i<m.aH.length)(hl:m.aH.length<=maxLen):∀(n c:Nat) (v:Int),c<=i->i-c<n->
  ∃j,J3 L (i:Int) m n v (c:Int)=some (if Bmt ((m.aH.take i).drop c) (m.aH.getD i default)=true then(0,(4,j)) else(1,(v,j))):=by
 intro n;have hM:=Bl
 induction n with
 |zero=>intro c v _ h;omega
 |succ n ih=>
  intro c v hc hn;by_cases hlt:c<i
  ·have hcl:c<m.aH.length:=by omega
   obtain⟨j,hj⟩:=ih (c+1) v hlt (by omega);have e:(m.aH.take i).drop c=m.aH.getD c default::(m.aH.take i).drop (c+1):=by
    have h1:c<(m.aH.take i).length:=by rw[List.length_take];omega
    rw[List.drop_eq_getElem_cons h1,List.getElem_take,Kj _ c hcl]
   rw[e];unfold Bmt at hj ⊢;simp only[J3,Aaa,aN,aB,nn,Dn hlt,Ll hcl,if_true,toN,cond_true,Iu,Az hcl hl,hj,List.any_cons];by_cases h1:(m.aH.getD c default).aV=(m.aH.getD i default).aV
   ·by_cases h2:(m.aH.getD c default).To=(m.aH.getD i default).To
    ·exact⟨c,by simp only[decide_eq_true h1,decide_eq_true h2,cond_true,cond_false,Bool.true_and,Bool.false_and,Bool.and_self,Bool.false_or,Bool.true_or,if_true]⟩
    ·exact⟨j,by simp only[decide_eq_true h1,decide_eq_false h2,cond_true,cond_false,Bool.true_and,Bool.false_and,Bool.and_self,Bool.false_or,Bool.true_or,if_true]⟩
   ·exact⟨j,by simp only[decide_eq_false h1,cond_true,cond_false,Bool.true_and,Bool.false_and,Bool.and_self,Bool.false_or,Bool.true_or,if_true]⟩
  ·have e:(m.aH.take i).drop c= []:=List.drop_eq_nil_of_le (by rw[List.length_take];omega);rw[e];exact⟨c,by simp only[J3,Aaa,aN,aB,Dr (show i<=c by omega),cond_false];rfl⟩
theorem A8f(L:Nat)(m:Aj)(hm:m.aA.length<=maxLen)(hl:m.aH.length<=maxLen)(hL:maxLen<L):∀(k:List B9) (i:Nat) (v:Int),m.aH.drop i=k->
  ∃j,Kd L m k i v=some (if Ag2 m (m.aH.take i) k=0 then(1,(v,j)) else(0,(Ag2 m (m.aH.take i) k,j))):=by
 have hM:=Bl;intro k
 induction k with
 |nil=>intro i v _;exact⟨i,rfl⟩
 |cons x k ih=>
  intro i v h;obtain⟨hi,hx,hk⟩:=I8 h;obtain⟨j,hj⟩:=ih (i+1) v hk;obtain⟨c,hc⟩:=A8g L m i hi hl L 0 v (by omega) (by omega);rw[List.drop_zero,hx]at hc;have hc:J3 L (i:Int) m L v 0=_:=hc;have e:m.aH.take i++ [x]=m.aH.take (i+1):=by rw[List.take_add_one,List.getElem?_eq_getElem hi];congr 1;rw[<-hx,Kj _ i hi];rfl
  rw[Kd,Ag2,e];simp only[Bfc L m _ hm hL,Jw,Co,Bgb,Iu,F9,Hu,hc,Bev];rcases Bool.eq_false_or_eq_true (m.aA.any λd=>decide (d.aF=x.aV))with a1|a1
  ·rcases Bool.eq_false_or_eq_true (m.aA.any λd=>decide (d.aF=x.To))with a2|a2
   ·by_cases a3:x.aV=x.To
    ·exact⟨i,by simp[a1,a2,a3,fE]⟩
    ·rcases Bool.eq_false_or_eq_true (Bo 1 1000000000 x.bU)with a4|a4
     ·rcases Bool.eq_false_or_eq_true (Bmt (m.aH.take i) x)with a5|a5
      ·exact⟨i,by simp[a1,a2,a3,a4,a5,fE,R6,H4]⟩
      ·refine⟨j,?_⟩;simp only[a1,a2,a3,a4,a5,R6,decide_false,cond_false,Bool.not_true,Bool.or_self,if_false,Bool.and_self,Bool.true_eq_false,Bool.not_false,cond_true,H8,Bool.false_eq_true,Co,S5];exact hj
     ·exact⟨i,by simp[a1,a2,a3,a4,fE]⟩
   ·exact⟨i,by simp[a1,a2,fE]⟩
  ·exact⟨i,by simp[a1,fE]⟩
theorem Bb1(L:Nat)(m:Aj)(hm:m.aA.length<=maxLen)(hl:m.aH.length<=maxLen)(hL:maxLen<L):Akc L m=some (A5g m):=by
 have e32:decide ((m.aH.length:Int)>32)=decide (32<m.aH.length):=gtN _ 32;obtain⟨j,hj⟩:=A8f L m hm hl hL m.aH 0 0 rfl;have hj:Kd L m m.aH 0 0=some (if Ag2 m [] m.aH=0 then(1,(0,j)) else(0,(Ag2 m [] m.aH,j))):=hj;simp only[A03,Ab4,Aba,Akc,Ab4,Aba,aN,aB,e32,A2n L m L hl (Nat.lt_of_le_of_lt hl hL),hj,Co,A5g];by_cases h:32<m.aH.length
 ·rw[decide_eq_true h,if_pos h];rfl
 ·rw[decide_eq_false h,if_neg h,cond_false];by_cases h0:Ag2 m [] m.aH=0
  ·rw[if_pos h0,S5,h0]
  ·rw[if_neg h0,H4]
theorem Bn8{α :Type}{nm: α->Yb}{f: α->Int}{lq:List α->Nat->Int->Int->List Yb->Option (Nat×(Int×Int×List Yb×Int))}
  (hn:∀i v e ks,lq [] i v e ks=some (1,(v,e,ks,(i:Int)))):∀(k:List α) (i:Nat) (v e:Int) (ks:List Yb),ks.length+k.length<=1099511627776->
  (∀x∈k,∀(k:List α) (i:Nat) (v e:Int) (ks:List Yb),ks.length<=1099511627776->lq (x::k) i v e ks=bif fE (Vd ks (nm x)) (f x) != 0 then some (0,(fE (Vd ks (nm x)) (f x),fE (Vd ks (nm x)) (f x),ks,(i:Int)))else if(ks.length+ [nm x].length)*16<=140737488355328 then(if ks.length+ [nm x].length<=maxLen then lq k (i+1) v (fE (Vd ks (nm x)) (f x)) (ks++ [nm x])else none)else none)->
  ∃j e' ks',lq k i v e ks=some (if(Ew nm f ks k).1=0 then(1,(v,e',ks',j)) else(0,((Ew nm f ks k).1,e',ks',j))):=by
 intro k
 induction k with
 |nil=>intro i v e ks _ _;exact⟨i,e,ks,by rw[hn,Ew];rfl⟩
 |cons x k ih=>
  intro i v e ks hl h;rw[List.length_cons]at hl;rw[h x (by simp) k i v e ks (by omega)];by_cases h0:fE (Vd ks (nm x)) (f x)=0
  ·have e1:Ew nm f ks (x::k)=Ew nm f (ks++ [nm x]) k:=by rw[Ew,if_neg (λhh=>hh h0)]
   obtain⟨j,e',ks',hj⟩:=ih (i+1) v 0 (ks++ [nm x]) (by simp only[List.length_append,List.length_singleton];omega) λy hy=>h y (by simp[hy]);rw[e1,h0];refine⟨j,e',ks',?_⟩;have hM:=Bl;simp only[bne_self_eq_false,cond_false,List.length_singleton];rw[if_pos (by omega),if_pos (by omega),hj]
  ·have e1:Ew nm f ks (x::k)=(fE (Vd ks (nm x)) (f x),ks):=by rw[Ew,if_pos h0]
   rw[e1];exact⟨i,_,ks,by simp only[Xv h0,cond_true,if_neg h0];rfl⟩
theorem Bqm(n:Nat)(c:Nat)(e:Int):R6 (decide ((n:Int)<=(c:Int))) e=if c<n then e else 0:=by
 by_cases h:c<n
 ·rw[if_pos h,decide_eq_false (by omega)];rfl
 ·rw[if_neg h,decide_eq_true (by omega)];rfl
theorem Bb0(L:Nat)(m:Aj)(h:MG m)(hL:Ko<=L):Zz L m=some (Alu Se m):=by
 have hl:=Hk hL;have hM:=Bl;have hp:=h.ok.2.1;have u1:R6 (decide ((m.aJ.length:Int)<=32)) 6=if 32<m.aJ.length then 6 else 0:=Bqm _ 32 6
 have u2:R6 (decide ((m.aA.length:Int)<=16)) 6=if 16<m.aA.length then 6 else 0:=Bqm _ 16 6
 have u3:decide ((m.aA.length:Int)>0)=decide (0<m.aA.length):=gtN _ 0;simp only[A01,Abx,Ajp,Aby,Aa6,Zz,Abx,Ajp,Aby,Aa6,aN,aB,Sz L m.aF h.ok.1 (Nat.lt_of_le_of_lt h.ok.1 hl) (by omega),Gu,Ha,u1,u2,u3,Bb1 L m h.sites h.links hl,Co];unfold Alu;by_cases h0:Jt m.aF=0
 ·rw[h0,H8,H8];unfold J2;by_cases h1:32<m.aJ.length
  ·rw[if_pos h1,if_pos h1,Gk (show(6:Int)≠0 by decide)];rfl
  ·rw[if_neg h1,if_neg h1];obtain⟨j,e',ks',hj⟩:=Bn8 (nm:=λx:Aw=>x.aF) (f:=Xx) (lq:=Nr L m) (λ_ _ _ _=>rfl) m.aJ 0 0 0 [] (by simp;omega) (by
    intro x hx k i v e ks hk;rw[Nr,Bb3 L x ks (hp.2 x hx) (by omega) hl,Co])
   simp only[bne_self_eq_false,cond_false];rw[A2g L m L hp.1 (Nat.lt_of_le_of_lt hp.1 hl),hj,Co];by_cases h2:(Ew (λx:Aw=>x.aF) Xx [] m.aJ).1=0
   ·rw[if_pos h2,S5,h2,H8];by_cases h3:m.aA.length=0
    ·rw[decide_eq_false (show¬0<m.aA.length by omega)];rfl
    ·rw[decide_eq_true (show 0<m.aA.length by omega)];simp only[R6,cond_true,H8];by_cases h4:16<m.aA.length
     ·rw[if_pos h4,if_pos h4,Gk (show(6:Int)≠0 by decide)];rfl
     ·rw[if_neg h4,if_neg h4];obtain⟨j2,e2',ks2',hj2⟩:=Bn8 (nm:=λx:Aa=>x.aF) (f:=Age Se) (lq:=Ns L m) (λ_ _ _ _=>rfl) m.aA 0 0 0 [] (by simp;omega) (by
       intro x hx k i v e ks hk;have hn:okS x.aF:=by have:=(h.site x hx).ok;unfold B8 at this;exact this.1
       rw[Ns,Aak L x.aF ks hn (by omega) hl,Co,Bfd L x (h.site x hx) hL,Co,Ha,Co])
      simp only[bne_self_eq_false,cond_false];rw[A2h L m L h.sites (Nat.lt_of_le_of_lt h.sites hl),hj2,Co];by_cases h5:(Ew (λx:Aa=>x.aF) (Age Se) [] m.aA).1=0
      ·rw[if_pos h5,S5,h5,H8]
      ·rw[if_neg h5,H4,Gk h5]
   ·rw[if_neg h2,H4,Gk h2]
 ·rw[Gk h0,Gk h0];simp only[Xv h0,cond_true]
end Go.Proofs.YthjhkpgonleelaaGreatDoor.Ev
