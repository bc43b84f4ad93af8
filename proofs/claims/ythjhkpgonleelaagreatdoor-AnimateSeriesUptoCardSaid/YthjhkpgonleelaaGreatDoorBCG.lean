/-  Models, which no statement here reads, but its programs are checked as models. -/
import Derived.Test.YthjhkpgonleelaaGreatDoorBR0
import Derived.Test.YthjhkpgonleelaaGreatDoorBQA
import Derived.Test.YthjhkpgonleelaaGreatDoorBCE
namespace Go.Proofs.YthjhkpgonleelaaGreatDoor.Ev
open Go
def Asr(x:B5):Prop:=j5 x.From∧j5 x.To∧Vc .i64 x.Delay
def Asy(x:B5):Nat:=((x.From.size+1)+((x.To.size+1)+(1)))+1
def Agd(x:Aq):Prop:=j5 x.Name∧(x.Params.length≤maxLen∧∀y∈x.Params,Nn y)∧(x.Sites.length≤maxLen∧∀y∈x.Sites,Ch y)∧(x.Links.length≤maxLen∧∀y∈x.Links,Asr y)
def Abq(x:Aq):Nat:=((x.Name.size+1)+((Er Qq x.Params+1)+((Er Da x.Sites+1)+((Er Asy x.Links+1)))))+1
end Go.Proofs.YthjhkpgonleelaaGreatDoor.Ev
namespace Go.Proofs.YthjhkpgonleelaaGreatDoor.Ev
open Go An
set_option maxRecDepth 100000
set_option linter.unusedVariables false
set_option linter.unusedSimpArgs false
set_option linter.unnecessarySimpa false
def Aoj(l:List B5):List Br:=l.map fun x=>(⟨x.From,x.To⟩:Br)
def Biq(seen:List B5)(x:B5):Bool:=seen.any fun y=>decide (y.From=x.From) && decide (y.To=x.To)
theorem A61(m:Aq)(seen:List B5)(l:B5):Aud m seen l=if (m.Sites.any (fun d=>decide (d.Name=l.From)) && m.Sites.any (fun d=>decide (d.Name=l.To)))=false then 5
 else if l.From=l.To then 1 else if B7 1 1000000000 l.Delay=false then 2 else X3 (!Biq seen l) 4:=rfl
theorem Bc7(seen:List B5)(x:B5):((Aoj seen).any fun b=>x.From == b.a0 && x.To == b.a1)=Biq seen x:=by
 unfold Aoj Biq
 rw [List.any_map]
 congr 1
 funext y
 show (x.From == y.From && x.To == y.To)=_
 rw [Ak7,Ak7]
theorem A8a(m:Aq)(n:ByteArray):decide (A2a m n < 0)= !m.Sites.any fun d=>decide (d.Name=n):=by
 unfold A2a
 rw [Atq]
 cases h:m.Sites.findIdx? fun d=>decide (d.Name=n) with
 |none=>rw [Adj h];rfl
 |some i=>rw [Aad h];rfl
theorem Bbs(L:Nat)(m:Aq)(x:B5)(hm:m.Sites.length≤maxLen)(hL:maxLen < L)(seen:List B5):
  ∃ks',Mq L x m (Aoj seen) (tr (Aoj seen)) x=some (Aud m seen x,ks',tr ks')∧(Aud m seen x=0→ks'=Aoj (seen++ [x])):=by
 simp only [Mq,Vs,aN,aB,An5 L m _ hm hL,Ga,Option.bind_some,A8a,Wv,Qs,Rx,A61]
 rw [←Bc7]
 cases m.Sites.any (fun d=>decide (d.Name=x.From)) with
 |false=>exact ⟨_,rfl,fun h=>absurd (show (5:Int)=0 from h) (by decide)⟩
 |true=>
  cases m.Sites.any (fun d=>decide (d.Name=x.To)) with
  |false=>exact ⟨_,rfl,fun h=>absurd (show (5:Int)=0 from h) (by decide)⟩
  |true=>
   simp only [Bool.not_true,Bool.or_self,cond_false,Bool.and_self,Bool.true_eq_false,if_false]
   by_cases h1:x.From=x.To
   ·rw [decide_eq_true h1,if_pos h1];exact ⟨_,rfl,fun h=>absurd (show (1:Int)=0 from h) (by decide)⟩
   ·rw [decide_eq_false h1,if_neg h1,cond_false]
    cases B7 1 1000000000 x.Delay with
    |false=>exact ⟨_,rfl,fun h=>absurd (show (2:Int)=0 from h) (by decide)⟩
    |true=>
     simp only [Bool.not_true,cond_false,Bool.true_eq_false,if_false]
     cases hf:(Aoj seen).findIdx? fun b=>x.From == b.a0 && x.To == b.a1 with
     |some i=>
      rw [Aad hf]
      obtain ⟨h3,_⟩:=List.findIdx?_eq_some_iff_getElem.1 hf
      simp only [Ry,Asf h3]
      exact ⟨_,rfl,fun h=>absurd (show (4:Int)=0 from h) (by decide)⟩
     |none=>
      rw [Adj hf]
      simp only [Ry]
      rw [Ah3 (Aoj seen) (⟨x.From,x.To⟩:Br)]
      exact ⟨_,rfl,fun _=>by unfold Aoj;rw [List.map_append];rfl⟩
theorem Ak1(L:Nat)(l:List B5)(m:Aq)(hm:m.Sites.length≤maxLen)(hL:maxLen < L):∀(k:List B5) (i:Nat) (v:Int) (seen:List B5),
  ∃j a b,Gj L l m k i v (Aoj seen) (tr (Aoj seen))=some (if Air m seen k=0 then (1,(v,(j,a,b))) else (0,(Air m seen k,(j,a,b)))):=by
 intro k
 induction k with
 |nil=>intro i v seen;exact ⟨i,_,_,rfl⟩
 |cons x k ih=>
  intro i v seen
  obtain ⟨ks',he,hk⟩:=Bbs L m x hm hL seen
  rw [Gj,he,Option.bind_some,Air]
  by_cases h0:Aud m seen x=0
  ·have:=hk h0;subst this
   obtain ⟨j,a,b,hj⟩:=ih (i+1) v (seen++ [x])
   rw [h0,Pt]
   exact ⟨j,a,b,hj⟩
  ·rw [Ox h0]
   exact ⟨i,ks',tr ks',by simp only [g6 h0,cond_true,if_neg h0]⟩
theorem Amq(L:Nat)(m:Aq)(hm:m.Sites.length≤maxLen)(hl:m.Links.length≤maxLen)(hL:maxLen < L):W7 L m=some (Awy m):=by
 have e32:decide ((m.Links.length:Int) > 32)=decide (32 < m.Links.length):=gtN _ 32
 obtain ⟨j,a,b,hj⟩:=Ak1 L m.Links m hm hL m.Links 0 0 []
 have hj':Gj L m.Links m m.Links 0 0 [] []=_:=hj
 simp only [Aeo,M5,W7,M5,Vz,Aaj,Wz,Rc,aN,aB,e32,Ahf L m.Links m L hl (Nat.lt_of_le_of_lt hl hL),hj',Option.bind_some,Awy]
 by_cases h:32 < m.Links.length
 ·rw [decide_eq_true h,if_pos h];rfl
 ·rw [decide_eq_false h,if_neg h,cond_false]
  by_cases h0:Air m [] m.Links=0
  ·rw [if_pos h0,x0,h0];rfl
  ·rw [if_neg h0,R4];rfl
structure MG (m:Aq):Prop where
 ok:Agd m
 bk:Abq m≤1048576
theorem MG.sites{m:Aq}(h:MG m):m.Sites.length≤maxLen:=h.ok.2.2.1.1
theorem MG.site{m:Aq}(h:MG m):∀d∈m.Sites,SG d:=fun d hd=>⟨h.ok.2.2.1.2 d hd,by have h1:=Sd (g:=Da) hd;have h2:=h.bk;unfold Abq at h2;omega⟩
theorem MG.links{m:Aq}(h:MG m):m.Links.length≤maxLen:=h.ok.2.2.2.1
theorem Bgu(L:Nat)(m:Aq)(x:Ax)(hx:Nn x)(hL:maxLen < L)(ks:List ByteArray):
  ∃ks',J4 L x m ks (tr ks) x=some (fE (Xu ks x.Name) (d7 x),ks',tr ks')∧(fE (Xu ks x.Name) (d7 x)=0→ks'=ks++ [x.Name]):=by
 refine ⟨nx ks x.Name,?_,An0⟩
 have e:Vv L x.Name m ks (tr ks) x x=some (Xu ks x.Name,nx ks x.Name,tr (nx ks x.Name)):=u5 L x.Name hx.1 hL ks
 simp only [J4,Aag,Q0,aN,aB,e,Option.bind_some,d4,w3,Apu]
 by_cases h0:Xu ks x.Name=0
 ·simp only [h0,bne_self_eq_false,cond_false,Pt]
  cases Ww x.Type_<;>cases Aeu x.Type_ x.N<;>rfl
 ·simp only [g6 h0,cond_true,Ox h0]
theorem Bcy(L:Nat)(m:Aq)(a:List ByteArray)(b:List Bool)(x:Aa)(hx:SG x)(hL:Ts≤L)(ks:List ByteArray):
  ∃ks',Ij L x m a b ks (tr ks) x=some (fE (Xu ks x.Name) (Ahx Kr x),ks',tr ks')∧(fE (Xu ks x.Name) (Ahx Kr x)=0→ks'=ks++ [x.Name]):=by
 have hn:j5 x.Name:=by have:=hx.ok;unfold Ch at this;exact this.1
 refine ⟨nx ks x.Name,?_,An0⟩
 have e:Ui L x.Name m a b ks (tr ks) x x=some (Xu ks x.Name,nx ks x.Name,tr (nx ks x.Name)):=u5 L x.Name hn (Mb hL) ks
 simp only [Ij,l7,O8,aN,aB,e,Option.bind_some,An7 L x hx hL]
 by_cases h0:Xu ks x.Name=0
 ·simp only [h0,bne_self_eq_false,cond_false,Pt]
 ·simp only [g6 h0,cond_true,Ox h0]
theorem Amp(L:Nat)(m:Aq)(h:MG m)(hL:Ts≤L):Oo L m=some (Arj Kr m):=by
 have hl:=Mb hL
 have hp:=h.ok.2.1
 obtain ⟨a,b,e1⟩:=Out.e (T8 (nm:=fun x:Ax=>x.Name) (f:=d7) (lq:=Kc L m.Params m) (bd:=fun x ks vs=>J4 L x m ks vs x) (fun _ _ _ _=>rfl) (fun _ _ _ _ _ _=>rfl) 32 m.Params 0 [] _
  (Ahd L m.Params m L hp.1 (Nat.lt_of_le_of_lt hp.1 hl) 0 [] []) fun x hx ks=>Bgu L m x (hp.2 x hx) hl ks)
 have e1':Vu L m.Params m=some ((O3 32 (fun x:Ax=>x.Name) d7 [] m.Params).1,a,b):=e1
 obtain ⟨c,d,e2⟩:=Out.e (T8 (nm:=fun x:Aa=>x.Name) (f:=Ahx Kr) (lq:=Kd L m.Sites m a b) (bd:=fun x ks vs=>Ij L x m a b ks vs x) (fun _ _ _ _=>rfl) (fun _ _ _ _ _ _=>rfl) 16 m.Sites 0 [] _
  (Ahe L m.Sites m a b L h.sites (Nat.lt_of_le_of_lt h.sites hl) 0 [] []) fun x hx ks=>Bcy L m a b x (h.site x hx) hL ks)
 have e2':Vw L m.Sites m a b=some ((O3 16 (fun x:Aa=>x.Name) (Ahx Kr) [] m.Sites).1,c,d):=e2
 simp only [Aen,Rl,Ra,Pr,Lu,Oo,Rl,Ra,Pr,Lu,aN,aB,Km L m.Name h.ok.1 (Nat.lt_of_le_of_lt h.ok.1 hl),e1',e2',Amq L m h.sites h.links hl,Bgq,Option.bind_some]
 unfold Arj
 by_cases h0:Ni m.Name=0
 ·simp only [h0,bne_self_eq_false,cond_false,Pt]
  by_cases h1:(O3 32 (fun x:Ax=>x.Name) d7 [] m.Params).1=0
  ·simp only [h1,bne_self_eq_false,cond_false,Pt]
   by_cases h2:m.Sites.length=0
   ·rw [decide_eq_true h2,decide_eq_false (show¬0 < m.Sites.length by omega)];rfl
   ·rw [decide_eq_false h2,decide_eq_true (show 0 < m.Sites.length by omega)]
    simp only [X3,cond_true,cond_false,Pt]
    by_cases h3:(O3 16 (fun d:Aa=>d.Name) (Ahx Kr) [] m.Sites).1=0
    ·simp only [h3,bne_self_eq_false,cond_false,Pt]
    ·simp only [g6 h3,cond_true,Ox h3]
  ·simp only [g6 h1,cond_true,Ox h1]
 ·simp only [g6 h0,cond_true,Ox h0]
end Go.Proofs.YthjhkpgonleelaaGreatDoor.Ev
