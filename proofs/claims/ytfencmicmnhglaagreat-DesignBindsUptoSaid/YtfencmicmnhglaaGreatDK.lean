/-  Chapters 16 and 51, plainly: a model with other values of its parameters. -/
import Derived.Test.YtfencmicmnhglaaGreatQA
import Derived.Test.YtfencmicmnhglaaGreatCH
import Derived.Test.YtfencmicmnhglaaGreatDA
namespace Go.Proofs.YtfencmicmnhglaaGreat.Ev
open Go An
set_option maxRecDepth 100000
set_option linter.unusedVariables false
set_option linter.unusedSimpArgs false
set_option linter.unnecessarySimpa false
theorem Az4(L:Nat)(t n:Int):Xk L t n=some (Am4 t n):=by
 simp only [Ahx,Xk,aN,aB,Ae4,Option.bind_some,Am4]
 by_cases h2:t=2
 ·simp only [h2,beq_self_eq_true,cond_true,if_true]
  cases (n == 0)<;>rfl
 ·by_cases h3:t=3
  ·subst h3
   rw [beq_false_of_ne h2,cond_false,if_neg h2,beq_self_eq_true,cond_true,if_pos rfl]
   unfold Bx
   by_cases h4:0≤n
   ·simp only [decide_eq_true (show n≥0 from h4),decide_eq_true h4,cond_true,Bool.true_and]
   ·simp only [decide_eq_false (show¬n≥0 from h4),decide_eq_false h4,cond_false,Bool.false_and]
  ·rw [beq_false_of_ne h2,beq_false_of_ne h3,cond_false,cond_false,if_neg h2,if_neg h3]
def Ag0(a:List Ag):Nat→List Ah→List Ag→Int×List Ah
 |_,ps,[]=>(0,ps)
 |i,ps,x::k=>match ps.findIdx? fun p=>decide (p.Name=x.Name) with
  |none=>(5,ps)
  |some j=>if (a.take i).any (fun y=>decide (y.Name=x.Name)) then (4,ps)
   else if Am4 (ps.getD j default).Type_ x.N=false then (2,ps)
   else Ag0 a (i+1) (ps.set j ⟨(ps.getD j default).Name,(ps.getD j default).Type_,x.N⟩) k
theorem Aum(L:Nat)(c:Nat)(m:Ad)(b:ByteArray)(w:Ag)(ps:List Ah)(hc:c=ps.length)(hl:ps.length≤maxLen):∀(n i:Nat) (v:Int),i≤ps.length→ps.length - i < n→
  ∃u,K8 L c m b w ps n v (i:Int)=some (match (ps.drop i).findIdx? (fun x=>decide (x.Name=w.Name)) with|some j=>(0,(((i+j:Nat):Int),u))|none=>(1,(v,u))):=by
 have hM:=B4
 subst hc
 intro n
 induction n with
 |zero=>intro i v _ h;omega
 |succ n ih=>
  intro i v hi hn
  by_cases hlt:i < ps.length
  ·obtain ⟨u,hu⟩:=ih (i+1) v hlt (by omega)
   rw [Asj _ i hlt,List.findIdx?_cons]
   simp only [K8,Wp,aN,aB,nn,Ru hlt,decide_true,if_true,toN,cond_true,I2,Bh hlt hl,hu]
   by_cases h1:(ps.getD i default).Name=w.Name
   ·exact ⟨i,by simp only [decide_eq_true h1,cond_true,if_true];rfl⟩
   ·refine ⟨u,?_⟩
    simp only [decide_eq_false h1,cond_false,Bool.false_eq_true,if_false]
    cases (ps.drop (i+1)).findIdx? fun x=>decide (x.Name=w.Name) with
    |none=>rfl
    |some j=>simp only [Option.map_some];rw [show i+1+j=i+(j+1) by omega]
  ·rw [List.drop_eq_nil_of_le (by omega)]
   exact ⟨i,by simp only [K8,Wp,aN,aB,Hd (show ps.length≤i by omega),cond_false];rfl⟩
theorem Alv(L:Nat)(c:Nat)(m:Ad)(b:ByteArray)(w:Ag)(ps:List Ah)(hc:c=ps.length)(hl:ps.length≤maxLen)(hL:ps.length < L):Sa L c m b w ps=some (Nz (ps.findIdx? fun x=>decide (x.Name=w.Name))):=by
 obtain ⟨u,hu⟩:=Aum L c m b w ps hc hl L 0 0 (Nat.zero_le _) (by omega)
 have hu:K8 L c m b w ps L 0 0=_:=hu
 rw [List.drop_zero] at hu
 simp only [Sa,Ag1,W2,aN,aB,hu,Option.bind_some]
 cases ps.findIdx? fun x=>decide (x.Name=w.Name) with
 |none=>rfl
 |some j=>simp only [Lx,Nat.zero_add,Nz]
theorem Aun(L:Nat)(l:List Ag)(m:Ad)(b:ByteArray)(w:Ag)(ps:List Ah):∀(k:List Ag) (i:Nat) (v:Int),Lp L l m b w ps k i v=some (match k.findIdx? (fun x=>x.Name.toList == w.Name.toList) with|some j=>(0,(((i+j:Nat):Int),((i+j:Nat):Int)))|none=>(1,(v,((i+k.length:Nat):Int)))):=by
 intro k
 induction k with
 |nil=>intro i v;rfl
 |cons x k ih=>
  intro i v
  rw [Lp,ih,List.findIdx?_cons]
  cases hc:(fun x=>x.Name.toList == w.Name.toList) x with
  |true=>simp only [hc,cond_true,if_true];rfl
  |false=>
   simp only [hc,cond_false,if_false,Bool.false_eq_true]
   cases k.findIdx? (fun x=>x.Name.toList == w.Name.toList) with
   |some j=>simp [Nat.add_assoc,Nat.add_comm 1]
   |none=>simp [Nat.add_assoc,Nat.add_comm 1]
theorem Alw(L:Nat)(l:List Ag)(m:Ad)(b:ByteArray)(w:Ag)(ps:List Ah)(hl:l.length≤maxLen)(hL:l.length < L):Sb L l m b w ps=some (Nz (l.findIdx? (fun x=>decide (x.Name=w.Name)))):=by
 simp only [Sb,Ag2,Uz,aN,aB,Ao5 _ _ _ _ _ _ _ hl hL,Aun,I2,Option.bind_some]
 cases l.findIdx? (fun x=>decide (x.Name=w.Name)) with
 |none=>rfl
 |some i=>simp [Nz,Lx]
theorem Aul(L:Nat)(a:List Ag)(m:Ad)(ha:a.length≤maxLen)(hm:m.Params.length≤maxLen)(hL:maxLen < L):∀(k:List Ag) (i:Nat) (v:Int) (b:ByteArray) (ps:List Ah),a.drop i=k→ps.length=m.Params.length→
  ∃j c,Lo L a m k i v b ps=some (if (Ag0 a i ps k).1=0 then (1,(v,j,b,(Ag0 a i ps k).2)) else (0,((Ag0 a i ps k).1,j,⟨#[]⟩,c))):=by
 have hM:=B4
 intro k
 induction k with
 |nil=>intro i v b ps _ _;exact ⟨i,[],rfl⟩
 |cons x k ih=>
  intro i v b ps h hp
  obtain ⟨hi,hx,hk⟩:=N4 h
  have ht:(a.take i).length≤maxLen:=by rw [List.length_take];omega
  rw [Lo,Alv L m.Params.length m b x ps hp.symm (by omega) (by omega),Option.bind_some,Ag0]
  cases hq:ps.findIdx? (fun p=>decide (p.Name=x.Name)) with
  |none=>exact ⟨i,ps,rfl⟩
  |some g=>
   have hg:=Ais hq
   obtain ⟨j,c,hj⟩:=ih (i+1) v b (ps.set g ⟨(ps.getD g default).Name,(ps.getD g default).Type_,x.N⟩) hk (by rw [List.length_set];exact hp)
   simp only [show Nz (some g)=(g:Int) from rfl,decide_eq_false (show¬((g:Int) < 0) by omega),cond_false,Int.le_refl,Nat.le_refl,if_true,if_pos (show (i:Int)≤(a.length:Int) by omega),toN,List.drop_zero,Alw L (a.take i) m b x ps ht (by omega),Option.bind_some,nn,Ru (show g < m.Params.length by omega),Az4,Agg,hj]
   cases (a.take i).any fun y=>decide (y.Name=x.Name) with
   |true=>exact ⟨i,ps,rfl⟩
   |false=>
    cases hf:Am4 (ps.getD g default).Type_ x.N with
    |false=>exact ⟨i,ps,rfl⟩
    |true=>exact ⟨j,c,by simp only [cond_false,Bool.not_true,Bool.false_eq_true,if_false,Bool.true_eq_false]⟩
def Bd0(m:Ad)(l:List Ag)(e:Int):Ad×Int:=if e≠0 then (⟨⟨#[]⟩,[],[],[]⟩,e) else if (Ag0 l 0 m.Params l).1=0 then (⟨m.Name,(Ag0 l 0 m.Params l).2,m.Sites,m.Links⟩,0) else (⟨⟨#[]⟩,[],[],[]⟩,(Ag0 l 0 m.Params l).1)
theorem Av4(L:Nat)(m:Ad)(l:List Ag)(e:Int)(ht:Ks L m=some e)(h0:0 < m.Params.length)(hm:m.Params.length≤1048576)(hl:l.length≤maxLen)(hL:maxLen < L):Abi L m l=some (Bd0 m l e):=by
 have hM:=B4
 obtain ⟨j,c,hj⟩:=Aul L l m hl (by omega) hL l 0 0 ⟨#[]⟩ m.Params rfl rfl
 have hb:Nat.beq m.Params.length 0=false:=by cases h:m.Params.length with
  |zero=>omega
  |succ n=>rfl
 simp only [Amd,W8,Sd,Qp,Abi,W8,Sd,Qp,aN,aB,ht,Option.bind_some,if_pos h0,hb,cond_false,if_pos (show m.Params.length*32≤140737488355328 by omega),if_pos (show m.Params.length≤maxLen by omega),Ao4 L l m L hl (by omega),hj,Bd0]
 by_cases he:e=0
 ·simp only [he,bne_self_eq_false,cond_false,ne_eq,not_true_eq_false,if_false]
  by_cases hz:(Ag0 l 0 m.Params l).1=0
  ·rw [if_pos hz,if_pos hz];simp only [n8]
  ·rw [if_neg hz,if_neg hz];simp only [Lx]
 ·simp only [Zn he,cond_true,ne_eq,he,not_false_eq_true,if_true]
theorem Bqp(L:Nat):Acx L=some true:=rfl
theorem By0:maxLen < Xd:=Yl (Nat.le_refl Xd)
theorem B4d{m:Ad}(h:MG m):m.Params.length≤1048576:=by
 have h1:=h.bk
 have h2:m.Params.length≤C3 Gt m.Params:=Hj fun x=>by unfold Gt;omega
 unfold Hl at h1
 omega
theorem Bcd(L:Nat)(f:List Af)(hp:∀l∈fL f,0 < l)(hf:f.length≤maxLen):∀(k n i:Nat) (t:List Int),k≤f.length→k < n→i≤1000000→
  ∃j:Int×Int,K4 L f n (i:Int) ((k:Int) - 1) (List.replicate k 0++t)=some (0,(j.1,j.2,toI (ptN ((fL f).take k) i).1++t)):=by
 intro k
 induction k with
 |zero=>
  intro n i t hk hn _
  obtain ⟨n,rfl⟩:∃m,n=m+1:=⟨n - 1,by omega⟩
  have h0:decide ((((0:Nat):Int) - 1)≥0)=false:=by decide
  exact ⟨((i:Int),(0:Nat) - 1),by simp only [K4,S8,aN,aB,h0,cond_false,List.take_zero,ptN,toI,List.map_nil,List.replicate_zero,List.nil_append]⟩
 |succ k ih=>
  intro n i t hk hn hi
  obtain ⟨n,rfl⟩:∃m,n=m+1:=⟨n - 1,by omega⟩
  have hg:=Brg f k (by omega)
  have hl:k < (fL f).length:=by simp only [fL,List.length_map];omega
  have hpos:0 < (f.getD k default).Levels.length:=by rw [←hg,Hm _ k hl];exact hp _ (List.getElem_mem hl)
  have hle:i/(f.getD k default).Levels.length≤i:=Nat.div_le_self _ _
  obtain ⟨j1,h1⟩:=ih n (i/(f.getD k default).Levels.length) (((i % (f.getD k default).Levels.length:Nat):Int)::t) (by omega) (by omega) (by omega)
  have e:ptN ((fL f).take (k+1)) i=((ptN ((fL f).take k) (i/(f.getD k default).Levels.length)).1++ [i % (f.getD k default).Levels.length],(ptN ((fL f).take k) (i/(f.getD k default).Levels.length)).2):=by
   rw [Bc0 _ k hl,Bgv,hg]
  have e2:toI (ptN ((fL f).take (k+1)) i).1++t=toI (ptN ((fL f).take k) (i/(f.getD k default).Levels.length)).1++(((i % (f.getD k default).Levels.length:Nat):Int)::t):=by
   rw [e];simp [toI]
  have ek:(((k+1:Nat):Int) - 1)=(k:Int):=by omega
  have hd:decide (((f.getD k default).Levels.length:Int)=0)=false:=decide_eq_false (by omega)
  have hge:((k:Int)≥0)=True:=eq_true (by omega)
  have hw:Dp ((i/(f.getD k default).Levels.length:Nat):Int)=((i/(f.getD k default).Levels.length:Nat):Int):=by
   generalize i/(f.getD k default).Levels.length=q at hle
   exact V6 (by omega) (by omega)
  rw [e2,ek]
  exact ⟨j1,by simp only [K4,S8,aN,aB,hge,decide_true,cond_true,nn,if_true,toN,Ru (show k < f.length by omega),hd,Bool.not_false,B18,Bpk,Afb (show k≤maxLen by omega),Bnq,hw,h1]⟩
theorem Axn(L:Nat)(f:List Af)(m:Nat)(hs:SmF f)(h1:Avk f=0)(h2:m < Ji f)(hL:100 < L):Tv L f (m:Int)=some (toI (ptN (fL f) m).1,0):=by
 have hM:=B4
 have hlen:=hs.len
 have hu:=A59 h1
 have hm:=hu.most
 obtain ⟨j1,q1⟩:=Bcd L f hu.pos (by omega) f.length L m [] (Nat.le_refl _) (by omega) (by omega)
 have ht:(fL f).take f.length=fL f:=List.take_of_length_le (by simp [fL])
 rw [List.append_nil,List.append_nil,ht] at q1
 simp only [Ahz,Tl,O2,Tv,Tl,O2,aN,aB,Ae3 L f hs hL,Y3 L f hs hL,Option.bind_some]
 rw [h1,decide_eq_false (show¬(m:Int) < 0 by omega),show decide ((m:Int)≥(Ji f:Int))=false from decide_eq_false (by omega)]
 simp only [bne_self_eq_false,Option.bind_some,cond_false,nn,if_true,toN,Afb (show f.length≤maxLen by omega)]
 repeat rw [ifp (by omega)]
 rw [q1]
 rfl
theorem Ant(L:Nat)(f:List Af)(x:List Int)(hs:SmF f)(h:A49 f x=0)(hL:100 < L):Og L f x=some (Ae8 f x,0):=by
 have hM:=B4
 have hlen:=hs.len
 obtain ⟨hu,h2,h3⟩:=Bmo h
 obtain ⟨j1,hj1⟩:=Aj7 L f x x 0 [] (by omega) (by rw [List.drop_zero];exact h3) (by simp;omega)
 rw [List.drop_zero] at hj1
 simp only [Ac1,Pv,Kx,Og,Pv,Kx,aN,aB,Aru L f x hs hL,Option.bind_some,h]
 rw [Ahk L f x L (by omega) (by omega),hj1]
 rfl
theorem Bzu(t:Int)(l:List Int):∀(k:List Int) (i:Nat),l.drop i=k→lvE t l i k=0→∀j,i≤j→j < l.length→y6 t (l.getD j default)=true∧(0 < j→l.getD (j - 1) default < l.getD j default):=by
 intro k
 induction k with
 |nil=>intro i h _ j h1 h2;have:=Atn h;omega
 |cons x k ih=>
  intro i h hz j h1 h2
  obtain ⟨hi,hx,hk⟩:=N4 h
  rw [lvE] at hz
  split at hz
  ·cases hz
  split at hz
  ·cases hz
  rename_i a1 a2
  by_cases hj:j=i
  ·subst hj
   refine ⟨by rw [hx];simpa using a1,fun h0=> ?_⟩
   rw [hx]
   exact Int.not_le.1 fun hh=>a2 ⟨h0,hh⟩
  ·exact ih (i+1) hk hz j (by omega) h2
theorem Bdy{l:List Int}(h:∀j,0 < j→j < l.length→l.getD (j - 1) default < l.getD j default):∀(b a:Nat),a < b→b < l.length→l.getD a default < l.getD b default:=by
 intro b
 induction b with
 |zero=>intro a ha;omega
 |succ b ih=>
  intro a ha hb
  have h1:=h (b+1) (by omega) hb
  rw [Nat.add_sub_cancel] at h1
  by_cases e:a=b
  ·subst e;exact h1
  ·exact Int.lt_trans (ih a (by omega) (by omega)) h1
theorem Bi2{l:List Int}(h:∀j,0 < j→j < l.length→l.getD (j - 1) default < l.getD j default){a b:Nat}(ha:a < l.length)(hb:b < l.length)(e:l.getD a default=l.getD b default):a=b:=by
 rcases Nat.lt_trichotomy a b with h1|h1|h1
 ·have:=Bdy h b a h1 hb;omega
 ·exact h1
 ·have:=Bdy h a b h1 ha;omega
def By2(m:Ad)(x:Af):Prop:=∃p,(m.Params.find? fun p=>decide (p.Name=x.Name))=some p∧0 < x.Levels.length∧(∀j,j < x.Levels.length→y6 p.Type_ (x.Levels.getD j default)=true)∧∀j,0 < j→j < x.Levels.length→x.Levels.getD (j - 1) default < x.Levels.getD j default
theorem Ask{m:Ad}{f:List Af}{i:Nat}{x:Af}(h:A4s m f i x=0):By2 m x∧((f.take i).any fun y=>decide (y.Name=x.Name))=false:=by
 unfold A4s at h
 cases hp:m.Params.find? fun p=>decide (p.Name=x.Name) with
 |none=>rw [hp] at h;cases h
 |some p=>
  rw [hp] at h
  simp only at h
  cases ha:(f.take i).any fun y=>decide (y.Name=x.Name) with
  |true=>rw [ha] at h;cases h
  |false=>
   rw [ha] at h
   simp only [Bool.false_eq_true,if_false] at h
   unfold Bgh at h
   split at h
   ·cases h
   split at h
   ·cases h
   rename_i h1 _
   have hk:=Bzu p.Type_ x.Levels x.Levels 0 rfl h
   exact ⟨⟨p,hp,by omega,fun j hj=>(hk j (Nat.zero_le _) hj).1,fun j h0 hj=>(hk j (Nat.zero_le _) hj).2 h0⟩,rfl⟩
theorem Bj2{m:Ad}{f:List Af} :∀(k:List Af) (i:Nat),f.drop i=k→Aqt m f i k=0→∀j,i≤j→j < f.length→A4s m f j (f.getD j default)=0:=by
 intro k
 induction k with
 |nil=>intro i h _ j h1 h2;have:=Atn h;omega
 |cons x k ih=>
  intro i h hz j h1 h2
  obtain ⟨hi,hx,hk⟩:=N4 h
  rw [Aqt] at hz
  obtain ⟨z1,z2⟩:=Att.1 hz
  by_cases hj:j=i
  ·subst hj;rw [hx];exact z1
  ·exact ih (i+1) hk z2 j (by omega) h2
theorem Bra{m:Ad}{f:List Af}{e:Int}(h:Bed m f e=0):e=0∧0 < f.length∧(∀j,j < f.length→A4s m f j (f.getD j default)=0)∧Avk f=0:=by
 unfold Bed at h
 obtain ⟨h0,h1⟩:=Att.1 h
 split at h1
 ·cases h1
 split at h1
 ·cases h1
 rename_i a1 a2
 obtain ⟨h2,h3⟩:=Att.1 h1
 have hall:=Bj2 f 0 rfl h2
 split at h3
 ·cases h3
 rename_i a3
 refine ⟨h0,by omega,fun j hj=>hall j (Nat.zero_le _) hj,?_⟩
 unfold Avk
 rw [if_neg,if_neg (by omega)]
 rintro (hz|hz)
 ·exact a1 hz
 ·unfold fL at hz
  obtain ⟨x,hx,hl⟩:=List.mem_map.1 hz
  obtain ⟨j,hj,hjx⟩:=List.getElem_of_mem hx
  have:=(Ask (hall j (Nat.zero_le _) hj)).1
  rw [Hm f j hj,hjx] at this
  obtain ⟨p,_,h5,_⟩:=this
  omega
theorem A2t:∀ {p q:List Ah} (n:ByteArray),Aqw p q→(p.findIdx? fun x=>decide (x.Name=n))=q.findIdx? fun x=>decide (x.Name=n)
 | [],[],_,_=>rfl
 | [],_::_,_,h=>by cases h
 |_::_,[],_,h=>by cases h
 |x::p,y::q,n,h=>by
  unfold Aqw at h
  rw [List.map_cons,List.map_cons] at h
  injection h with h1 h2
  injection h1 with h1 h3
  rw [List.findIdx?_cons,List.findIdx?_cons,h1,A2t (p:=p) (q:=q) n h2]
theorem Bgi{p q:List Ah}(h:Aqw p q)(g:Nat)(hg:g < p.length):(p.getD g default).Name=(q.getD g default).Name∧(p.getD g default).Type_=(q.getD g default).Type_:=by
 have hq:g < q.length:=by rw [←A2u h];exact hg
 have h1:(p.map fun x=>(x.Name,x.Type_))[g]'(by rw [List.length_map];exact hg)=(q.map fun x=>(x.Name,x.Type_))[g]'(by rw [List.length_map];exact hq):=by
  have h2:p.map (fun x=>(x.Name,x.Type_))=q.map fun x=>(x.Name,x.Type_):=h
  simp only [h2]
 rw [List.getElem_map,List.getElem_map] at h1
 rw [Hm p g hg,Hm q g hq]
 exact ⟨congrArg Prod.fst h1,congrArg Prod.snd h1⟩
theorem Bgj{p q:List Ah}(h:Aqw p q)(g:Nat)(hg:g < p.length)(n:Int):Aqw (p.set g ⟨(p.getD g default).Name,(p.getD g default).Type_,n⟩) q:=by
 unfold Aqw at h ⊢
 rw [←h,List.map_set]
 have e:((p.getD g default).Name,(p.getD g default).Type_)=(p.map fun x=>(x.Name,x.Type_))[g]'(by rw [List.length_map];exact hg):=by rw [List.getElem_map,Hm p g hg]
 show (p.map fun x=>(x.Name,x.Type_)).set g ((p.getD g default).Name,(p.getD g default).Type_)=_
 rw [e,List.set_getElem_self]
theorem Bh5(a:List Ag)(f:List Af)(n:ByteArray)(h:(a.map fun y=>y.Name)=f.map fun y=>y.Name)(i:Nat):((a.take i).any fun y=>decide (y.Name=n))=(f.take i).any fun y=>decide (y.Name=n):=by
 have h1:((a.take i).map fun y=>y.Name)=(f.take i).map fun y=>y.Name:=by rw [List.map_take,List.map_take,h]
 have h2:∀ {β :Type} (nm: β→ByteArray) (l:List β),(l.any fun y=>decide (nm y=n))=(l.map nm).any fun z=>decide (z=n):=by
  intro β nm l
  rw [List.any_map];rfl
 rw [h2 (fun y:Ag=>y.Name),h2 (fun y:Af=>y.Name),h1]
theorem Al3:∀ {f:List Af} {x:List Int},x.length=f.length→((Ae8 f x).map fun y=>y.Name)=f.map fun y=>y.Name
 | [],[],_=>rfl
 | [],_::_,h=>by cases h
 |_::_,[],h=>by cases h
 |y::f,u::x,h=>by
  rw [Ae8,List.map_cons,List.map_cons,Al3 (f:=f) (x:=x) (by simpa using h)]
theorem A6w(m:Ad)(hm:∀p∈m.Params,N1 p.Type_=true)(f:List Af)(a:List Ag)(hn:(a.map fun y=>y.Name)=f.map fun y=>y.Name)(hf:∀j,j < f.length→A4s m f j (f.getD j default)=0):
  ∀(g:List Af) (x:List Int) (i:Nat) (ps:List Ah),f.drop i=g→okX (fL g) x=true→Aqw ps m.Params→(Ag0 a i ps (Ae8 g x)).1=0
 | [],[],i,ps,_,_,_=>rfl
 | [],_::_,_,_,_,h,_=>by cases h
 |_::_,[],_,_,_,h,_=>by cases h
 |y::g,u::x,i,ps,h,ho,hl=>by
  obtain ⟨hi,hy,hg⟩:=N4 h
  have hz:=hf i hi
  rw [hy] at hz
  obtain ⟨⟨p,hp,h1,h2,h3⟩,h4⟩:=Ask hz
  have ho':((decide (0≤u) && decide (u < (y.Levels.length:Int))) && okX (fL g) x)=true:=ho
  rw [Bool.and_eq_true,Bool.and_eq_true] at ho'
  obtain ⟨⟨o1,o2⟩,o3⟩:=ho'
  have o1:=of_decide_eq_true o1
  have o2:=of_decide_eq_true o2
  rw [Ae8,Ag0]
  rw [Acd] at hp
  rw [A2t y.Name hl]
  cases hq:m.Params.findIdx? fun p=>decide (p.Name=y.Name) with
  |none=>rw [hq] at hp;cases hp
  |some c=>
   rw [hq] at hp
   injection hp with hp
   have hp:m.Params.getD c default=p:=hp
   have hc:=Ais hq
   have hc2:c < ps.length:=by rw [A2u hl];exact hc
   have hpm:p∈m.Params:=by rw [←hp,Hm _ c hc];exact List.getElem_mem hc
   have ht:(ps.getD c default).Type_=p.Type_:=by rw [(Bgi hl c hc2).2,hp]
   have hfit:Am4 (ps.getD c default).Type_ (y.Levels.getD u.toNat default)=true:=by
    rw [ht,A1u (hm p hpm)]
    exact h2 u.toNat (by omega)
   simp only [Bh5 a f y.Name hn i,h4,hfit,Bool.false_eq_true,if_false,Bool.true_eq_false]
   exact A6w m hm f a hn hf g x (i+1) _ hg o3 (Bgj hl c hc2 _)
theorem A98:∀ {f:List Af} {x z:List Int},(∀y∈f,∀j,0 < j→j < y.Levels.length→y.Levels.getD (j - 1) default < y.Levels.getD j default)→okX (fL f) x=true→okX (fL f) z=true→Ae8 f x=Ae8 f z→x=z
 | [],[],[],_,_,_,_=>rfl
 | [],_::_,_,_,h,_,_=>by cases h
 | [],[],_::_,_,_,h,_=>by cases h
 |_::_,[],_,_,h,_,_=>by cases h
 |_::_,_::_,[],_,_,h,_=>by cases h
 |y::f,u::x,w::z,ha,h1,h2,e=>by
  have h1':((decide (0≤u) && decide (u < (y.Levels.length:Int))) && okX (fL f) x)=true:=h1
  have h2':((decide (0≤w) && decide (w < (y.Levels.length:Int))) && okX (fL f) z)=true:=h2
  rw [Bool.and_eq_true,Bool.and_eq_true] at h1' h2'
  obtain ⟨⟨a1,a2⟩,a3⟩:=h1'
  obtain ⟨⟨b1,b2⟩,b3⟩:=h2'
  have a1:=of_decide_eq_true a1
  have a2:=of_decide_eq_true a2
  have b1:=of_decide_eq_true b1
  have b2:=of_decide_eq_true b2
  rw [Ae8,Ae8] at e
  injection e with e1 e2
  injection e1 with _ e1
  have hn:=Bi2 (ha y (by simp)) (a:=u.toNat) (b:=w.toNat) (by omega) (by omega) e1
  rw [A98 (fun q hq=>ha q (by simp [hq])) a3 b3 e2,show u=w by omega]
theorem Arn(m:Ad)(f:List Af)(i k:Int)(hm:Yb m)(hf:f.length≤maxLen∧∀y∈f,Adm y)(hi:okI .u8 i)(hk:okI .u8 k)(hb:Hl m+(C3 Sx f+1)≤1048576):∃L,Xw L m f i k=some true:=by
 have h:MG m:=⟨hm,by omega⟩
 refine ⟨Xd,?_⟩
 have hM:=B4
 have hl:=By0
 obtain ⟨n,hn⟩:=A23 Xd h (Nat.le_refl _)
 simp only [Yd,Xw,aN,aB,Az3 Xd f hf.1 (by omega),hn,Bqp,Option.bind_some]
 cases hs:Ava f with
 |false=>rfl
 |true=>
  have hs:=smF hs
  have hpar:=B4d h
  have ht:=Bs2 h Xd (Nat.le_refl _)
  have htp:tmE m=0→∀p∈m.Params,N1 p.Type_=true:=fun h0 p hp=>by
   unfold tmE at h0
   exact ((Bwc (Att.1 h0).1).ok p hp).1
  have hc:=Art Xd f m _ ht htp (by omega) hs hl
  cases hd:decide (n > 3000) with
  |true=>rfl
  |false=>
   simp only [Bool.not_true,cond_false,Option.bind_some,hc]
   by_cases hz:Bed m f (tmE m)=0
   ·obtain ⟨h0,hlen,hfac,hu⟩:=Bra hz
    have hu':=A59 hu
    have hpos:0 < Ji f:=by rw [hu'.size];exact A28 hu'.pos
    have hmost:=hu'.most
    have hp0:0 < m.Params.length:=by
     obtain ⟨p,hp,_⟩:=(Ask (hfac 0 hlen)).1
     have:=List.mem_of_find?_eq_some hp
     exact List.length_pos_of_mem this
    have hu8:∀ {z:Int},okI .u8 z→0≤z∧z≤255:=fun hz=>by
     have h1:=(Bool.and_eq_true _ _).mp hz
     have h2:(0:Int)≤_:=of_decide_eq_true h1.1
     have h3:_≤(255:Int):=of_decide_eq_true h1.2
     exact ⟨h2,h3⟩
    obtain ⟨i1,i2⟩:=hu8 hi
    obtain ⟨k1,k2⟩:=hu8 hk
    obtain ⟨a,rfl⟩:=Int.eq_ofNat_of_zero_le i1
    obtain ⟨b,rfl⟩:=Int.eq_ofNat_of_zero_le k1
    have ha:a % Ji f < Ji f:=Nat.mod_lt _ hpos
    have hb':b % Ji f < Ji f:=Nat.mod_lt _ hpos
    have pa:=Bgr (Bgw (a % Ji f) hu'.pos)
    have pb:=Bgr (Bgw (b % Ji f) hu'.pos)
    have la:(toI (ptN (fL f) (a % Ji f)).1).length=f.length:=by simp only [toI,List.length_map,Az8,fL]
    have lb:(toI (ptN (fL f) (b % Ji f)).1).length=f.length:=by simp only [toI,List.length_map,Az8,fL]
    have ca:=A96 hu la pa
    have cb:=A96 hu lb pb
    have hbind:(Ag0 (Ae8 f (toI (ptN (fL f) (a % Ji f)).1)) 0 m.Params (Ae8 f (toI (ptN (fL f) (a % Ji f)).1))).1=0:=A6w m (htp h0) f _ (Al3 la) hfac f _ 0 m.Params rfl pa rfl
    have sl:∀x:List Int,x.length=f.length→(Ae8 f x).length=f.length:=fun x hx=>by
     have:=congrArg List.length (Al3 hx)
     rw [List.length_map,List.length_map] at this
     exact this
    have hf100:=hs.len
    have hbm:=Av4 Xd m (Ae8 f (toI (ptN (fL f) (a % Ji f)).1)) 0 (by rw [ht,h0]) hp0 hpar (by rw [sl _ la];omega) hl
    have hsame:decide (Ae8 f (toI (ptN (fL f) (a % Ji f)).1)=Ae8 f (toI (ptN (fL f) (b % Ji f)).1))=(((a % Ji f:Nat):Int) == ((b % Ji f:Nat):Int)):=by
     by_cases e:a % Ji f=b % Ji f
     ·rw [e,decide_eq_true rfl,beq_self_eq_true]
     ·rw [beq_false_of_ne (by omega)]
      apply decide_eq_false
      intro hh
      have h5:=A98 (fun y hy=>by
       obtain ⟨j,hj,hjx⟩:=List.getElem_of_mem hy
       have:=(Ask (hfac j hj)).1
       rw [Hm f j hj,hjx] at this
       obtain ⟨p,_,_,_,h7⟩:=this
       exact h7) pa pb hh
      have h6:=congrArg Bvs h5
      rw [Bbf,Bbf] at h6
      have h8:=congrArg (fun q=>ixN (fL f) q 0) h6
      simp only [By6,←hu'.size] at h8
      rw [Nat.mod_eq_of_lt ha,Nat.mod_eq_of_lt hb'] at h8
      exact e h8
    simp only [hz,bne_self_eq_false,cond_false,Y3 Xd f hs (by omega),Option.bind_some,decide_eq_false (show¬((Ji f:Nat):Int) < 1 by omega),show decide (((Ji f:Nat):Int) > 200)=false from decide_eq_false (by omega),decide_eq_false (show¬((Ji f:Nat):Int)=0 by omega),Bool.not_false,cond_true,
     V6 (show (-9223372036854775808:Int)≤((a:Nat):Int) by omega) (show ((a:Nat):Int)≤9223372036854775807 by omega),V6 (show (-9223372036854775808:Int)≤((b:Nat):Int) by omega) (show ((b:Nat):Int)≤9223372036854775807 by omega),Bpk,
     Axn Xd f _ hs hu ha (by omega),Axn Xd f _ hs hu hb' (by omega),Ant Xd f _ hs ca (by omega),Ant Xd f _ hs cb (by omega),hbm,Bd0,hbind,ne_eq,not_true_eq_false,if_false,if_true,beq_self_eq_true,
     Aj2 Xd _ (Ae8 f (toI (ptN (fL f) (b % Ji f)).1)) (show (Ae8 f (toI (ptN (fL f) (a % Ji f)).1)).length≤maxLen by rw [sl _ la];omega) (by rw [sl _ la];omega),hsame]
   ·simp only [Zn hz,cond_true]
end Go.Proofs.YtfencmicmnhglaaGreat.Ev
