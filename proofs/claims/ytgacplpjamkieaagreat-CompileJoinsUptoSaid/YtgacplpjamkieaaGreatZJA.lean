/-  Chapter 18, plainly: what compile makes of names and expressions, whatever went wrong before. -/
import Derived.Test.YtgacplpjamkieaaGreatZEA
import Derived.Test.YtgacplpjamkieaaGreatZQ10
set_option maxRecDepth 100000
set_option linter.unusedVariables false
set_option linter.unusedSimpArgs false
set_option linter.unnecessarySimpa false
namespace Go.Proofs.YtgacplpjamkieaaGreat.Ev
open Go An
def bO(b:Bool)(z:Int):Int:=bif b then 5 else z
theorem An9(a b:Bool)(z:Int):bO b (bO a z)=bO (a || b) z:=by cases a<;>cases b<;>rfl
def ScV{α :Type}(m:Ag)(v:Az)(F:Ab->Option (α×Ab))(a: α)(b:Bool):Prop:=∀z:Int,F ⟨m,v,z⟩=some (a,⟨m,v,bO b z⟩)
inductive GE:Nat->Aa->Prop
 |mk (d:Nat) (a0:Int) (a1:Yb) (a2:Int) (a3:List Aa) (h:a3.length<=maxLen) (hk:∀x∈a3,GE d x):GE (d+1) (.mk a0 a1 a2 a3)
theorem GE.mono{d:Nat}{e:Aa}(h:GE d e):∀ {k:Nat},d<=k->GE k e:=by
 induction h with
 |mk d a0 a1 a2 a3 h hk ih=>
  intro k hk';obtain⟨k,rfl⟩:∃j,k=j+1:=⟨k-1,by omega⟩;exact .mk k a0 a1 a2 a3 h λx hx=>ih x hx (by omega)
theorem GE.leaf{d:Nat}{a0:Int}{a1:Yb}{a2:Int} :GE (d+1) (.mk a0 a1 a2 []):=.mk d a0 a1 a2 [] (Nat.zero_le _) λx hx=>by cases hx
theorem Axc(L:Nat)(m:Ag)(v:Az)(s:Yb)(hl:v.aL.length<=maxLen):∀(j n:Nat),j<=v.aL.length->j<n->∃(t:Nat) (o:Int×Int),(t=0\/t=1)/\∀z,C2 L ⟨m,v,z⟩ s n 0 ((j:Int)-1)=some (t,o):=by
 intro j
 induction j with
 |zero=>
  intro n _ hn;obtain⟨n,rfl⟩:∃k,n=k+1:=⟨n-1,by omega⟩;exact⟨1,_,.inr (Eq.refl _),λz=>by simp only[C2,D2,aN];rfl⟩
 |succ j ih=>
  intro n hj hn;obtain⟨n,rfl⟩:∃k,n=k+1:=⟨n-1,by omega⟩;have hlt:j<v.aL.length:=by omega
  have e0:((j+1:Nat):Int)-1=(j:Int):=by omega
  have e1:decide ((j:Int)>=0)=true:=decide_eq_true (by omega);obtain⟨t,o,ht,hi⟩:=ih n (by omega) (by omega);cases hb:decide ((v.aL.getD j default).aG=s) with
  |true=>exact⟨0,((j:Int),(j:Int)),.inl (Eq.refl _),λz=>by simp only[C2,D2,aN,gD,Ib,e0,e1,nn,Ua hlt,toN,hb,cond_true,if_true,decide_true]⟩
  |false=>exact⟨t,o,ht,λz=>by simp only[C2,D2,aN,gD,Ib,e0,e1,nn,Ua hlt,toN,hb,cond_true,cond_false,if_true,decide_true,Abd (show j<=maxLen by omega),hi]⟩
theorem Ai0{L:Nat}(m:Ag){v:Az}(h:EB L v)(s:Yb):∃r,∀z,Du L ⟨m,v,z⟩ s=some r:=by
 have h1:=h.loc;have h2:=h.fuel;obtain⟨t,o,ht,hi⟩:=Axc L m v s h1 v.aL.length L (Nat.le_refl _) (by omega);rcases ht with rfl|rfl
 ·exact⟨o.1,λz=>by simp only[O8,D3,Du,D3,aN,aB,Abd h1,hi,Option.bind_some];rfl⟩
 ·exact⟨_,λz=>by simp only[O8,D3,Du,D3,aN,aB,Abd h1,hi,Option.bind_some];rfl⟩
theorem A1j{L:Nat}(m:Ag){v:Az}(h:EB L v)(n:Yb):∃a b,GE 1 a/\ScV m v (λc=>Gw L c n) a b:=by
 obtain⟨s,hs⟩:=Ai0 m h n;have hv:∀z,Eo L ⟨m,v,z⟩ n=some (P7 (v.aI.bG.findIdx? λx=>decide (x.aG=n))):=λz=>Ti (c:=⟨m,v,z⟩) h n;unfold ScV;simp only[O5,Gw,aN,aB,hs,hv,Option.bind_some];cases decide (s>=0)
 ·cases decide ((P7 (v.aI.bG.findIdx? λx=>decide (x.aG=n)))<0)
  ·exact⟨_,false,.leaf,λz=>rfl⟩
  ·exact⟨_,true,.leaf,λz=>rfl⟩
 ·exact⟨_,false,.leaf,λz=>rfl⟩
theorem Awg(Ayu:Ab->Aa->Option (Aa×Ab))(Bca:Ab->List Aa->Option (List Aa×Ab))(L:Nat)(a1:List Aa)(m:Ag)(v:Az)(d:Nat):
  ∀(k:List Aa),(∀x∈k,∃a b,GE d a/\ScV m v (λc=>Ayu c x) a b)->∃(w:List Aa) (b:Bool),w.length=k.length/\(∀y∈w,GE d y)/\
  ∀(i:Nat) (u:List Aa) (z:Int),u.length+k.length<=1099511627776->∃j:Int,Dh Ayu Bca L a1 k i u m.aG m.aJ m.aD m.bC v.aJ v.aL v.aI.aG v.aI.bG v.aI.aM v.aI.aO v.aI.bH v.aI.aX v.aI.aR v.aI.aT v.aI.bA v.aI.aU v.aI.aA v.aI.aZ v.aI.Laws z=some (0,(u++w,j,m.aG,m.aJ,m.aD,m.bC,v.aJ,v.aL,v.aI.aG,v.aI.bG,v.aI.aM,v.aI.aO,v.aI.bH,v.aI.aX,v.aI.aR,v.aI.aT,v.aI.bA,v.aI.aU,v.aI.aA,v.aI.aZ,v.aI.Laws,bO b z)):=by
 have hM:=Bp;intro k
 induction k with
 |nil=>intro _;exact⟨[],false,Eq.refl _,(λy hy=>by cases hy),λi u z _=>⟨i,by rw[List.append_nil];rfl⟩⟩
 |cons x k ih=>
  intro h;obtain⟨a,b,ha,hx⟩:=h x (by simp);have hx:∀z:Int,Ayu ⟨m,v,z⟩ x=some (a,⟨m,v,bO b z⟩):=hx;obtain⟨w,b',h1,h2,h3⟩:=ih λy hy=>h y (by simp[hy]);refine⟨a::w,b || b',by rw[List.length_cons,List.length_cons,h1],λy hy=>?_,λi u z hb=>?_⟩
  ·rcases List.mem_cons.1 hy with rfl|hy
   ·exact ha
   ·exact h2 y hy
  ·rw[List.length_cons]at hb;obtain⟨j,hj⟩:=h3 (i+1) (u++ [a]) (bO b z) (by simp only[List.length_append,List.length_cons,List.length_nil];omega);refine⟨j,?_⟩;rw[Dh];simp only[Sr,Wg,Aag,Ss,hx,Option.bind_some,List.length_cons,List.length_nil];rw[Jh (by omega),Jh (by omega),hj,An9,List.append_assoc];rfl
theorem Amk{L:Nat}{l:List Aa}{m:Ag}{v:Az}{d:Nat}(hl:l.length<=1048576)(hr:∀x∈l,∃a b,GE d a/\ScV m v (λc=>Ba L c x) a b)(hL:maxLen<L):∃w b,w.length=l.length/\(∀y∈w,GE d y)/\ScV m v (λc=>Bw (L+1) c l) w b:=by
 have hM:=Bp;obtain⟨w,b,h1,h2,h3⟩:=Awg (Ba L) (Bw L) L l m v d l hr;refine⟨w,b,h1,h2,λz=>?_⟩;obtain⟨j,h4⟩:=h3 0 [] z (by simp only[List.length_nil];omega);simp only[S2,Gd,N9,Bw,Gd,aN,aB,V6 _ _ L l L (show l.length<=maxLen by omega) (by omega),h4,Option.bind_some];rfl
theorem Ac0(m:Ag)(v:Az){e:Aa}(he:Co e)(hb:Bq e<=1048576):∀(L:Nat),EB L v->maxLen+2*dE e<L->∃a b,GE (dE e) a/\ScV m v (λc=>Ba L c e) a b:=by
 induction he with
 |mk a0 a1 a2 a3 h0 h1 h2 h3 h4 ih=>
  intro L hc hL;have hM:=Bp;obtain⟨L,rfl⟩:∃k,L=k+1+1:=⟨L-2,by omega⟩;rw[dE]at hL ⊢;have hk:∀x∈a3,∃a b,GE (dEs a3) a/\ScV m v (λc=>Ba L c x) a b:=by
   intro x hx;have hd:dE x<=dEs a3:=Ah9 hx;have hbx:Bq x<=1048576:=by
    have e1:Dr a3<=Bq (.mk a0 a1 a2 a3):=by rw[Bq];omega
    have e2:Bq x<=Dr a3:=by
     clear ih hL hb e1 hd
     induction a3 with
     |nil=>cases hx
     |cons y k ihk=>
      rw[Dr];rcases List.mem_cons.1 hx with rfl|hx
      ·omega
      ·have:=ihk (by rw[List.length_cons]at h3;omega) (λy hy=>h4 y (by simp[hy])) hx;omega
    omega
   obtain⟨a,b,g,s⟩:=ih x hx hbx L (hc.mono (by omega)) (by omega);exact⟨a,b,g.mono hd,s⟩
  have hlen:a3.length<=1048576:=by
   have e1:Dr a3<=Bq (.mk a0 a1 a2 a3):=by rw[Bq];omega
   have e2:a3.length<=Dr a3:=by
    clear ih hL hb e1 hk h3 h4
    induction a3 with
    |nil=>exact Nat.le_refl _
    |cons y k ihk=>
     rw[Dr,List.length_cons];have:1<=Bq y:=by cases y;rw[Bq];omega
     omega
   omega
  have hc1:EB (L+1) v:=hc.mono (by omega);obtain⟨wx,bx,hw,hg,hx⟩:=Amk hlen hk (by omega);obtain⟨an,bn,hgn,hn⟩:=A1j m hc1 a1;have hx:∀z:Int,Bw (L+1) ⟨m,v,z⟩ a3=some (wx,⟨m,v,bO bx z⟩):=hx;have hn:∀z:Int,Gw (L+1) ⟨m,v,z⟩ a1=some (an,⟨m,v,bO bn z⟩):=hn;have hi:∀z,Db (L+1) ⟨m,v,z⟩ a1=some (Anf v.aI a1).2:=λz=>Lu (c:=⟨m,v,z⟩) hc1 a1;unfold ScV;simp only[O4,Ox,Ba,aN,aB,Aa.cp_eq,Aa.Op,Aa.aG,Aa.N,Aa.bJ,Aa.eta,hn,hx,hi,Aak (L+1) _ a1 hc1.st hc1.fuel,Option.bind_some,Ib];cases (a0 == 3)
  ·cases (a0 == 22)
   ·cases (a0 == 23)
    ·cases (a0 == 24)
     ·exact⟨_,bx,.mk _ a0 a1 a2 wx (by omega) hg,λz=>rfl⟩
     ·cases decide (Ago v.aI a1=⟨#[113,117,101,117,101]⟩)
      ·exact⟨_,false,.leaf,λz=>rfl⟩
      ·exact⟨_,false,.leaf,λz=>rfl⟩
    ·exact⟨_,false,.leaf,λz=>rfl⟩
   ·exact⟨_,false,.leaf,λz=>rfl⟩
  ·exact⟨an,bn,hgn.mono (by omega),λz=>rfl⟩
end Go.Proofs.YtgacplpjamkieaaGreat.Ev
namespace Go.Proofs.YtgacplpjamkieaaGreat.Ev
open Go An
theorem Bir(x n:Int):Bb (Bb x+n)=Bb (x+n):=by
 unfold Bb IntKind.wrap;simp[IntKind.signed,IntKind.bits]
 repeat' split
 all_goals omega
def mvI(n:Int)(x:Ae):Ae:=bif x.Op == 4 || x.Op == 5 then⟨x.Op,Bb (x.A+n),x.B,x.C,x.E,x.F,x.aS,x.bR,x.bZ⟩else x
def mv(l:List Ae)(n:Int):List Ae:=l.map (mvI n)
theorem Bhc(a b:Int)(x:Ae):mvI b (mvI a x)=mvI (a+b) x:=by
 unfold mvI;cases h:(x.Op == 4 || x.Op == 5) with
 |true=>simp only[cond_true,h,Bir,Int.add_assoc]
 |false=>simp only[cond_false,h]
theorem A29(l:List Ae)(a b:Int):mv (mv l a) b=mv l (a+b):=by
 unfold mv;rw[List.map_map];exact congrArg (λf=>List.map f l) (funext λx=>Bhc a b x)
theorem A5d(a b:List Ae)(n:Int):mv (a++b) n=mv a n++mv b n:=List.map_append
theorem Ub(l:List Ae)(n:Int):(mv l n).length=l.length:=List.length_map _
theorem Bn7(n:Int):mv [] n= []:=rfl
theorem A7c(x:Ae)(l:List Ae)(n:Int):mv (x::l) n=mvI n x::mv l n:=rfl
theorem A61{α :Type} [Inhabited α](p k:List α)(x: α):(p++x::k).getD p.length default=x:=by
 rw[List.getD_eq_getElem?_getD,List.getElem?_append_right (Nat.le_refl _),Nat.sub_self];rfl
theorem Bck{α :Type}(p k:List α)(x y: α):(p++x::k).set p.length y=(p++ [y])++k:=by
 rw[List.set_append_right _ _ (Nat.le_refl _),Nat.sub_self,List.append_assoc];rfl
theorem Ani(L:Nat)(n:Int)(a0:List Ae):∀(k p:List Ae),p.length+k.length<=a0.length->∃j,Eu L n a0 k p.length (p++k)=some (0,(j,p++mv k n)):=by
 intro k
 induction k with
 |nil=>intro p _;exact⟨_,rfl⟩
 |cons x k ih=>
  intro p hi;rw[List.length_cons]at hi;obtain⟨j,hj⟩:=ih (p++ [mvI n x]) (by simp only[List.length_append,List.length_cons,List.length_nil];omega);have hp:(p++ [mvI n x]).length=p.length+1:=by simp
  rw[hp,List.append_assoc p [mvI n x] (mv k n)]at hj;refine⟨j,?_⟩;rw[Eu];have hl:((p++x::k).length:Int)=(p.length:Int)+k.length+1:=by rw[List.length_append,List.length_cons];omega
  simp only[toN,A61,Bck,hl];rw[Jh (by omega),Jh (by omega)];have e:(bif (x.Op == 4)then some true else some (x.Op == 5))=some (x.Op == 4 || x.Op == 5):=by
   cases (x.Op == 4)<;>rfl
  rw[e,Option.bind_some,A7c];cases hc:(x.Op == 4 || x.Op == 5) with
  |false=>
   have:mvI n x=x:=by unfold mvI;rw[hc];rfl
   rw[this]at hj ⊢;rw[List.append_assoc]at hj;exact hj
  |true=>
   have:mvI n x=⟨x.Op,Bb (x.A+n),x.B,x.C,x.E,x.F,x.aS,x.bR,x.bZ⟩:=by unfold mvI;rw[hc];rfl
   rw[this]at hj ⊢;exact hj
theorem Ab8(L:Nat)(a:List Ae)(n:Int)(ha:a.length<=8388608)(hL:maxLen<L):F2 L a n=some (mv a n):=by
 have hM:=Bp;obtain⟨j,h1⟩:=Ani L n a a [] (by simp);obtain⟨k,rfl⟩:∃k,L=k+1:=⟨L-1,by omega⟩;rw[List.nil_append,List.nil_append,List.length_nil]at h1;cases hz:Nat.beq a.length 0 with
 |true=>
  have h0:a.length=0:=Nat.eq_of_beq_eq_true hz;have h0':a= []:=List.length_eq_zero_iff.1 h0;simp only[Sk,E9,E6,E7,E8,F2,E9,E6,E7,E8,aN,aB,hz,cond_true,Km,R4];rw[h0'];rfl
 |false=>
  have h0:a.length≠0:=λh=>by rw[h]at hz;cases hz
  simp only[Sk,E9,E6,E7,E8,F2,E9,E6,E7,E8,aN,aB,hz,cond_false,Ace (k+1) n a (k+1) (show a.length<=maxLen by omega) (by omega),h1,Option.bind_some];rw[Jh (by omega),Jh (by omega),Jh (by omega)];rfl
structure GI (i:Ae):Prop where
 e:GE 1048578 i.E
 f:GE 1048578 i.F
 n:i.aS.length<=1048576
 a:∀y∈i.aS,GE 1048578 y
 d:Ark i.bR
theorem GI.mvI{i:Ae}(h:GI i)(n:Int):GI (mvI n i):=by
 unfold Ev.mvI;cases (i.Op == 4 || i.Op == 5)
 ·exact h
 ·exact⟨h.e,h.f,h.n,h.a,h.d⟩
def GIs(l:List Ae):Prop:=∀y∈l,GI y
theorem GIs.mv{l:List Ae}(h:GIs l)(n:Int):GIs (mv l n):=λy hy=>by
 obtain⟨x,hx,rfl⟩:=List.mem_map.1 hy;exact(h x hx).mvI n
theorem GIs.app{a b:List Ae}(h:GIs a)(h':GIs b):GIs (a++b):=λy hy=>(List.mem_append.1 hy).elim (h y) (h' y)
theorem GIs.nil:GIs []:=λy hy=>by cases hy
theorem GIs.one{x:Ae}(h:GI x):GIs [x]:=λy hy=>by rw[List.mem_singleton.1 hy];exact h
theorem GIs.set{l:List Ae}(h:GIs l)(i:Nat){x:Ae}(hx:GI x):GIs (l.set i x):=λy hy=>(List.mem_or_eq_of_mem_set hy).elim (h y) λe=>by rw[e];exact hx
theorem GE.zero{a:Int}{b:Yb}{c:Int} :GE 1048578 (.mk a b c []):=.leaf
theorem Avp:Ark ⟨0,0,0,0,[],[]⟩:=⟨Nat.zero_le _,Nat.zero_le _⟩
end Go.Proofs.YtgacplpjamkieaaGreat.Ev
namespace Go.Proofs.YtgacplpjamkieaaGreat.Ev
open Go An
theorem SC.exprV{L:Nat}{s:Ad}(h:SC L s)(m:Ag){v:Az}(hc:EB L v):(∃a b,GE 1048578 a/\ScV m v (λc=>Ba L c s.E) a b)/\(∃a b,GE 1048578 a/\ScV m v (λc=>Ba L c s.F) a b)/\(∃w b,w.length=s.aS.length/\(∀y∈w,GE 1048578 y)/\ScV m v (λc=>Bw L c s.aS) w b):=by
 obtain⟨b1,b2,b3,b4⟩:=h.bs;obtain⟨_,_,o3,o4,o5,_⟩:=A5f h.ok;have hf:=h.fuel;have d1:=Af2 s.E;have d2:=Af2 s.F;obtain⟨L,rfl⟩:∃k,L=k+1:=⟨L-1,by omega⟩;refine⟨?_,?_,Amk b3 (λx hx=>?_) (fuM (by omega))⟩
 ·obtain⟨a,b,g,s⟩:=Ac0 m v o3 b1 _ hc (fuE (by omega) (by omega));exact⟨a,b,g.mono (by omega),s⟩
 ·obtain⟨a,b,g,s⟩:=Ac0 m v o4 b2 _ hc (fuE (by omega) (by omega));exact⟨a,b,g.mono (by omega),s⟩
 ·have d3:=Af2 x;have d4:=b4 x hx;obtain⟨a,b,g,s⟩:=Ac0 m v (o5 x hx) d4 L (hc.mono (fuM (by omega))) (fuE (by omega) (by omega));exact⟨a,b,g.mono (by omega),s⟩
theorem A1k{L:Nat}{m:Ag}{v:Az}{s:Ad}(hs:SC L s)(hm:MB (maxLen+1) m v)(ht:Apm m v s=0):∃a b,GI a/\ScV m v (λc=>Gx L c s) a b:=by
 have hf:=hs.fuel;have hM:=Bp;have hc:EB L v:=hm.eb (fuM (by omega));obtain⟨⟨re,be,ge,e1⟩,_,⟨ra,ba,na,ga,a1⟩⟩:=hs.exprV m hc;have e1:∀z:Int,Ba L ⟨m,v,z⟩ s.E=some (re,⟨m,v,bO be z⟩):=e1;have a1:∀z:Int,Bw L ⟨m,v,z⟩ s.aS=some (ra,⟨m,v,bO ba z⟩):=a1;obtain⟨_,_,b3,_⟩:=hs.bs;have hS:m.aD.length<=maxLen:=by have:=hm.sites;omega
 have hK:m.bC.length<=maxLen:=by have:=hm.links;omega
 have hne:m.aD.find? (λx=>decide (x.aG=s.Of))≠none:=by
  intro h;unfold Apm at ht;rw[h]at ht;have h5:(5:Int)=0:=ht;omega
 obtain⟨q1,q2⟩:=A3t hne;have hd:m.aD.getD (Ajd m s.Of).toNat default∈m.aD:=by
  rw[Hj _ _ (show(Ajd m s.Of).toNat<m.aD.length by omega)];exact List.getElem_mem _
 have hr:=(hm.each _ hd).max.2.2.2.2.2.2.2.2.2;apply Exists.intro;refine⟨be || ba,?_,λz=>?_⟩
 rotate_left
 ·simp only[O7,Gx,aN,aB,gD,Aal L _ s.Of hS hc.fuel,Afm L _ _ s.Of hK hc.fuel,Option.bind_some];rw[Jh q1,Jh q2];simp only[Hk L _ s.aG hr (by have:=hc.fuel;omega),Aa.cp_eq,e1,a1,Option.bind_some,An9];rfl
 ·exact⟨ge,.leaf,by show ra.length<=_;omega,ga,Avp⟩
def LV(m:Ag)(v:Az)(L:Nat)(l:List Ad):Prop:=∃w b,GIs w/\w.length=N8 l/\ScV m v (λc=>Au L c l) w b
theorem Awx{L:Nat}{m:Ag}{v:Az}{s:Ad}(hs:SC (L+1) s)(hm:MB (maxLen+1) m v)(ho:s.Op=3\/s.Op=4/\s.aY= [])
  (hB:LV m v L s.aK)(hE:LV m v L s.aY):
  ∃w b,GIs w/\w.length=szS s/\ScV m v (λc=>Bo (L+1) c s) w b:=by
 have hf:=hs.fuel;have hM:=Bp;have hc:EB L v:=hm.eb (fuM (by omega));have hbk:=hs.bk;have hbs:=Abi s;have z1:=Zg s.aK;have z2:=Zg s.aY;obtain⟨o1,o2,o3,o4,o5,o6,_,_⟩:=A5f hs.ok;have d1:=Af2 s.E;obtain⟨re,be,ge,e1⟩:=Ac0 m v o3 (by omega) L hc (fuE (by omega) (by omega));have ge:GE 1048578 re:=ge.mono (by omega);obtain⟨rb,bb,gb,b2,b1⟩:=hB;obtain⟨rl,bl,gl,l2,l1⟩:=hE;have e1:∀z:Int,Ba L ⟨m,v,z⟩ s.E=some (re,⟨m,v,bO be z⟩):=e1;have b1:∀z:Int,Au L ⟨m,v,z⟩ s.aK=some (rb,⟨m,v,bO bb z⟩):=b1;have l1:∀z:Int,Au L ⟨m,v,z⟩ s.aY=some (rl,⟨m,v,bO bl z⟩):=l1;have m1:=Ab8 L rb 1 (by omega) (fuM (by omega));have m2:=Ub rb 1;have g1:∀q:Int,GI ⟨5,q,0,0,re,.mk 0 ⟨#[]⟩ 0 [],[],⟨0,0,0,0,[],[]⟩,false⟩:=λq=>⟨ge,.leaf,Nat.zero_le _,(λy hy=>by cases hy),Avp⟩;have g2:∀q:Int,GI ⟨4,q,0,0,.mk 0 ⟨#[]⟩ 0 [],.mk 0 ⟨#[]⟩ 0 [],[],⟨0,0,0,0,[],[]⟩,false⟩:=λq=>⟨.leaf,.leaf,Nat.zero_le _,(λy hy=>by cases hy),Avp⟩;have hl:∀z,F2 L rl z=some (mv rl z):=λz=>Ab8 L rl z (by omega) (fuM (by omega));have g0:=(GIs.one (g1 0)).app (gb.mv 1);rcases ho with h3|⟨h4,hn⟩
 ·by_cases hz:s.aY.length=0
  ·have hz':((s.aY.length:Int) == 0)=true:=by rw[hz];rfl
   have hz2:s.aY= []:=List.length_eq_zero_iff.1 hz;apply Exists.intro;refine⟨be || (bb || bl),?_,?_,λz=>?_⟩
   rotate_left 2
   ·simp only[Hh,Hg,Bo,aN,aB,Aa.cp_eq,e1,b1,m1,Option.bind_some,List.length_cons,List.length_nil];rw[Jh (by omega),Jh (by omega)];rw[show(s.Op == 4)=false by rw[h3];rfl,cond_false];simp only[l1,Option.bind_some,hz',cond_true,List.length_append,List.length_cons,List.length_nil];rw[Jh (by omega),Jh (by omega),An9,An9]
   ·exact g0.set _ (g1 _)
   ·simp only[List.length_set,List.length_append,List.length_cons,List.length_nil];rw[Ak6,m2,b2,hz2,h3];have:N8 ([]:List Ad)=0:=by unfold N8;rw[Gq,Qa]
    rw[this];have:more 3 ([]:List Ad)=0:=by decide
    omega
  ·have hz':((s.aY.length:Int) == 0)=false:=beq_false_of_ne (by omega);apply Exists.intro;refine⟨be || (bb || bl),?_,?_,λz=>?_⟩
   rotate_left 2
   ·simp only[Hh,Hg,Bo,aN,aB,Aa.cp_eq,e1,b1,m1,Option.bind_some,List.length_cons,List.length_nil];rw[Jh (by omega),Jh (by omega)];rw[show(s.Op == 4)=false by rw[h3];rfl,cond_false];simp only[l1,hl,Option.bind_some,hz',cond_false,List.length_append,List.length_cons,List.length_nil,List.length_set,Ub];rw[Jh (by omega),Jh (by omega),Jh (by omega),Jh (by omega),Jh (by omega),Jh (by omega),An9,An9]
   ·exact((g0.app (.one (g2 _))).set _ (g1 _)).app (gl.mv _)
   ·simp only[List.length_set,List.length_append,List.length_cons,List.length_nil,Ub];rw[Ak6,b2,l2,h3];have:more 3 s.aY=1:=by
     unfold more;rw[decide_eq_true (show 0<s.aY.length by omega)];rfl
    omega
 ·apply Exists.intro;refine⟨be || bb,?_,?_,λz=>?_⟩
  rotate_left 2
  ·simp only[Hh,Hg,Bo,aN,aB,Aa.cp_eq,e1,b1,m1,Option.bind_some,List.length_cons,List.length_nil];rw[Jh (by omega),Jh (by omega)];rw[show(s.Op == 4)=true by rw[h4];rfl,cond_true];simp only[List.length_append,List.length_cons,List.length_nil,Ub];rw[Jh (by omega),Jh (by omega),Jh (by omega),Jh (by omega),An9]
  ·exact(g0.app (.one (g2 _))).set _ (g1 _)
  ·simp only[List.length_set,List.length_append,List.length_cons,List.length_nil,Ub];rw[Ak6,b2,hn,h4];have:N8 ([]:List Ad)=0:=by unfold N8;rw[Gq,Qa]
   rw[this];have:more 4 ([]:List Ad)=1:=by decide
   omega
end Go.Proofs.YtgacplpjamkieaaGreat.Ev
namespace Go.Proofs.YtgacplpjamkieaaGreat.Ev
open Go An
theorem SC.dist{L:Nat}{s:Ad}(h:SC L s):Ark s.bR:=by
 have h1:=h.bk;rw[<-Abi]at h1;unfold Nn at h1;have h2:s.bR.bD.length<=Ic (λz:Int=>1) s.bR.bD:=Hr λ_=>Nat.le_refl _;have h3:s.bR.bB.length<=Ic (λz:Int=>1) s.bR.bB:=Hr λ_=>Nat.le_refl _;exact⟨by omega,by omega⟩
theorem GI.base{o a b c:Int}{e f:Aa}{g:List Aa}{d:Aj}{t:Bool}(he:GE 1048578 e)(hf:GE 1048578 f)(hn:g.length<=1048576)(hg:∀y∈g,GE 1048578 y)(hd:Ark d):GI ⟨o,a,b,c,e,f,g,d,t⟩:=⟨he,hf,hn,hg,hd⟩
theorem A1l{L:Nat}{m:Ag}{v:Az}{s:Ad}(hs:SC L s)(hm:MB (maxLen+1) m v)
  (hch:s.Op=3\/s.Op=4->∃w b,GIs w/\w.length=szS s/\ScV m v (λc=>Bo L c s) w b)
  (hz:s.Op≠3->s.Op≠4->szS s=1)(h13:s.Op=13->Apm m v s=0):
  ∃w b,GIs w/\w.length=szS s/\ScV m v (λc=>Bd (L+1) c s) w b:=by
 have hf:=hs.fuel;have hc:EB L v:=hm.eb (fuM (by omega));obtain⟨⟨re,be,ge,e1⟩,⟨rf,bf,gf,f1⟩,⟨ra,ba,na,ga,a1⟩⟩:=hs.exprV m hc;have e1:∀z:Int,Ba L ⟨m,v,z⟩ s.E=some (re,⟨m,v,bO be z⟩):=e1;have f1:∀z:Int,Ba L ⟨m,v,z⟩ s.F=some (rf,⟨m,v,bO bf z⟩):=f1;have a1:∀z:Int,Bw L ⟨m,v,z⟩ s.aS=some (ra,⟨m,v,bO ba z⟩):=a1;obtain⟨s1,t1⟩:=Ai0 m hc s.aG;obtain⟨s2,t2⟩:=Ai0 m hc s.Of;have hi:∀n z,Db L ⟨m,v,z⟩ n=some (Anf v.aI n).2:=λn z=>Lu (c:=⟨m,v,z⟩) hc n;have hv:∀n z,Eo L ⟨m,v,z⟩ n=some (P7 (v.aI.bG.findIdx? λx=>decide (x.aG=n))):=λn z=>Ti (c:=⟨m,v,z⟩) hc n;have hr:=hc.st.2.2.2.2.2.2.2.2.2;have hM:=hc.fuel;obtain⟨_,_,b3,_⟩:=hs.bs;have hna:ra.length<=1048576:=by omega
 have hD:=hs.dist;have hrf:Aa.mk rf.Op rf.aG rf.N rf.bJ=rf:=by cases rf;rfl
 have hE0:∀y∈([]:List Aa),GE 1048578 y:=λy hy=>by cases hy
 by_cases hx:s.Op=3\/s.Op=4
 ·obtain⟨w,b,c1,c2,c3⟩:=hch hx;have c3:∀z:Int,Bo L ⟨m,v,z⟩ s=some (w,⟨m,v,bO b z⟩):=c3;refine⟨w,b,c1,c2,λz=>?_⟩;simp only[Bm,sx_compile_scope_stmt_3,Bn,sx_compile_scope_stmt_2,Be,sx_compile_scope_stmt_0,Di,C8,Bd,sx_compile_scope_stmt_0,Be,sx_compile_scope_stmt_2,aN,aB,Ad.cp_eq,hi,c3,Option.bind_some];rcases hx with h|h
  ·rw[h];rfl
  ·rw[h];rfl
 ·have hz1:=hz (λh=>hx (.inl h)) (λh=>hx (.inr h));rw[hz1];unfold ScV;by_cases hy:s.Op=13
  ·obtain⟨r,b,c1,c2⟩:=A1k hs hm (h13 hy);have c2:∀z:Int,Gx L ⟨m,v,z⟩ s=some (r,⟨m,v,bO b z⟩):=c2;simp only[Bm,sx_compile_scope_stmt_3,Bn,sx_compile_scope_stmt_2,Be,sx_compile_scope_stmt_0,Di,C8,Bd,sx_compile_scope_stmt_0,Be,sx_compile_scope_stmt_2,Bn,sx_compile_scope_stmt_3,aN,aB,Ad.cp_eq,Aa.cp_eq,hi,c2,Option.bind_some,hy,Int.reduceBEq,cond_true,cond_false];exact⟨_,b,.one c1,Eq.refl _,λz=>Eq.refl _⟩
  ·rcases Apr s.Op with h|h|h|h|h|h|h|h|h|h|h|h|h|h|h|h|h|h|h|h
   case inr.inr.inl=>exact absurd (.inl h) hx
   case inr.inr.inr.inl=>exact absurd (.inr h) hx
   case inr.inr.inr.inr.inr.inr.inr.inr.inr.inr.inr.inr.inl=>exact absurd h hy
   case inr.inr.inr.inr.inr.inr.inr.inr.inr.inr.inr.inr.inr.inr.inr.inr.inr.inr.inl=>
    have h':s.Op<1\/18<s.Op:=.inl h;simp only[Bm,sx_compile_scope_stmt_3,Bn,sx_compile_scope_stmt_2,Be,sx_compile_scope_stmt_0,Di,C8,Bd,sx_compile_scope_stmt_0,Bm,Be,sx_compile_scope_stmt_2,Bn,sx_compile_scope_stmt_3,aN,aB,Ad.cp_eq,Aa.cp_eq,hi,e1,Option.bind_some,Sr,Wg,Aag,Ss,cond_false,A9 h' 1 (by decide) (by decide),A9 h' 2 (by decide) (by decide),A9 h' 3 (by decide) (by decide),A9 h' 4 (by decide) (by decide),A9 h' 5 (by decide) (by decide),A9 h' 6 (by decide) (by decide),A9 h' 7 (by decide) (by decide),A9 h' 8 (by decide) (by decide),A9 h' 9 (by decide) (by decide),A9 h' 10 (by decide) (by decide),A9 h' 11 (by decide) (by decide),A9 h' 12 (by decide) (by decide),A9 h' 13 (by decide) (by decide),A9 h' 14 (by decide) (by decide),A9 h' 15 (by decide) (by decide),A9 h' 16 (by decide) (by decide),A9 h' 17 (by decide) (by decide),A9 h' 18 (by decide) (by decide)];exact⟨_,be,.one (.base ge .leaf (Nat.zero_le _) hE0 Avp),rfl,λz=>rfl⟩
   case inr.inr.inr.inr.inr.inr.inr.inr.inr.inr.inr.inr.inr.inr.inr.inr.inr.inr.inr=>
    have h':s.Op<1\/18<s.Op:=.inr h;simp only[Bm,sx_compile_scope_stmt_3,Bn,sx_compile_scope_stmt_2,Be,sx_compile_scope_stmt_0,Di,C8,Bd,sx_compile_scope_stmt_0,Bm,Be,sx_compile_scope_stmt_2,Bn,sx_compile_scope_stmt_3,aN,aB,Ad.cp_eq,Aa.cp_eq,hi,e1,Option.bind_some,Sr,Wg,Aag,Ss,cond_false,A9 h' 1 (by decide) (by decide),A9 h' 2 (by decide) (by decide),A9 h' 3 (by decide) (by decide),A9 h' 4 (by decide) (by decide),A9 h' 5 (by decide) (by decide),A9 h' 6 (by decide) (by decide),A9 h' 7 (by decide) (by decide),A9 h' 8 (by decide) (by decide),A9 h' 9 (by decide) (by decide),A9 h' 10 (by decide) (by decide),A9 h' 11 (by decide) (by decide),A9 h' 12 (by decide) (by decide),A9 h' 13 (by decide) (by decide),A9 h' 14 (by decide) (by decide),A9 h' 15 (by decide) (by decide),A9 h' 16 (by decide) (by decide),A9 h' 17 (by decide) (by decide),A9 h' 18 (by decide) (by decide)];exact⟨_,be,.one (.base ge .leaf (Nat.zero_le _) hE0 Avp),rfl,λz=>rfl⟩
   all_goals
    simp only[Bm,sx_compile_scope_stmt_3,Bn,sx_compile_scope_stmt_2,Be,sx_compile_scope_stmt_0,Di,C8,Bd,sx_compile_scope_stmt_0,Bm,Be,sx_compile_scope_stmt_2,Bn,sx_compile_scope_stmt_3,aN,aB,Ad.cp_eq,Aa.cp_eq,hi,hv,Hk L _ s.aG hr (Nat.lt_of_le_of_lt hr hM),e1,f1,a1,t1,t2,Option.bind_some,h,Int.reduceBEq,cond_true,cond_false,Sr,Wg,Aag,Ss,An9,hrf]
   all_goals first
    |exact⟨_,false,.one (.base .leaf .leaf (Nat.zero_le _) hE0 Avp),rfl,λz=>rfl⟩
    |exact⟨_,false,.one (.base .leaf .leaf (Nat.zero_le _) hE0 hD),rfl,λz=>rfl⟩
    |exact⟨_,be,.one (.base ge .leaf (Nat.zero_le _) hE0 Avp),rfl,λz=>rfl⟩
    |exact⟨_,be || ba,.one (.base ge .leaf hna ga Avp),rfl,λz=>rfl⟩
    |exact⟨_,bf || be,.one (.base ge gf (Nat.zero_le _) hE0 Avp),rfl,λz=>rfl⟩
    |(cases decide (s1<0)
      ·exact⟨_,be,.one (.base ge .leaf (Nat.zero_le _) hE0 Avp),rfl,λz=>rfl⟩
      ·exact⟨_,be,.one (.base ge .leaf (Nat.zero_le _) hE0 Avp),rfl,λz=>rfl⟩)
def PL(D6:Ab->List Ad->Option (List Ae×Ab))(Zz:Ab->Ad->Option (List Ae×Ab))(m8:Ab->Ad->Option (List Ae×Ab))(L:Nat)(m:Ag)(v:Az)(k:List Ad)(w:List Ae)(b:Bool):Prop:=
 GIs w/\w.length=N8 k/\∀(a1:List Ad) (i:Nat) (u:List Ae) (z:Int),u.length+N8 k<=4194304->∃j:Int,Da D6 Zz m8 L a1 k i u m.aG m.aJ m.aD m.bC v.aJ v.aL v.aI.aG v.aI.bG v.aI.aM v.aI.aO v.aI.bH v.aI.aX v.aI.aR v.aI.aT v.aI.bA v.aI.aU v.aI.aA v.aI.aZ v.aI.Laws z=some (0,(u++mv w u.length,j,m.aG,m.aJ,m.aD,m.bC,v.aJ,v.aL,v.aI.aG,v.aI.bG,v.aI.aM,v.aI.aO,v.aI.bH,v.aI.aX,v.aI.aR,v.aI.aT,v.aI.bA,v.aI.aU,v.aI.aA,v.aI.aZ,v.aI.Laws,bO b z))
def XV(Zz:Ab->Ad->Option (List Ae×Ab))(m:Ag)(v:Az)(x:Ad)(a:List Ae)(b:Bool):Prop:=GIs a/\a.length=szS x/\∀z:Int,Zz ⟨m,v,z⟩ x=some (a,⟨m,v,bO b z⟩)
section
variable {D6:Ab->List Ad->Option (List Ae×Ab)} {Zz:Ab->Ad->Option (List Ae×Ab)} {m8:Ab->Ad->Option (List Ae×Ab)} {L:Nat} {m:Ag} {v:Az}
theorem PL.nil:PL D6 Zz m8 L m v [] [] false:=⟨.nil,by unfold N8;rw[Gq,Qa];rfl,λa1 i u z _=>⟨i,by rw[Bn7,List.append_nil];rfl⟩⟩
theorem PL.cons(hL:maxLen<L){x:Ad}{k:List Ad}{a w:List Ae}{b b':Bool}(hx:XV Zz m v x a b)(hk:PL D6 Zz m8 L m v k w b'):PL D6 Zz m8 L m v (x::k) (a++mv w a.length) (b || b'):=by
 have hM:=Bp;obtain⟨g1,n1,x1⟩:=hx;obtain⟨g2,n2,x2⟩:=hk;refine⟨g1.app (g2.mv _),by rw[List.length_append,Ub,Ac4];omega,λa1 i u z hb=>?_⟩;rw[Ac4]at hb;have m1:=Ab8 L a (u.length:Int) (by omega) hL;obtain⟨j,hj⟩:=x2 a1 (i+1) (u++mv a u.length) (bO b z) (by rw[List.length_append,Ub];omega);refine⟨j,?_⟩;rw[Da];simp only[Sr,Wg,Aag,Ss,x1,m1,Option.bind_some,Ub];rw[Jh (by omega),Jh (by omega),hj,An9,A5d,A29,List.append_assoc,List.length_append,Ub];rw[show((u.length+a.length:Nat):Int)=(a.length:Int)+(u.length:Int) by omega]
theorem PL.all(hL:maxLen<L):∀(k:List Ad),(∀x∈k,∃a b,XV Zz m v x a b)->∃w b,PL D6 Zz m8 L m v k w b:=by
 intro k
 induction k with
 |nil=>intro _;exact⟨[],false,.nil⟩
 |cons x k ih=>
  intro h;obtain⟨a,b,hx⟩:=h x (by simp);obtain⟨w,b',hk⟩:=ih λy hy=>h y (by simp[hy]);exact⟨_,_,.cons hL hx hk⟩
theorem PL.app(hL:maxLen<L){l:List Ad}{w2:List Ae}{b2:Bool}(hl:PL D6 Zz m8 L m v l w2 b2):∀(k:List Ad),(∀x∈k,∃a b,XV Zz m v x a b)->∃w b,PL D6 Zz m8 L m v k w b/\PL D6 Zz m8 L m v (k++l) (w++mv w2 w.length) (b || b2):=by
 intro k
 induction k with
 |nil=>
  intro _;refine⟨[],false,.nil,?_⟩;obtain⟨g,n,h⟩:=hl;refine⟨g.mv _,by rw[List.nil_append,List.nil_append,Ub];exact n,λa1 i u z hb=>?_⟩;obtain⟨j,hj⟩:=h a1 i u z hb;refine⟨j,?_⟩;rw[List.nil_append,List.nil_append,A29,List.length_nil,show((0:Nat):Int)+(u.length:Int)=(u.length:Int) by omega];exact hj
 |cons x k ih=>
  intro h;obtain⟨a,b,hx⟩:=h x (by simp);obtain⟨w,b',hk,hkl⟩:=ih λy hy=>h y (by simp[hy]);refine⟨_,_,.cons hL hx hk,?_⟩;have:=PL.cons hL hx hkl;rw[A5d,A29,<-List.append_assoc,<-Bool.or_assoc]at this;rw[List.length_append,Ub,show((a.length+w.length:Nat):Int)=(w.length:Int)+(a.length:Int) by omega];exact this
end
theorem Bc3(a b:List Ad):N8 (a++b)=N8 a+N8 b:=by
 induction a with
 |nil=>rw[List.nil_append,show N8 ([]:List Ad)=0 by unfold N8;rw[Gq,Qa],Nat.zero_add]
 |cons x k ih=>rw[List.cons_append,Ac4,Ac4,ih,Nat.add_assoc]
theorem PL.list{L:Nat}{m:Ag}{v:Az}{l:List Ad}{w:List Ae}{b:Bool}(n1:l.length<=maxLen)(n2:l.length<L)(hs:N8 l<=4194304)(h:PL (Au L) (Bd L) (Bo L) L m v l w b)(z:Int):Au (L+1) ⟨m,v,z⟩ l=some (mv w 0,⟨m,v,bO b z⟩):=by
 obtain⟨_,_,h⟩:=h;obtain⟨j,hj⟩:=h l 0 [] z (by rw[List.length_nil];omega);exact Ajc (c:=⟨m,v,z⟩) (c':=⟨m,v,bO b z⟩) n1 n2 hj
theorem Bjx{m:Ag}{v:Az}(hm:MB (maxLen+1) m v){l:List Ad}{L:Nat}(hF:Fc (L+1+1+1) l)(hch:H9 l=0)(hty:P9 m v l=0){x:Ad}(hx:x∈l)(ox:B3 x)
  (ib:Fc L x.aK->H9 x.aK=0->P9 m v x.aK=0->LV m v L x.aK)(ie:Fc L x.aY->H9 x.aY=0->P9 m v x.aY=0->LV m v L x.aY):∃a b,XV (Bd (L+1+1)) m v x a b:=by
 obtain⟨f1,f2⟩:=hF;have d1:=Alf hx;have d2:=Afy hx;have d3:=Abi x;obtain⟨k1,k2,k3⟩:=Ax3 hch hx;obtain⟨t1,t2,t3⟩:=A36 hty hx;obtain⟨u1,u2⟩:=A38 k1;have hsc:SC (L+1) x:=⟨by omega,ox,by omega⟩;refine A1l hsc hm (λhop=>Awx hsc hm (hop.imp id λh=>⟨h,u2 h⟩) (ib ⟨by omega,by omega⟩ k2 t2) (ie ⟨by omega,by omega⟩ k3 t3)) (λh3 h4=>?_) (λh=>?_)
 ·obtain⟨e1,e2⟩:=u1 h3 h4;rw[Ak6,e1,e2];have:N8 ([]:List Ad)=0:=by unfold N8;rw[Gq,Qa]
  rw[this];have:more x.Op ([]:List Ad)=0:=by unfold more;rw[beq_false_of_ne h3,beq_false_of_ne h4];rfl
  rw[this]
 ·unfold Av1 at t1;rw[h]at t1;exact t1
theorem Aiz{m:Ag}{v:Az}(hm:MB (maxLen+1) m v){l:List Ad}(hl:∀y∈l,B3 y):∀(L:Nat),Fc L l->H9 l=0->P9 m v l=0->LV m v L l:=by
 refine Zf (M:=λl=>∀(L:Nat),Fc L l->H9 l=0->P9 m v l=0->LV m v L l) ?_ hl;intro l ih L hF hch hty;have hF':=hF;obtain⟨f1,f2⟩:=hF';have hlen:=Adk l;have hsz:=Zg l;have hM:=Bp;obtain⟨L,rfl⟩:∃k,L=k+1+1+1:=⟨L-3,by omega⟩;obtain⟨w,b,h⟩:=PL.all (D6:=Au (L+1+1)) (Zz:=Bd (L+1+1)) (m8:=Bo (L+1+1)) (fuM (show 9223372036858970110<L+1+1 by omega)) l λx hx=>Bjx hm hF hch hty hx (ih x hx).1 ((ih x hx).2.1 L) ((ih x hx).2.2 L);exact⟨mv w 0,b,h.1.mv 0,by rw[Ub];exact h.2.1,λz=>h.list (by rw[hM];omega) (by omega) (by omega) z⟩
theorem A4a{m:Ag}{v:Az}(hm:MB (maxLen+1) m v){k l:List Ad}(hl:∀y∈k++l,B3 y)(L:Nat)(hF:Fc L (k++l))(hch:H9 (k++l)=0)(hty:P9 m v (k++l)=0):
  ∃w1 w2 b1 b2,GIs w1/\GIs w2/\w1.length=N8 k/\w2.length=N8 l/\∀z:Int,Au L ⟨m,v,z⟩ k=some (w1,⟨m,v,bO b1 z⟩)/\Au L ⟨m,v,z⟩ l=some (w2,⟨m,v,bO b2 z⟩)/\Au L ⟨m,v,z⟩ (k++l)=some (w1++mv w2 w1.length,⟨m,v,bO (b1 || b2) z⟩):=by
 have hF':=hF;obtain⟨f1,f2⟩:=hF';have hlen:=Adk (k++l);have hsz:=Zg (k++l);have hM:=Bp;rw[List.length_append]at hlen;have hsa:N8 (k++l)=N8 k+N8 l:=Bc3 k l;obtain⟨L,rfl⟩:∃k,L=k+1+1+1:=⟨L-3,by omega⟩;have hLm:maxLen<L+1+1:=fuM (by omega);have hone:∀x∈k++l,∃a b,XV (Bd (L+1+1)) m v x a b:=λx hx=>by
  obtain⟨_,_,_,_,_,_,o7,o8⟩:=A5f (hl x hx);exact Bjx hm hF hch hty hx (hl x hx) (Aiz hm o7 L) (Aiz hm o8 L)
 obtain⟨w2,b2,h2⟩:=PL.all (D6:=Au (L+1+1)) (m8:=Bo (L+1+1)) hLm l λx hx=>hone x (List.mem_append_right k hx);obtain⟨w1,b1,h1,h3⟩:=PL.app hLm h2 k λx hx=>hone x (List.mem_append_left l hx);refine⟨mv w1 0,mv w2 0,b1,b2,h1.1.mv 0,h2.1.mv 0,by rw[Ub];exact h1.2.1,by rw[Ub];exact h2.2.1,λz=>⟨h1.list (by rw[hM];omega) (by omega) (by omega) z,h2.list (by rw[hM];omega) (by omega) (by omega) z,?_⟩⟩;rw[h3.list (by rw[List.length_append,hM];omega) (by rw[List.length_append];omega) (by omega) z,A5d,A29,A29,Ub,Int.zero_add,Int.add_zero]
end Go.Proofs.YtgacplpjamkieaaGreat.Ev
namespace Go.Proofs.YtgacplpjamkieaaGreat.Ev
open Go An
theorem A0h(rec:List Ad->Int->Option Int)(L:Nat)(a0:List Ad)(v1:Int)(c:Nat)(hc:c<a0.length)(hs:SC L (a0.getD c default)):∀(n i:Nat) (v:Int),(a0.getD c default).aS.length-i<n->i<=(a0.getD c default).aS.length->∃t o,((t=0/\o.1= -1)\/t=1)/\P3 rec L a0 v1 (c:Int) n v (i:Int)=some (t,o):=by
 have hM:=Bp;obtain⟨_,_,b3,_⟩:=hs.bs;obtain⟨_,_,hA⟩:=hs.lights;intro n
 induction n with
 |zero=>intro i v h1 _;omega
 |succ n ih=>
  intro i v h1 h2;simp only[P3,Aai,aN,aB,gD,toN];rw[Jh (by omega),Jh (by omega)];by_cases hi:i<(a0.getD c default).aS.length
  ·rw[decide_eq_true (show(i:Int)<((a0.getD c default).aS.length:Int) by omega)];simp only[cond_true];cases decide ((Bb ((Bb (v1-1))-((a0.getD c default).aS.length:Int)))>=0) with
   |false=>exact⟨_,_,.inr rfl,rfl⟩
   |true=>
    obtain⟨b,hb⟩:=hA ((a0.getD c default).aS.getD i default) (by rw[Hj _ i hi];exact List.getElem_mem hi);simp only[cond_true];rw[Jh (by omega),Jh (by omega),Jh (by omega),Jh (by omega),Aa.cp_eq,hb,Option.bind_some,Iu (n:=(i:Int)+1) (by omega) (by omega)];cases b with
    |false=>exact⟨0,(-1,(i:Int)),.inl ⟨rfl,rfl⟩,rfl⟩
    |true=>exact ih (i+1) v (by omega) (by omega)
  ·rw[decide_eq_false (show¬(i:Int)<((a0.getD c default).aS.length:Int) by omega)];exact⟨_,_,.inr rfl,rfl⟩
theorem A8k{l:List Ad}{i:Nat}(hi:i<l.length):Gq (l.drop i)=1+Gq (l.getD i default).aK+Gq (l.getD i default).aY+Gq (l.drop (i+1)):=by
 rw[List.drop_eq_getElem_cons hi,Gq,Hj _ i hi,Aus];omega
theorem A0g(rec:List Ad->Int->Option Int)(L:Nat)(a0:List Ad)(ha:a0.length<=1048576)(h:∀x∈a0,SC L x/\(∀n:Int,n<=1048576->∃r,rec x.aK n=some r/\(0<=r->(Gq x.aK:Int)+r<=n))/\∀n:Int,n<=1048576->∃r,rec x.aY n=some r/\(0<=r->(Gq x.aY:Int)+r<=n)):∀(n i:Nat) (v w:Int),v<=1048576->a0.length-i<n->i<=a0.length->∃t o,((t=0/\o.2.1= -1)\/(t=1/\(0<=o.1->(Gq (a0.drop i):Int)+o.1<=v)))/\Li rec L a0 n v w (i:Int)=some (t,o):=by
 have hM:=Bp;intro n
 induction n with
 |zero=>intro i v w _ h1 _;omega
 |succ n ih=>
  intro i v w hv h1 h2;simp only[Li,Afh,Sy,Sv,Sy,Sv,aN,aB,gD,toN];by_cases hi:i<a0.length
  ·rw[decide_eq_true (show(i:Int)<(a0.length:Int) by omega)];simp only[cond_true];by_cases hv0:v>=0
   ·have hm:a0.getD i default∈a0:=by rw[Hj _ i hi];exact List.getElem_mem hi
    obtain⟨hs,hB,hE⟩:=h _ hm;obtain⟨⟨bE,l1⟩,⟨bF,l2⟩,_⟩:=hs.lights;obtain⟨_,_,b3,_⟩:=hs.bs;have hf:=hs.fuel;have hcd:=A8k hi;have q:=A0h rec L a0 v i hi hs L 0 w (by omega) (Nat.zero_le _);obtain⟨t,o,ht,hq⟩:=q;rw[show((0:Nat):Int)=(0:Int)from rfl]at hq;rw[decide_eq_true hv0];simp only[cond_true,Aa.cp_eq,l1,l2,Option.bind_some,hq]
    repeat rw[Jh (by omega)]
    have hz:Bb (Bb (v-1)-((a0.getD i default).aS.length:Int))=v-1-((a0.getD i default).aS.length:Int):=by
     rw[Iu (n:=v-1) (by omega) (by omega),Iu (by omega) (by omega)]
    rw[hz];have hi1:Bb ((i:Int)+1)=((i+1:Nat):Int):=by rw[Iu (by omega) (by omega)];omega
    have hk:∀a b,a<=1048576->(0<=a->(Gq (a0.getD i default).aK:Int)+(Gq (a0.getD i default).aY:Int)+1+a<=v)->∃t o,((t=0/\o.2.1= -1)\/(t=1/\(0<=o.1->(Gq (a0.drop i):Int)+o.1<=v)))/\Li rec L a0 n a b ((i+1:Nat):Int)=some (t,o):=λa b ha hab=>by
     obtain⟨t,o,h3,h4⟩:=ih (i+1) a b ha (by omega) (by omega);refine⟨t,o,?_,h4⟩;rcases h3 with h3|⟨h3,h5⟩
     ·exact .inl h3
     ·refine .inr ⟨h3,λho=>?_⟩;have h6:=h5 ho;have h7:=hab (by omega);rw[hcd];omega
    rw[hi1];cases bE with
    |false=>exact⟨_,_,.inl ⟨rfl,rfl⟩,rfl⟩
    |true=>
     cases bF with
     |false=>exact⟨_,_,.inl ⟨rfl,rfl⟩,rfl⟩
     |true=>
      rcases ht with⟨rfl,ho⟩|rfl
      ·exact⟨_,_,.inl ⟨rfl,ho⟩,rfl⟩
      ·simp only[Bool.not_true,cond_false,Option.bind_some,Ze];by_cases hzz:v-1-((a0.getD i default).aS.length:Int)>=0
       ·rw[decide_eq_true hzz];obtain⟨r8,h8,k8⟩:=hB (v-1-((a0.getD i default).aS.length:Int)) (by omega);simp only[cond_true,h8,Option.bind_some];by_cases h80:r8>=0
        ·have k8':=k8 h80;obtain⟨r9,h9,k9⟩:=hE r8 (by omega);rw[decide_eq_true h80];simp only[cond_true];rw[Jh (by omega),Jh (by omega),h9];refine hk _ _ ?_ λh0=>?_
         ·by_cases h90:0<=r9
          ·have:=k9 h90;omega
          ·omega
         ·have:=k9 h0;omega
        ·rw[decide_eq_false h80];exact hk _ _ (by omega) λh0=>by omega
       ·rw[decide_eq_false hzz];simp only[cond_false];exact hk _ _ (by omega) λh0=>by omega
   ·rw[decide_eq_false hv0];exact⟨1,(v,w,(i:Int)),.inr ⟨rfl,λh0=>absurd h0 hv0⟩,rfl⟩
  ·rw[decide_eq_false (show¬(i:Int)<(a0.length:Int) by omega)];refine⟨1,(v,w,(i:Int)),.inr ⟨rfl,λh0=>?_⟩,rfl⟩;rw[List.drop_eq_nil_of_le (by omega),Gq];show((0:Nat):Int)+v<=v
   omega
theorem A6e{l:List Ad}(hl:∀y∈l,B3 y):∀(L:Nat) (n:Int),n<=1048576->Fc L l->∃r,Kh L l n=some r/\(0<=r->(Gq l:Int)+r<=n):=by
 refine Zf (M:=λl=>∀(L:Nat) (n:Int),n<=1048576->Fc L l->∃r,Kh L l n=some r/\(0<=r->(Gq l:Int)+r<=n)) ?_ hl;intro l ih L n hn hF;obtain⟨f1,f2⟩:=hF;have hlen:=Adk l;obtain⟨L,rfl⟩:∃k,L=k+1:=⟨L-1,by omega⟩;obtain⟨t,o,ht,h⟩:=A0g (Kh L) L l (by omega) (λx hx=>by
  have d1:=Alf hx;have d2:=Afy hx;have d3:=Abi x;obtain⟨ox,ib,ie⟩:=ih x hx;exact⟨⟨by omega,ox,by omega⟩,λn hn=>ib L n hn ⟨by omega,by omega⟩,λn hn=>ie L n hn ⟨by omega,by omega⟩⟩) L 0 n 0 hn (by omega) (Nat.zero_le _)
 rw[show((0:Nat):Int)=(0:Int)from rfl]at h;simp only[Amn,Sw,Aho,Kh,Sw,aN,aB,h,Option.bind_some];rcases ht with⟨rfl,ho⟩|⟨rfl,ho⟩
 ·refine⟨_,rfl,λh0=>?_⟩;have h1:0<=o.2.1:=h0;omega
 ·refine⟨_,rfl,λh0=>ho h0⟩
theorem A39{l:List Ad}(hl:∀y∈l,B3 y)(L:Nat)(hF:Fc L l):∃r,T2 L l 60=some r/\(r=true->Gq l<=60):=by
 obtain⟨r,hr,hk⟩:=A6e hl L 60 (by decide) hF;simp only[Aeg,T2,aN,aB,hr,Option.bind_some];refine⟨_,rfl,λh=>?_⟩;have h0:=hk (of_decide_eq_true h);have h1:r>=0:=of_decide_eq_true h;omega
theorem A0y(i:Int)(m:Ag):∀(k:List Al) (c:Nat) (v:Bool),(∀r∈k,H7 r/\Dw r<=1048576)->∃t o,((t=0/\o.1=false)\/(t=1/\∀r∈k,Gq r.aK<=60))/\Nh P1 i m k c v=some (t,o):=by
 intro k
 induction k with
 |nil=>intro c v _;exact⟨1,_,.inr ⟨rfl,λr hr=>by cases hr⟩,rfl⟩
 |cons x k ih=>
  intro c v h;obtain⟨o1,o2⟩:=h x (by simp);obtain⟨_,_,b3⟩:=Aa7 o2;obtain⟨b,hb,hk⟩:=A39 (show∀y∈x.aK,B3 y from o1.2.2.2.2) P1 (Fc.of b3);rw[Nh,hb,Option.bind_some];cases b with
  |false=>exact⟨0,(false,(c:Int)),.inl ⟨rfl,rfl⟩,rfl⟩
  |true=>
   obtain⟨t,o,ht,hq⟩:=ih (c+1) v λr hr=>h r (by simp[hr]);refine⟨t,o,ht.imp id (λh=>⟨h.1,λr hr=>?_⟩),hq⟩;rcases List.mem_cons.1 hr with rfl|hr
   ·exact hk rfl
   ·exact h.2 r hr
theorem A0x{m:Ag}(h:MG m):∀(k:List Ac) (i:Nat) (v:Bool),m.aD.drop i=k->∃t o,((t=0/\o.1=false)\/(t=1/\∀s∈k,∀r∈s.aA,Gq r.aK<=60))/\Ng P1 m k i v=some (t,o):=by
 intro k
 induction k with
 |nil=>intro i v _;exact⟨1,_,.inr ⟨rfl,λs hs=>by cases hs⟩,rfl⟩
 |cons x k ih=>
  intro i v hk;obtain⟨hi,hx,hk'⟩:=X3 hk;have hm:x∈m.aD:=by rw[<-hx,Hj _ i hi];exact List.getElem_mem hi
  have hlen:=(h.site x hm).ln.2.2.2.2.2.2.2.2.2;obtain⟨t,o,ht,hq⟩:=A0y (i:Int) m x.aA 0 v (h.routs hm);rw[Ng,Ame P1 (i:Int) m P1 (by rw[toN,hx];exact hlen) (by rw[toN,hx];exact Nat.lt_of_le_of_lt hlen Alc),toN,hx,hq];dsimp only[Option.bind_some];generalize (bif (bif (bif (bif (bif (bif (bif (decide (((x.bG).length:Int)>10))then true else(decide (((x.aM).length:Int)>10)))then true else(decide (((x.aO).length:Int)>10)))then true else(decide (((x.aA).length:Int)>6)))then true else(decide (((x.aZ).length:Int)>10)))then true else(decide (((x.Laws).length:Int)>10)))then true else(decide (((x.aX).length:Int)>10)))then true else(decide (((x.aR).length:Int)>10)))=b;cases b with
  |true=>exact⟨0,(false,(i:Int)),.inl ⟨rfl,rfl⟩,rfl⟩
  |false=>
   rcases ht with⟨rfl,ho⟩|⟨rfl,ho⟩
   ·exact⟨0,(o.1,(i:Int)),.inl ⟨rfl,ho⟩,rfl⟩
   ·obtain⟨t',o',ht',hq'⟩:=ih (i+1) o.1 hk';refine⟨t',o',ht'.imp id (λh=>⟨h.1,λs hs=>?_⟩),hq'⟩;rcases List.mem_cons.1 hs with rfl|hs
    ·exact ho
    ·exact h.2 s hs
theorem A9r{m:Ag}(h:MG m):∃b,Z0 P1 m=some b/\(b=true->∀s∈m.aD,∀r∈s.aA,Gq r.aK<=60):=by
 obtain⟨t,o,ht,hq⟩:=A0x h m.aD 0 false rfl;simp only[Ap4,Vo,U4,Z0,Vo,U4,aN,aB,Amd P1 m P1 h.sites (Nat.lt_of_le_of_lt h.sites Alc),hq,Option.bind_some,Tc];generalize (decide ((m.aJ.length:Int)>10) || decide ((m.aD.length:Int)>4) || decide ((m.bC.length:Int)>10))=b;cases b with
 |true=>exact⟨_,rfl,λh=>by cases h⟩
 |false=>
  rcases ht with⟨rfl,ho⟩|⟨rfl,ho⟩
  ·exact⟨_,rfl,λh=>by rw[ho]at h;cases h⟩
  ·exact⟨_,rfl,λ_=>ho⟩
end Go.Proofs.YtgacplpjamkieaaGreat.Ev
namespace Go.Proofs.YtgacplpjamkieaaGreat.Ev
open Go An
theorem A5u{α :Type} [Inhabited α](l:List α)(lq:List α->Nat->Bool->Option (Nat×(Bool×Int)))(h0:∀(i:Nat) (v:Bool),lq [] i v=some (1,(v,(i:Int))))
  (h1:∀(i:Nat) (v:Bool) (x: α) (k:List α),i<l.length->x∈l->l.getD i default=x->lq (x::k) i v=lq k (i+1) v):∀(k:List α) (i:Nat) (v:Bool),l.drop i=k->∃j:Int,lq k i v=some (1,(v,j)):=by
 intro k
 induction k with
 |nil=>intro i v _;exact⟨i,h0 i v⟩
 |cons x k ih=>
  intro i v h;obtain⟨hi,hx,hk⟩:=X3 h;obtain⟨j,hj⟩:=ih (i+1) v hk;exact⟨j,by rw[h1 i v x k hi (by rw[<-hx,Hj _ i hi];exact List.getElem_mem hi) hx];exact hj⟩
theorem Arv(R8:Aa->Aa->Option Bool)(Btn:(List Aa)->(List Aa)->Option Bool)(L:Nat)(l:List Aa)(hl:∀x∈l,R8 x x=some true):∀(k:List Aa) (i:Nat) (v:Bool),l.drop i=k->∃j,K1 R8 Btn L l l k i v=some (1,(v,j)):=by
 intro k
 induction k with
 |nil=>intro i v _;exact⟨i,rfl⟩
 |cons x k ih=>
  intro i v h;obtain⟨h1,h2,h3⟩:=X3 h;obtain⟨j,hj⟩:=ih (i+1) v h3;have hx:x∈l:=List.mem_of_mem_drop (by rw[h];simp);refine⟨j,?_⟩;rw[K1,if_pos (by omega),toN,h2,hl x hx];exact hj
theorem Akm{d:Nat}{e:Aa}(h:GE d e):∀L,maxLen+2*d<L->Ga L e e=some true:=by
 induction h with
 |mk d a0 a1 a2 a3 h3 hk ih=>
  intro L hL;have hM:=Bp;obtain⟨L,rfl⟩:∃k,L=k+2:=⟨L-2,by omega⟩;have hr:∀x∈a3,Ga L x x=some true:=λx hx=>ih x hx L (by omega);obtain⟨j,hj⟩:=Arv (Ga L) (I7 L) L a3 hr a3 0 false rfl;have hA:I7 (L+1) a3 a3=some true:=by
   show z6 (Ga L) (I7 L) L a3 a3=some true
   simp only[z6,Al0,w8,m9,aN,aB,Aor (Ga L) (I7 L) L a3 a3 L h3 (by omega),hj,Option.bind_some,Ze];simp
  show Ahq (Ga (L+1)) (I7 (L+1)) (L+1) (.mk a0 a1 a2 a3) (.mk a0 a1 a2 a3)=some true
  simp only[Ahq,Amp,aN,aB,Aa.cp_eq,Aa.Op,Aa.aG,Aa.N,Aa.bJ,Aa.eta,hA,Option.bind_some];simp
theorem Aja(L:Nat)(l:List Int)(hl:l.length<=maxLen)(hL:maxLen<L):T3 L l l=some true:=by
 obtain⟨j,hj⟩:=A5u l (Jm L l l) (λ_ _=>rfl) (λi v x k hi _ hx=>by rw[Jm,if_pos (show(i:Int)<((l.length:Nat):Int) by omega),toN,hx];simp) l 0 false rfl;simp only[Aj1,Tu,Tk,T3,Tu,Tk,aN,aB,Am1 L l l L hl (by omega),hj,bne_self_eq_false,cond_false,Option.bind_some,Ze]
theorem A3m(L:Nat)(d:Aj)(h:Ark d)(hL:maxLen<L):Ac8 L d d=some true:=by
 have hM:=Bp;obtain⟨h1,h2⟩:=h;simp only[Amo,Ac8,aN,aB,Aja L d.bD (by omega) hL,Aja L d.bB (by omega) hL,Option.bind_some];simp
theorem Bhm(L:Nat)(a0:List Ae)(i:Nat)(x:Ae)(hx:a0.getD i default=x)(hn:x.aS.length<=maxLen)(hL:maxLen<L)(h:∀y∈x.aS,Ga L y y=some true)(v:Bool):∃j,F1 L a0 a0 (i:Int) L v 0=some (1,(v,j)):=by
 rw[Akr L a0 a0 i L (by rw[toN,hx];exact hn) (by rw[toN,hx];omega),toN,hx];refine A5u x.aS (Hz L a0 a0 (i:Int)) (λ_ _=>rfl) (λj v y k hj hm hy=>?_) x.aS 0 v rfl;simp only[Hz,toN,hx];rw[if_pos (show(j:Int)<((x.aS.length:Nat):Int) by omega),hy,h y hm];rfl
theorem Axs{L:Nat}{l:List Ae}(hl:l.length<=maxLen)(hL:maxLen+2*1048578<L)(hg:GIs l):Bi L l l=some true:=by
 have hLm:maxLen<L:=Nat.lt_of_le_of_lt (Nat.le_add_right _ _) hL;have hM:=Bp;obtain⟨j,hj⟩:=A5u l (Hy L l l) (λ_ _=>rfl) (λi v x k hi hm hx=>by
  have g:=hg x hm;obtain⟨j,hj⟩:=Bhm L l i x hx (by have:=g.n;omega) hLm (λy hy=>Akm (g.a y hy) L hL) v;rw[Hy,if_pos (show(i:Int)<((l.length:Nat):Int) by omega)];simp only[toN,hx,Akm g.e L hL,Akm g.f L hL,A3m L _ g.d hLm,hj,Option.bind_some,bne_self_eq_false,beq_self_eq_true,Bool.not_true,cond_false,Ze]) l 0 false rfl
 simp only[Afu,Qm,Qj,Bi,Qm,Qj,aN,aB,Akq L l l L hl (by omega),hj,bne_self_eq_false,cond_false,Option.bind_some,Ze]
theorem Awf(L:Nat)(n:Int)(a0:List Ae):∀(k p:List Ae),p.length+k.length<=a0.length->∃j,Ls L n a0 k p.length (p++k)=some (0,(j,p++mv k n)):=by
 intro k
 induction k with
 |nil=>intro p _;exact⟨_,rfl⟩
 |cons x k ih=>
  intro p hi;rw[List.length_cons]at hi;obtain⟨j,hj⟩:=ih (p++ [mvI n x]) (by simp only[List.length_append,List.length_cons,List.length_nil];omega);have hp:(p++ [mvI n x]).length=p.length+1:=by simp
  rw[hp,List.append_assoc p [mvI n x] (mv k n)]at hj;refine⟨j,?_⟩;rw[Ls];simp only[toN,A61,Bck];rw[Jh (by omega),Jh (by omega)];have e:(bif (x.Op == 4)then some true else some (x.Op == 5))=some (x.Op == 4 || x.Op == 5):=by
   cases (x.Op == 4)<;>rfl
  rw[e,Option.bind_some,A7c];cases hc:(x.Op == 4 || x.Op == 5) with
  |false=>
   have:mvI n x=x:=by unfold mvI;rw[hc];rfl
   rw[this]at hj ⊢;rw[List.append_assoc]at hj;exact hj
  |true=>
   have:mvI n x=⟨x.Op,Bb (x.A+n),x.B,x.C,x.E,x.F,x.aS,x.bR,x.bZ⟩:=by unfold mvI;rw[hc];rfl
   rw[this]at hj ⊢;exact hj
theorem As4(L:Nat)(a:List Ae)(n:Int)(ha:a.length<=8388608)(hL:maxLen<L):Cn L a n=some (mv a n):=by
 have hM:=Bp;obtain⟨j,h1⟩:=Awf L n a a [] (by simp);obtain⟨k,rfl⟩:∃k,L=k+1:=⟨L-1,by omega⟩;rw[List.nil_append,List.nil_append,List.length_nil]at h1;have key:Aap (k+1) a n=some (mv a n):=by
  cases hz:Nat.beq a.length 0 with
  |true=>
   have h0:a.length=0:=Nat.eq_of_beq_eq_true hz;have h0':a= []:=List.length_eq_zero_iff.1 h0;simp only[Aj3,Rm,Qy,Qz,Aap,Rm,Qy,Qz,aN,aB,hz,cond_true,Y2,Adw];rw[h0'];rfl
  |false=>
   have h0:a.length≠0:=λh=>by rw[h]at hz;cases hz
   simp only[Aj3,Rm,Qy,Qz,Aap,Rm,Qy,Qz,aN,aB,hz,cond_false,Atg (k+1) n a (k+1) (show a.length<=maxLen by omega) (by omega),h1,Option.bind_some];rw[Jh (by omega),Jh (by omega)];rfl
 simp only[Aj2,Cn,aN,aB,key,Option.bind_some]
theorem A1i(L:Nat)(r:Al)(h1:r.aJ.length<=1048576)(h2:r.aL.length<=1048576):Ach L r=some (r.aJ++r.aL):=by
 have hM:=Bp;simp only[Ahw,Ach,aN,aB];rw[Jh (by omega),Jh (by omega),Jh (by omega),Jh (by omega)]
theorem Bfb(a b:List Ad):dSs (a++b)=max (dSs a) (dSs b):=by
 induction a with
 |nil=>simp[dSs]
 |cons x k ih=>rw[List.cons_append,dSs,dSs,ih,Nat.max_assoc]
theorem Baw(a b:List Ad):Gq (a++b)=Gq a+Gq b:=by
 induction a with
 |nil=>simp[Gq]
 |cons x k ih=>rw[List.cons_append,Gq,Gq,ih,Nat.add_assoc]
theorem Baf(a b:List Ad):Cv (a++b)=Cv a+Cv b:=by
 induction a with
 |nil=>simp[Cv]
 |cons x k ih=>rw[List.cons_append,Cv,Cv,ih];omega
theorem A8i(a b:List Ad):H9 (a++b)=if H9 a≠0 then H9 a else H9 b:=by
 induction a with
 |nil=>simp[H9]
 |cons x k ih=>
  rw[List.cons_append,H9,H9,ih];by_cases h:A8h x=0<;>simp[h]
theorem Bc9(m:Ag)(v:Az)(a b:List Ad):P9 m v (a++b)=if P9 m v a≠0 then P9 m v a else P9 m v b:=by
 induction a with
 |nil=>simp[P9]
 |cons x k ih=>
  rw[List.cons_append,P9,P9,ih];by_cases h:tyS m v x=0<;>simp[h]
theorem Anq(m:Ag)(s:Int)(lc:List Ap)(l:List Ad)(h:Gq l<=200):Xv m s lc l=0↔dSs l<=12/\H9 l=0/\¬(s<0\/(m.aD.length:Int)<=s)/\P9 m ⟨m.aJ,lc,m.aD.getD s.toNat default⟩ l=0:=by
 unfold Xv Afr;rw[if_neg (show¬200<Gq l by omega)];by_cases d:12<dSs l
 ·rw[if_pos d,if_pos (by decide)];constructor
  ·intro h;omega
  ·intro h;omega
 ·rw[if_neg d];by_cases c:H9 l=0
  ·rw[if_neg (by simp[c])];by_cases hs:s<0\/(m.aD.length:Int)<=s
   ·rw[if_pos hs];constructor
    ·intro h;omega
    ·intro h;exact absurd hs h.2.2.1
   ·rw[if_neg hs];exact⟨λh=>⟨by omega,c,hs,h⟩,λh=>h.2.2.2⟩
  ·rw[if_pos c];exact⟨λh=>absurd h c,λh=>absurd h.2.1 c⟩
theorem A57(m:Ag)(s:Int)(lc:List Ap)(a b:List Ad)(h:Gq (a++b)<=200):Xv m s lc (a++b)=0↔Xv m s lc a=0/\Xv m s lc b=0:=by
 have h':=h;rw[Baw]at h';rw[Anq m s lc (a++b) h,Anq m s lc a (by omega),Anq m s lc b (by omega),Bfb,A8i,Bc9];generalize P9 m ⟨m.aJ,lc,m.aD.getD s.toNat default⟩ a=ta;generalize P9 m ⟨m.aJ,lc,m.aD.getD s.toNat default⟩ b=tb;generalize H9 a=ca;generalize H9 b=cb;by_cases hx:ca=0
 ·by_cases hy:ta=0
  ·rw[if_neg (by simp[hx]),if_neg (by simp[hy])];constructor
   ·intro⟨h1,h2,h3,h4⟩;exact⟨⟨by omega,hx,h3,hy⟩,by omega,h2,h3,h4⟩
   ·intro⟨⟨h1,_⟩,h5,h6,h7,h8⟩;exact⟨by omega,h6,h7,h8⟩
  ·rw[if_pos hy];exact⟨λh=>absurd h.2.2.2 hy,λh=>absurd h.1.2.2.2 hy⟩
 ·rw[if_pos hx];exact⟨λh=>absurd h.2.1 hx,λh=>absurd h.1.2.1 hx⟩
end Go.Proofs.YtgacplpjamkieaaGreat.Ev
