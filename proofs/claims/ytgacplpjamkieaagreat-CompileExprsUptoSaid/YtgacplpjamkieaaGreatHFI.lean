/-  A function that changes a variable of its caller's through a pointer, as a contract: what it does at one variable alone, it does wherever it is called. -/
import Derived.Test.YtgacplpjamkieaaGreatHFh
set_option linter.unusedVariables false
set_option linter.unusedSimpArgs false
set_option linter.unnecessarySimpa false
namespace Go.Proofs.YtgacplpjamkieaaGreat.Ev
open Go Go.RowKit
theorem Ro{f:PV->Bool} :∀ {l:List PV},Aoo f l=true->∀p∈l,f p=true
 | [],_,p,h=>by cases h
 |q::l,h,p,hp=>by
  simp only[Aoo]at h;cases hq:f q with
  |false=>rw[hq]at h;cases h
  |true=>
   rw[hq]at h;rcases List.mem_cons.1 hp with rfl|hp
   ·exact hq
   ·exact Ro h p hp
theorem A0g{p:PV}(h:p.gG=true):∀s,p.sv=some s->s.own=false:=by
 intro s hs;cases p with
 |aO own x=>
  cases own with
  |false=>injection hs with hs;subst hs;rfl
  |true=>cases h
 |sl own e sz es=>cases h
 |_=>cases hs
theorem Anx{p:PV}(h:p.fO=true):p.flat=true:=by
 cases p<;>first|rfl|cases h
theorem Amn:∀ {l:List PV},okD l=true->Er l=true
 | [],_=>rfl
 |p::l,h=>by
  have h1:=Ro h p (by simp);have h2:okD l=true:=by
   simp only[okD,Aoo,h1]at h;exact h
  have h3:=Amn h2;cases p<;>first|exact h3|cases h1
section
variable {w w':World} {M M':Jw} {β β':Kh} {B B':Nat->Prop}
theorem Bk.gT{p:PV}{v:Value}(h:Bk w M β B p v)(hf:p.gT=true):Bk w M β' B' p v:=by
 cases p with
 |agg l=>
  cases h with
  |row p s hs=>cases hs
  |agg l cs hl h1 hr=>
   exact .agg l cs hl h1 λi p v hp hv=>(hr i p v hp hv).flat (Ro hf p (List.mem_of_getElem? hp))
 |_=>exact h.flat hf
theorem Bk.fx{p:PV}{v:Value}(h:Bk w M β B p v)(hf:p.fx=true):Bk w M β' B' p v:=by
 cases p with
 |aY l=>
  cases h with
  |row p s hs=>cases hs
  |aY l cs hl hr=>
   exact .aY l cs hl λi p v hp hv=>(hr i p v hp hv).gT (Ro hf p (List.mem_of_getElem? hp))
 |_=>exact h.gT hf
theorem Bk.cross{p:PV}{v:Value}(h:Bk w M β B p v):Bk w M β' B' p.cross v:=by
 cases p with
 |agg l=>
  cases h with
  |row p s hs=>cases hs
  |agg l cs hl h1 hr=>
   refine .agg _ cs (by rw[List.length_map,hl]) h1 (λi q u hq hu=>?_);rw[List.getElem?_map]at hq;obtain⟨p,hp,rfl⟩:=Option.map_eq_some_iff.1 hq;exact(hr i p u hp hu).pure0
 |_=>exact h.pure0
end
theorem Jr.cellsOf{w w':World}{M M':Jw}{β β':Kh}{B B':Nat->Prop}{b n n':Nat}{l:List PV}(h:Jr w M β B b n l)(hf:∀p∈l,p.flat=true)(hp:Er l=true)(hh:w'.heap[b]? =w.heap[b]?)
  (hR:∀p v,p.flat=true->Bk w M β B p v->Bk w' M' β' B' p v):Jr w' M' β' B' b n' l:=by
 obtain⟨cs,t,q1,q2,q3⟩:=F4 h hp;exact .cells l cs t (by rw[hh];exact q1) q2 (λi p v hp hv=>⟨hR _ _ (hf p (List.mem_of_getElem? hp)) (q3 i p v hp hv).1,(q3 i p v hp hv).2⟩)
theorem Arj{P:Program}{f:Nat}{cells cells':List PV}{ps:List PV}{r:PV}{o':List (Nat×List PV)}(hI:Eo P f (.loc 0 0::ps.map PV.cross) [(0,cells)] r o')(hlo:B4 [] (o'++ [(0,cells)]) 0=cells')
  (hcc:okD cells=true)(hne:cells≠ [])(hcc':okD cells'=true)(hr':r.fx=true)
  (d:Nat)(ob:List (Nat×List PV))(hd:B4 [] ob d=cells)(hdk:Ar d (ob.map Prod.fst)=false):Eo P f (.loc d 0::ps) ob r [(d,cells')]:=by
 have hc:∀p∈cells,p.flat=true:=λp h=>Anx (Ro hcc p h);have hp:=Amn hcc;have hc':∀p∈cells',p.flat=true:=λp h=>Anx (Ro hcc' p h);have hp':=Amn hcc';intro κ H w0 w N M β O D vs hO hD hS hl hr
 match vs,hl with
 |v0::vs,hl=>
 obtain⟨bd,n,hβ,hv0⟩:=Vh (hr 0 _ v0 rfl rfl);subst hv0;obtain⟨hb1,hb2,hb3⟩:=hS.box d bd n hβ;have hbw:bd<w.heap.size:=hS.mlt bd 0 hb2;rw[hO,hd]at hb3
 let T:Nat->Prop:=λb=>∃i s v,P5 H O w β (.cell d i) s v/\tb v=some b
 let B':D7:=⟨w,λb=>b<w.heap.size/\b≠bd/\¬T b,λb h=>h.1⟩
 let β0:Kh:=λx=>if x=0 then some (bd,n)else none
 have hβ0:∀x b m,β0 x=some (b,m)->x=0/\b=bd/\m=n:=λx b m h=>by
  simp only[β0]at h;by_cases e:x=0
  ·rw[if_pos e]at h;injection h with h;injection h with h1 h2;exact⟨e,h1.symm,h2.symm⟩
  ·rw[if_neg e]at h;cases h
 let H0:Option { q:PV×Value // Bk w M (λ_=>none) B'.old q.1 q.2/\∀s,q.1.dQ=some s->s.own=false } ->PV×Value:=λk=>match k with
  |none=>(PV.loc 0 0,Value.pointer (some ⟨bd,0,none⟩))
  |some q=>q.1
 have hown:∀key s v,P5 H0 (B4 [] [(0,cells)]) w β0 key s v->∃i,key=.cell 0 i/\P5 H O w β (.cell d i) s v:=by
  intro key s v h;cases key with
  |slot k=>
   cases k with
   |none=>cases h.1
   |some q=>
    have:=q.2.2 s h.1;rw[h.2.1]at this;cases this
  |cell x i=>
   obtain⟨b,m,p,h1,h2,h3,h4,h5⟩:=h;obtain⟨rfl,rfl,rfl⟩:=hβ0 x b m h1;exact⟨i,rfl,b,m,p,hβ,by rw[hO,hd];exact h2,h3,h4,h5⟩
 have hwr:∀b,w0.old b->b<w.heap.size/\b≠bd/\¬T b:=λb hb=>⟨hS.bS.lt hb,λe=>hb1 (by rw[<-e];exact hb),λ⟨i,s,v,ho,ht⟩=>((hS.tok _ s v ho).lt ht).1 hb⟩;have S0:SH H0 B' M (B4 [] [(0,cells)]) (λx=>Ar x ([(0,cells)].map Prod.fst)) w M β0:=by
  refine⟨Bel.of w B' rfl,⟨λ_ _=>rfl,hS.mN.gl.to hS.bS hS.mN.eq B' rfl λb hb=>hwr b hb⟩,hS.mlt,λx b m hx=>?_,λx y b m m' hx hy=>?_,λx hx=>?_,λk=>?_,λkey s v h=>?_,λkey key' s s' v v' g h h' hne hg=>?_,λkey s v g x m h hg hx=>?_⟩
  ·obtain⟨rfl,rfl,rfl⟩:=hβ0 x b m hx;exact⟨λh=>h.2.1 rfl,hb2,hb3.cellsOf hc hp rfl (λp v hf h=>h.flat hf)⟩
  ·exact .inl (by rw[(hβ0 x b m hx).1,(hβ0 y b m' hy).1])
  ·simp only[β0];by_cases e:x=0
   ·subst e;simp[Ar]at hx
   ·rw[if_neg e]
  ·cases k with
   |none=>exact .loc 0 0 bd n (if_pos rfl)
   |some q=>exact q.2.1.ext (Ext.refl w M) (λ_ _=>rfl) (λ_ _ h=>by cases h) (λ_ _ _ h=>by cases h)
  ·obtain⟨i,rfl,ho⟩:=hown key s v h;rcases(hS.tok _ s v ho).cut with h1|⟨g,c,cur,q1,q2,q3,q4,q5,q6,q7,q8⟩
   ·exact .inl h1
   ·exact .inr ⟨g,c,cur,q1,λh3=>h3.2.2 ⟨i,s,v,ho,q8⟩,q3,q4,q5,q6,q7⟩
  ·obtain⟨i,rfl,ho⟩:=hown key s v h;obtain⟨i',rfl,ho'⟩:=hown key' s' v' h';exact hS.bX (.cell d i) (.cell d i') s s' v v' g ho ho' (λe=>hne (by injection e with _ e;rw[e])) hg
  ·obtain⟨i,rfl,ho⟩:=hown key s v h;obtain⟨rfl,rfl,rfl⟩:=hβ0 x g m hx;exact hS.bH _ s v g d m ho hg hβ
 refine Calls.mono (hI _ B' w M M β0 _ _ (.pointer (some ⟨bd,0,none⟩)::vs) (λ_=>rfl) (λ_=>rfl) S0 (by simpa using hl) (λi p v h1 h2=>?_)) ?_
 ·cases i with
  |zero=>injection h1 with h1;injection h2 with h2;subst h1;subst h2;exact .loc 0 0 bd n (if_pos rfl)
  |succ i=>
   have h1:(ps.map PV.cross)[i]? =some p:=h1;rw[List.getElem?_map]at h1;obtain⟨q,hq,rfl⟩:=Option.map_eq_some_iff.1 h1;exact(hr (i+1) q v hq h2).cross
 rintro e w' ⟨v,M',β',rfl,S1⟩
 obtain⟨b2,n2,hb',hv2⟩:=Vh (S1.reg (some none));have hbb:b2=bd:=by injection hv2 with hv2;injection hv2 with hv2;injection hv2 with hv2;exact hv2.symm
 subst hbb;have hMM:∀b,b<w.heap.size->¬T b->M' b=M b:=λb hb hT=>by
  by_cases e:b=b2
  ·subst e;rw[hb2];exact(S1.box 0 b n2 hb').2.1
  ·exact S1.mN b ⟨hb,e,hT⟩
 have hhh:∀b,b<w.heap.size/\b≠b2/\¬T b->w'.heap[b]? =w.heap[b]? :=λb h=>S1.bS.block b h;have hE:∀a v,v.oneCell'=true->imm M a->w.cell? a=some v->imm M' a/\w'.cell? a=some v:=λa v h1 hi hx=>by
  have hq:Bk w M (λ_=>none) B'.old (.ref [.val v]) (.pointer (some a)):=by
   refine .ref [.val v] a (λ_=>v) (λi p hp=>?_) (λi p hp=>?_)
   ·cases i with
    |zero=>exact⟨.inr hi,hx,h1⟩
    |succ i=>simp at hp
   ·cases i with
    |zero=>simp at hp;subst hp;exact .val v h1
    |succ i=>simp at hp
  have h2:Bk w' M' β' B'.old (.ref [.val v]) (.pointer (some a)):=S1.reg (some (some ⟨(.ref [.val v],.pointer (some a)),hq,λs h=>by cases h⟩));cases h2 with
  |ref l ad vs hm hr=>
   obtain⟨g1,g2,_⟩:=hm 0 _ rfl;rw[(hr 0 _ rfl).val_eq]at g2;refine⟨?_,g2⟩;rcases g1 with g1|g1
   ·intro m hm';exact hi m (by rw[<-S1.mN a.block g1];exact hm')
   ·exact g1
 have hR:∀p u,Bk w M β w0.old p u->Bk w' M' β w0.old p u:=λp u h=>h.ext1 hE (λx hx=>World.cell?_of_block (w:=w) (hhh _ (hwr _ hx))) (λ_ _ h=>h) (λ_ b _ _=>S1.bS.dH b);have hO1:B4 [] ([(d,cells')]++ob) d=cells':=by simp[B4]
 have hO2:∀x,x≠d->B4 [] ([(d,cells')]++ob) x=O x:=λx hx=>by
  rw[hO];have:Nat.beq d x=false:=by
   cases hb:Nat.beq d x with
   |false=>rfl
   |true=>exact absurd (Nat.eq_of_beq_eq_true hb).symm hx
  simp[B4,this]
 have hdn:O d≠ []:=by rw[hO,hd];exact hne
 have hvd:∀x b m,x≠d->β x=some (b,m)->b=b2->O x= []:=λx b m e h1 e'=>
  (hS.inj x d b m n h1 (by rw[e'];exact hβ)).elim (λq=>absurd q e) λq=>q.elim id λq=>absurd q hdn
 have hbx:∀x b m,b≠b2->β x=some (b,m)->b<w.heap.size/\b≠b2/\¬T b:=λx b m e h1=>
  ⟨hS.mlt b 0 (hS.box x b m h1).2.1,e,λ⟨i,s,v,ho,ht⟩=>hS.bH _ s v b x m ho ht h1⟩
 have hOwn:∀key s u,P5 H (B4 [] ([(d,cells')]++ob)) w' β key s u->(∃i,key=.cell d i/\P5 (H2 (r,v) H0) (B4 [] (o'++ [(0,cells)])) w' β' (.cell 0 i) s u)\/((∀i,key≠ .cell d i)/\P5 H O w β key s u):=by
  intro key s u h;cases key with
  |slot k=>exact .inr ⟨λi e=>(by cases e),h⟩
  |cell x i=>
   obtain⟨b,m,p,h1,h2,h3,h4,h5⟩:=h;by_cases e:x=d
   ·subst e;rw[hO1]at h2;rw[hβ]at h1;injection h1 with h1
    injection h1 with h11 h12
    subst h11;exact .inl ⟨i,rfl,b2,n2,p,hb',by rw[hlo];exact h2,h3,h4,h5⟩
   ·rw[hO2 x e]at h2;have hbn:b≠b2:=λe'=>by rw[hvd x b m e h1 e']at h2;simp at h2
    exact .inr ⟨λj e'=>(by injection e' with e' _;exact e e'),b,m,p,h1,h2,h3,h4,by rw[<-World.cell?_of_block (w:=w) (a:=⟨b,i,none⟩) (hhh b (hbx x b m hbn h1))];exact h5⟩
 have htk:∀key s u,(∀i,key≠ .cell d i)->P5 H O w β key s u->∀g,tb u=some g->g<w.heap.size/\g≠b2/\¬T g:=λkey s u hk h g hg=>by
  obtain⟨_,k,hk'⟩:=(hS.tok key s u h).lt hg;exact⟨hS.mlt g k hk',λe=>hS.bH key s u g d n h hg (by rw[e];exact hβ),λ⟨i,s',v',ho',ht'⟩=>hS.bX key (.cell d i) s s' u v' g h ho' (hk i) hg ht'⟩
 have hnew:∀ {key s u},P5 (H2 (r,v) H0) (B4 [] (o'++ [(0,cells)])) w' β' key s u->∀ {g},tb u=some g->¬(g<w.heap.size/\g≠b2/\¬T g):=λ{key s u} h {g} hg=>((S1.tok key s u h).lt hg).1;have htok:∀ {key s u},P5 (H2 (r,v) H0) (B4 [] (o'++ [(0,cells)])) w' β' key s u->Wg w' M' w0.old s u:=λ{key s u} h=>by
  rcases S1.tok key s u h with h1|⟨g,c,cur,q1,q2,q3⟩
  ·exact .inl h1
  ·exact .inr ⟨g,c,cur,q1,λh2=>q2 (hwr g h2),q3⟩
 have hnb:∀ {key s u},P5 (H2 (r,v) H0) (B4 [] (o'++ [(0,cells)])) w' β' key s u->∀ {g x m},tb u=some g->β x≠some (g,m):=λ{key s u} h {g x m} hg hx=>by
  by_cases e:x=d
  ·subst e;rw[hβ]at hx;injection hx with hx
   injection hx with hx1 hx2
   exact S1.bH key s u g 0 n2 h hg (by rw[<-hx1];exact hb')
  ·by_cases e4:g=b2
   ·exact S1.bH key s u g 0 n2 h hg (by rw[e4];exact hb')
   ·exact hnew h hg (hbx x g m e4 hx)
 have SB:SH H w0 N (B4 [] ([(d,cells')]++ob)) (λx=>Ar x (([(d,cells')]++ob).map Prod.fst)) w' M' β :=by
  refine⟨⟨S1.bS.os.trans hS.bS.os,S1.bS.tape.trans hS.bS.tape,S1.bS.output.trans hS.bS.output,Nat.le_trans hS.bS.size S1.bS.size,λb hb=>(hhh b (hwr b hb)).trans (hS.bS.block b hb),λb=>Nat.le_trans (hS.bS.dH b) (S1.bS.dH b)⟩,
   ⟨λb hb=>(hMM b (hwr b hb).1 (hwr b hb).2.2).trans (hS.mN b hb),hS.mN.gl⟩,S1.mlt,λx b m hx=>?_,λx y b m m' hx hy=>?_,λx hx=>?_,λk=>hR _ _ (hS.reg k),λkey s u h=>?_,λkey key' s s' u u' g h h' hne hg=>?_,λkey s u g x m h hg=>?_⟩
  ·obtain⟨k1,k2,k3⟩:=hS.box x b m hx;by_cases e:x=d
   ·subst e;rw[hβ]at hx;injection hx with hx
    injection hx with hx1 hx2
    subst hx1;subst hx2
    obtain⟨_,j2,j3⟩:=S1.box 0 b2 n2 hb';rw[hlo]at j3;exact⟨k1,j2,by rw[hO1];exact j3.cellsOf hc' hp' rfl (λp v hf h=>h.flat hf)⟩
   ·by_cases e4:b=b2
    ·obtain⟨_,j2,j3⟩:=S1.box 0 b2 n2 hb';rw[hlo]at j3;obtain⟨cs,t,q1,_,_⟩:=F4 j3 hp';exact⟨k1,by rw[e4];exact j2,by rw[hO2 x e,hvd x b m e hx e4];exact .cells _ cs t (by rw[e4];exact q1) (Nat.zero_le _) (λi p v hp=>by simp at hp)⟩
    have hb4:=hbx x b m e4 hx;exact⟨k1,by rw[hMM b hb4.1 hb4.2.2];exact k2,by rw[hO2 x e];exact k3.ext (hhh b hb4) hR⟩
  ·rcases hS.inj x y b m m' hx hy with q|q|q
   ·exact .inl q
   ·by_cases e:x=d
    ·exact absurd (by rw[<-e];exact q) hdn
    ·exact .inr (.inl (by rw[hO2 x e];exact q))
   ·by_cases e:y=d
    ·exact absurd (by rw[<-e];exact q) hdn
    ·exact .inr (.inr (by rw[hO2 y e];exact q))
  ·rw[List.map_append,H1,Bool.and_eq_true]at hx;exact hS.dom x (by rw[hD];exact hx.2)
  ·rcases hOwn key s u h with⟨i,rfl,h1⟩|⟨hk,h1⟩
   ·exact htok h1
   ·exact(hS.tok key s u h1).ext (λg hg=>⟨hhh g (htk key s u hk h1 g hg),hMM g (htk key s u hk h1 g hg).1 (htk key s u hk h1 g hg).2.2⟩)
  ·rcases hOwn key s u h with⟨i,rfl,h1⟩|⟨hk,h1⟩<;>rcases hOwn key' s' u' h' with⟨i',rfl,h2⟩|⟨hk',h2⟩
   ·exact S1.bX (.cell 0 i) (.cell 0 i') s s' u u' g h1 h2 (λe=>hne (by injection e with _ e;rw[e])) hg
   ·exact λhg'=>hnew h1 hg (htk key' s' u' hk' h2 g hg')
   ·exact λhg'=>hnew h2 hg' (htk key s u hk h1 g hg)
   ·exact hS.bX key key' s s' u u' g h1 h2 hne hg
  ·rcases hOwn key s u h with⟨i,rfl,h1⟩|⟨hk,h1⟩
   ·exact hnb h1 hg
   ·exact hS.bH key s u g x m h1 hg
 refine⟨v,M',β,rfl,SB.cons r v ((S1.reg none).fx hr') (λs h1 h2=>?_)⟩;have hOn:P5 (H2 (r,v) H0) (B4 [] (o'++ [(0,cells)])) w' β' (.slot none) s (ohd r v):=⟨h1,h2,rfl⟩;refine⟨htok hOn,λkey s' v' g h3 h4 h5=>?_,λg x m h3=>hnb hOn h3⟩;rcases hOwn key s' v' h3 with⟨i,rfl,h6⟩|⟨hk,h6⟩
 ·exact S1.bX (.slot none) (.cell 0 i) s s' (ohd r v) v' g hOn h6 (λe=>by cases e) h4 h5
 ·exact hnew hOn h4 (htk key s' v' hk h6 g h5)
end Go.Proofs.YtgacplpjamkieaaGreat.Ev
namespace Go.Proofs.YtgacplpjamkieaaGreat.Ev
open Go Go.RowKit
section
variable {ι :Type} {cx: ι->PV×Value} {P:Program} {w0:D7} {w w':World} {N M M':Jw} {β β':Kh} {nt:Nat} {st st':St} {a:Act} {o:Oper} {δ :B2} {ban:List Nat}
def A2n:Bool->String
 |true=> "math/bits.Sub64"
 |false=> "math/bits.Add64"
theorem Ax9{f:Nat}{fn:Func}{sb:Bool}(hf:P.funcs[f]? =some fn)(hb:fn.body.isNone=true)(ho:fn.origin= "")(hn:fn.name=A2n sb)(args:Array Value):
  (callFunc f args).run P w=((match sb with
   |false=>(do let (x,y,c)<-Extern.MathBitsCarry.three "Add64" args;pure (Extern.MathBitsCarry.pair ((x+y+c) % Extern.MathBitsCarry.m64) ((x+y+c)/Extern.MathBitsCarry.m64)))
   |true=>(do let (x,y,b)<-Extern.MathBitsCarry.three "Sub64" args;pure (Extern.MathBitsCarry.pair ((x+Extern.MathBitsCarry.m64-y-b) % Extern.MathBitsCarry.m64) (if x<y+b then 1 else 0))):Sem Value).run P w).andThen λv w'=>.ok (.value v) w':=by
 have h1:Extern.findNext fn=none:=by
  cases fn;cases sb<;>(dsimp only[A2n]at ho hn;subst ho;subst hn;kernel_rfl)
 have h2:Extern.find fn=some (match sb with
   |false=>(λargs=>do let (x,y,c)<-Extern.MathBitsCarry.three "Add64" args;pure (Extern.MathBitsCarry.pair ((x+y+c) % Extern.MathBitsCarry.m64) ((x+y+c)/Extern.MathBitsCarry.m64)))
   |true=>(λargs=>do let (x,y,b)<-Extern.MathBitsCarry.three "Sub64" args;pure (Extern.MathBitsCarry.pair ((x+Extern.MathBitsCarry.m64-y-b) % Extern.MathBitsCarry.m64) (if x<y+b then 1 else 0)))):=by
  cases fn;cases sb<;>(dsimp only[A2n]at ho hn;subst ho;subst hn;kernel_rfl)
 have h3:(fn.name == "runtime.NumGoroutine")=false:=by rw[hn];cases sb<;>rfl
 unfold callFunc;simp only[Sem.run_bind,run_program,Result.andThen_ok,hf,h3,hb,Bool.false_eq_true,if_false,if_true];have h4:(mark (.extern f)).run P w=.ok () w:=rfl;simp only[h4,Result.andThen_ok,h1,h2,Sem.run_bind,Sem.run_pure];cases sb<;>rfl
theorem Auz(nm:String){k1 k2 k3:IntKind}{a b c:Int}(hc:c<=1):(Extern.MathBitsCarry.three nm #[.int k1 a,.int k2 b,.int k3 c]).run P w=.ok (a.toNat,b.toNat,c.toNat) w:=by
 have e:(Extern.MathBitsCarry.three nm #[.int k1 a,.int k2 b,.int k3 c])=(if c.toNat>1 then(do let _<-(unsupported (.noEntry ("extern/math/bits." ++nm++ ": a carry that is neither 0 nor 1")):Sem PUnit);pure (a.toNat,b.toNat,c.toNat))else pure (a.toNat,b.toNat,c.toNat):Sem (Nat×Nat×Nat)):=by
  show(if c.toNat>1 then _ else _)=_
  split
  ·rfl
  ·rfl
 rw[e,if_neg (by omega)];rfl
theorem A8a{sb:Bool}{f:Nat}{x y c:Operand}{ats:Array Nat}(h:SR cx w0 N nt st a w M β)(hd:∀x,o.dst=some x->x<nt)(he:A6f P f=some sb)(ho:o.op=.call { callee:=.value (.func f),args:= #[x,y,c],argTypes:=ats })
  (hs:Ax P (Ej P) (Eg P) ban (.ext sb x y c) o.dst st (λδ'=> δ'= δ)):E9 cx P w0 N nt st a w o δ :=by
 simp only[Ax,Au]at hs;have hxr:=h.aM x;have hyr:=h.aM y;have hcr:=h.aM c;split at hs
 ·rename_i k1 u k2 v k3 n hx hy hc;rw[hx]at hxr;rw[hy]at hyr;rw[hc]at hcr
  obtain⟨hn,hs⟩:=hs;have hfn:∃fn,P.funcs[f]? =some fn/\fn.body.isNone=true/\fn.origin= "" /\fn.name=A2n sb:=by
   unfold A6f at he;split at he
   ·rename_i fn hf;refine⟨fn,hf,?_⟩;split at he
    ·rename_i g1 g2;injection he with he
     subst he;simp only[Bool.and_eq_true,decide_eq_true_eq]at g1;exact⟨g1.1,g1.2,of_decide_eq_true g2⟩
    ·rename_i g1 g2 g3;injection he with he
     subst he;simp only[Bool.and_eq_true,decide_eq_true_eq]at g1;exact⟨g1.1,g1.2,of_decide_eq_true g3⟩
    ·cases he
   ·cases he
  obtain⟨fn,q1,q2,q3,q4⟩:=hfn;have hr:∀(v1 v2:Int),Bk w M β w0.old (.aY [.val (.int .u64 v1),.val (.int .u64 v2)]) (.tuple #[.int .u64 v1,.int .u64 v2]):=λv1 v2=>by
   refine .aY _ [.int .u64 v1,.int .u64 v2] rfl (λi p v hp hv=>?_)
   match i,hp,hv with
   |0,hp,hv=>injection hp with hp;injection hv with hv;subst hp;subst hv;exact .val _ rfl
   |1,hp,hv=>injection hp with hp;injection hv with hv;subst hp;subst hv;exact .val _ rfl
   |n+2,hp,hv=>simp at hp
  have hrun0:∀r,((callFunc f #[.int k1 u,.int k2 v,.int k3 n]).run P w=.ok (.value r) w)->(execOp a.eval o).run P w=.ok (.value r) w:=λr hr=>by
   have e:a.eval (.func f)=.func (.func f) #[] #[]:=rfl;simp only[execOp,ho,resolve,invoke,Deferred.ofValue,e,Sem.run_bind,Sem.run_pure,Result.andThen_ok,List.map_toArray,List.map_cons,List.map_nil,hxr.val_eq,hyr.val_eq,hcr.val_eq];exact hr
  cases sb with
  |false=>
   refine(C1 h hd (Bhd false u v n) _ w (Below.refl _ _) (hrun0 _ ?_) (hr _ _) (Hx rfl)).of_eq hs;rw[Ax9 q1 q2 q3 q4];simp only[Sem.run_bind,Auz "Add64" hn,Result.andThen_ok,Sem.run_pure];rfl
  |true=>
   refine(C1 h hd (Bhd true u v n) _ w (Below.refl _ _) (hrun0 _ ?_) (hr _ _) (Hx rfl)).of_eq hs;rw[Ax9 q1 q2 q3 q4];simp only[Sem.run_bind,Auz "Sub64" hn,Result.andThen_ok,Sem.run_pure];unfold Extern.MathBitsCarry.pair Bph;by_cases hlt:u.toNat<v.toNat+n.toNat
   ·rw[if_pos hlt,show Nat.blt u.toNat (v.toNat+n.toNat)=true from Nat.ble_eq_true_of_le hlt];rfl
   ·rw[if_neg hlt,show Nat.blt u.toNat (v.toNat+n.toNat)=false by cases hb:Nat.blt u.toNat (v.toNat+n.toNat) with|false=>rfl|true=>exact absurd (Nat.le_of_ble_eq_true hb) hlt];rfl
 ·exact hs.elim
end
end Go.Proofs.YtgacplpjamkieaaGreat.Ev
namespace Go.Proofs.YtgacplpjamkieaaGreat.Ev
open Go Go.RowKit
section
variable {ι :Type} {cx: ι->PV×Value} {P:Program} {w0:D7} {w:World} {N M:Jw} {β :Kh} {nt:Nat} {st:St} {a:Act} {o:Oper} {δ :B2} {ban:List Nat}
theorem T1(h:SR cx w0 N nt st a w M β)(hd:∀x,o.dst=some x->x<nt)(hsel:∀cs b,o.op≠ .select cs b)(hs:Aup P st o o.dst (λδ'=> δ'= δ)):E9 cx P w0 N nt st a w o δ :=by
 unfold Aup at hs;cases ha:g7 st o.op.operands.toList with
 |false=>rw[ha]at hs;exact hs.elim
 |true=>
  rw[ha]at hs;have he:=h.valOf _ ha;have hx:execOp a.eval o=execOp st.valOf o:=execOp_congr o hsel (λx hx=>he x (by simpa using hx));obtain⟨n,hn,hk⟩:=Aze _ _ hs w;cases n with
  |value v=>
   simp only at hk;cases hv:Ams v with
   |false=>rw[hv]at hk;exact hk.elim
   |true=>
    rw[hv]at hk;have hk':dput o.dst (.val v)= δ :=hk;rw[<-hk'];exact C1 h hd _ v w (Below.refl _ _) (by rw[hx];exact hn) (.val v (by rw[<-Awo];exact hv)) (Hx rfl)
  |_=>exact hk.elim
theorem Atz{t e:Nat}{ad:Addr}{n c:Nat}(w:World)(hty:P.underlying t=some (.slice e)):(Op.equal t (.slice (some ad) n c) (.slice none 0 0)).run P w=.ok false w:=by
 unfold Op.equal Op.maxDepth;unfold Op.equalIn;simp only[Sem.run_bind,run_underlying hty,Result.andThen_ok];rfl
theorem A4o{x y:Operand}{tag:Nat}{v:Value}(h:SR cx w0 N nt st a w M β)(hd:∀x,o.dst=some x->x<nt)
  (hy:a.eval y=v)(hs:Amk st x v tag o.dst (λδ'=> δ'= δ))
  (hrun:∀ad n c,a.eval x=.slice (some ad) n c->a.eval y=.slice none 0 0->tag=6\/tag=7->∀w,(execOp a.eval o).run P w=.ok (.value (.bool (tag == 7))) w):E9 cx P w0 N nt st a w o δ :=by
 have hxr:=h.aM x;unfold Amk at hs;split at hs
 ·rename_i v' s hsv;have key:0<s.n->∃ad c,a.eval x=.slice (some ad) s.n c:=by
   intro hn;generalize st.aM x=p at hsv hxr;generalize a.eval x=u at hxr;cases hxr with
   |row q s' hs' ad c vs hc hsz ha hm hr=>
    rw[hsv]at hs';injection hs' with hs'
    subst hs';obtain⟨ad',rfl⟩:=ha 0 hn;exact⟨ad',c,rfl⟩
   |_=>exact absurd hsv (by simp[PV.sv])
  split at hs
  ·simp only[Au]at hs;obtain⟨hn,hs⟩:=hs;obtain⟨ad,c,hx⟩:=key hn;exact(C1 h hd (.val (.bool false)) (.bool false) w (Below.refl _ _) (hrun ad _ c hx hy (.inl rfl) w) (.val _ rfl) (Hx rfl)).of_eq hs
  ·simp only[Au]at hs;obtain⟨hn,hs⟩:=hs;obtain⟨ad,c,hx⟩:=key hn;exact(C1 h hd (.val (.bool true)) (.bool true) w (Below.refl _ _) (hrun ad _ c hx hy (.inr rfl) w) (.val _ rfl) (Hx rfl)).of_eq hs
  ·exact hs.elim
 ·exact hs.elim
theorem My{x y:Operand}{tag:Nat}(h:SR cx w0 N nt st a w M β)(hd:∀x,o.dst=some x->x<nt)
  (hs:Ax P (Ej P) (Eg P) ban (.bY tag x y) o.dst st (λδ'=> δ'= δ))
  (hrun:∀(u v r:Value),a.eval x=u->a.eval y=v->bY tag u v=some (true,r)->∀w,(execOp a.eval o).run P w=.ok (.value r) w)
  (hnil:∀ad n c,a.eval x=.slice (some ad) n c->a.eval y=.slice none 0 0->tag=6\/tag=7->∀w,(execOp a.eval o).run P w=.ok (.value (.bool (tag == 7))) w:=by intro _ _ _ _ _ h;exfalso;omega):E9 cx P w0 N nt st a w o δ :=by
 simp only[Ax,Au]at hs;have hxr:=h.aM x;have hyr:=h.aM y;split at hs
 ·rename_i u v hx hy;rw[hx]at hxr;rw[hy]at hyr;split at hs
  ·rename_i c r hb;cases c with
   |false=>exact hs.elim
   |true=>
    have hone:r.oneCell'=true:=by
     unfold bY at hb;split at hb<;>(try split at hb)<;>first|(injection hb with hb;injection hb with _ hb;subst hb;rfl)|cases hb
    exact(C1 h hd (.val r) r w (Below.refl _ _) (hrun u v r hxr.val_eq hyr.val_eq hb w) (.val _ hone) (Hx rfl)).of_eq hs
  ·exact hs.elim
 ·rename_i v hy _;rw[hy]at hyr;exact A4o h hd hyr.val_eq hs hnil
 ·exact hs.elim
section
variable {u v r:Value} {w:World} {x y:Operand} {t:TypeId}
theorem A3y(t':TypeId)(h:bY 0 u v=some (true,r)):((eqGuard .quo t x y u v).run P w).andThen (λ_ w'=>(binOp .quo t u v).run P w')=.ok r w:=by
 unfold bY at h;split at h<;>try (first|(exfalso;omega)|(cases h;done))
 split at h<;>try (cases h;done)
 all_goals (rename_i hk;simp only[Option.some.injEq,Prod.mk.injEq,Bool.not_eq_true',decide_eq_false_iff_not]at h;obtain⟨h1,rfl⟩:=h;have hk':=of_decide_eq_true hk;subst hk';simp_all [eqGuard,binOp,Op.intDiv])
theorem A3z(t':TypeId)(h:bY 1 u v=some (true,r)):((eqGuard .rem t x y u v).run P w).andThen (λ_ w'=>(binOp .rem t u v).run P w')=.ok r w:=by
 unfold bY at h;split at h<;>try (first|(exfalso;omega)|(cases h;done))
 split at h<;>try (cases h;done)
 all_goals (rename_i hk;simp only[Option.some.injEq,Prod.mk.injEq,Bool.not_eq_true',decide_eq_false_iff_not]at h;obtain⟨h1,rfl⟩:=h;have hk':=of_decide_eq_true hk;subst hk';simp_all [eqGuard,binOp,Op.intDiv])
theorem A30(t':TypeId)(h:bY 2 u v=some (true,r)):((eqGuard .shl t x y u v).run P w).andThen (λ_ w'=>(binOp .shl t u v).run P w')=.ok r w:=by
 unfold bY at h;split at h<;>try (first|(exfalso;omega)|(cases h;done))
 all_goals (simp only[Option.some.injEq,Prod.mk.injEq,Bool.not_eq_true',decide_eq_false_iff_not]at h;obtain⟨h1,rfl⟩:=h;simp_all [eqGuard,binOp,Op.shift];try (intro hneg;omega))
theorem A31(t':TypeId)(h:bY 3 u v=some (true,r)):((eqGuard .shr t x y u v).run P w).andThen (λ_ w'=>(binOp .shr t u v).run P w')=.ok r w:=by
 unfold bY at h;split at h<;>try (first|(exfalso;omega)|(cases h;done))
 all_goals (simp only[Option.some.injEq,Prod.mk.injEq,Bool.not_eq_true',decide_eq_false_iff_not]at h;obtain⟨h1,rfl⟩:=h;simp_all [eqGuard,binOp,Op.shift];try (intro hneg;omega))
theorem A32(t':TypeId)(h:bY 4 u v=some (true,r)):((eqGuard .add t x y u v).run P w).andThen (λ_ w'=>(binOp .add t u v).run P w')=.ok r w:=by
 unfold bY at h;split at h<;>try (first|(exfalso;omega)|(cases h;done))
 all_goals (simp only[Option.some.injEq,Prod.mk.injEq,Bool.not_eq_true',decide_eq_false_iff_not]at h;obtain⟨h1,rfl⟩:=h;simp only[eqGuard,binOp,Op.stringOp];rw[if_neg h1];rfl)
theorem A33(hty:P.underlying t=some .string)(h:bY 5 u v=some (true,r)):(Instr.index t u v).run P w=.ok r w:=by
 unfold bY at h;split at h<;>try (first|(exfalso;omega)|(cases h;done))
 all_goals (
  rename_i s k n _;simp only[Option.some.injEq,Prod.mk.injEq]at h;obtain⟨h1,rfl⟩:=h;cases hg:(if 0<=n then s[n.toNat]? else none) with
  |none=>rw[hg]at h1;cases h1
  |some b=>simp[Instr.index,asIntOf,run_underlying hty,hg,C5])
end
theorem Aty{b:BinOp}{t:TypeId}{x y:Operand}{t':TypeId}{neg:Bool}{ts:List (Nat×Nat)}(h:SR cx w0 N nt st a w M β)(hd:∀x,o.dst=some x->x<nt)
  (hb:(b=.eql/\neg=false)\/(b=.neq/\neg=true))(hts:Ac9 P t=some ts)(ho:o.op=.binOp b t x y t')
  (hs:Ax P (Ej P) (Eg P) ban (.gM neg ts x y) o.dst st (λδ'=> δ'= δ)):E9 cx P w0 N nt st a w o δ :=by
 simp only[Ax,Au]at hs;have hgd:=Avu hts;have hxr:=h.aM x;have hyr:=h.aM y;split at hs
 ·rename_i xs ys hx hy;split at hs
  ·rename_i r hr;rw[hx]at hxr;rw[hy]at hyr;generalize hux:a.eval x=u at hxr;generalize huy:a.eval y=v at hyr;cases hxr with
   |row p s hs=>cases hs
   |agg l1 c1 hl1 o1 r1=>
    cases hyr with
    |row p s hs=>cases hs
    |agg l2 c2 hl2 o2 r2=>
     have hrun:∀w',(Op.equalIn 10000 t (.agg c1.toArray) (.agg c2.toArray)).run P w'=.ok r w':=λw'=>
      Ara hl1 r1 hl2 r2 9998 w' hts hr
     rcases hb with⟨rfl,rfl⟩|⟨rfl,rfl⟩
     ·refine(C1 h hd (.val (.bool r)) (.bool r) w (Below.refl _ _) ?_ (.val _ rfl) (Hx rfl)).of_eq hs;simp only[execOp,ho,hux,huy,Sem.run_bind,run_eqGuard_agg w .eql t x y _ _ hgd,Result.andThen_ok,run_eql_struct,hrun,Sem.run_pure]
     ·refine(C1 h hd (.val (.bool (!r))) (.bool (!r)) w (Below.refl _ _) ?_ (.val _ rfl) (Hx rfl)).of_eq hs;simp only[execOp,ho,hux,huy,Sem.run_bind,run_eqGuard_agg w .neq t x y _ _ hgd,Result.andThen_ok,run_neq_struct,hrun,Sem.run_pure]
  ·exact hs.elim
 ·exact hs.elim
theorem At3{f g:Nat->Option (Nat×Nat)}(hfg:∀i x,f i=some x->g i=some x):∀(ps:List (Nat×Value)) (cells cs:Array Value),Instr.fill f cells ps=some cs->Instr.fill g cells ps=some cs
 | [],cells,cs,h=>h
 |(i,v)::ps,cells,cs,h=>by
  simp only[Instr.fill]at h ⊢;cases hf:f i with
  |none=>rw[hf]at h;cases h
  |some x=>
   rw[hf]at h;rw[hfg i x hf];obtain⟨off,size⟩:=x;simp only at h ⊢;split at h
   ·cases h
   ·rename_i hc;rw[if_neg hc];exact At3 hfg ps _ _ h
theorem B1{x y:Nat}(h:Nat.beq x y=true):x=y:=Nat.eq_of_beq_eq_true h
theorem Ai5(h:SR cx w0 N nt st a w M β)(hd:∀x,o.dst=some x->x<nt)(t f:Nat)(x:Operand)(fs:Array Field)(fd:Field)(n:Nat)(ho:o.op=.fieldAddr t x f)
  (hu:P.underlying t=some (.struct fs))(hf:fs[f]? =some fd)(hs:szT P fd.type=some (n+1))(ad:Addr)(hv:a.eval x=.pointer (some ad))(p:PV)
  (hr:Bk w M β w0.old p (.pointer (some (ad.add fd.offset))))(hn:p.dQ=none):E9 cx P w0 N nt st a w o (dput o.dst p):=by
 obtain⟨i,hi,his⟩:=Abp hs;refine C1 h hd _ _ w (Below.refl _ _) ?_ hr (Hx hn);simp only[execOp,ho,hv,Instr.fieldAt,run_underlying hu,Instr.sureAddr,fieldPlace,sizeOf,typeInfo,Sem.run_bind,Sem.run_pure,Result.andThen_ok,hf,run_program,hi,his];rw[if_neg (by omega)];rfl
theorem Azk{B:Nat->Prop}{l:List PV}{v:Value}{ad:Addr}(h:Bk w M β B (.ref l) v)(hv:v=.pointer (some ad))(n:Nat):Bk w M β B (.ref (l.drop n)) (.pointer (some (ad.add n))):=by
 cases h with
 |row p s hs=>cases hs
 |ref l ad' vs hm hr=>
  injection hv with hv;injection hv with hv;subst hv
  refine .ref _ _ (λi=>vs (n+i)) (λi p hp=>?_) (λi p hp=>?_)
  ·rw[List.getElem?_drop]at hp;obtain⟨g1,g2,g3⟩:=hm _ p hp;rw[add_add];exact⟨g1.imp (λh=>by rw[Ag4];exact h) id,g2,g3⟩
  ·rw[List.getElem?_drop]at hp;exact hr _ p hp
theorem A7t{B:Nat->Prop}{p:PV}{s:SV}{v:Value}(hs:p.sv=some s)(h:Bk w M β B p v):∃A c,v=.slice A s.n c/\s.n<=c/\∀i,i<s.n->∃ad,A=some ad/\Bk w M β B (.ref (s.f i)) (.pointer (some (ad.add (i*s.sz)))):=by
 have go:∀(p:PV) (v:Value),p.sv=some s->Bk w M β B p v->∃A c,v=.slice A s.n c/\s.n<=c/\∀i,i<s.n->∃ad,A=some ad/\Bk w M β B (.ref (s.f i)) (.pointer (some (ad.add (i*s.sz)))):=by
  intro p v hs h;cases h with
  |row p s' hs' A c vs hc hsz ha hm hr=>
   rw[hs]at hs';injection hs' with hs';subst hs'
   refine⟨A,c,rfl,hc,λi hi=>?_⟩;obtain⟨ad,hA⟩:=ha i hi;refine⟨ad,hA,.ref _ _ (λj=>vs i j) (λj p hp=>?_) (λj p hp=>hr i j p hi hp)⟩;obtain⟨q1,q2,q3⟩:=hm ad i j p hA hi hp;rw[add_add];exact⟨.inr q1,q2,q3⟩
  |_=>cases hs
 exact go p v hs h
theorem Ai6(h:SR cx w0 N nt st a w M β)(hd:∀x,o.dst=some x->x<nt)(t e sz:Nat)(x i:Operand)(ho:o.op=.indexAddr t x i)(hu:P.underlying t=some (.slice e))(hsz:szT P e=some sz)
  (A:Addr)(n c:Nat)(k:IntKind)(m:Int)(hx:a.eval x=.slice (some A) n c)(hi:a.eval i=.int k m)(h0:0<=m)(h1:m<(n:Int))(p:PV)
  (hr:Bk w M β w0.old p (.pointer (some (A.add (m.toNat*sz)))))(hn:p.dQ=none):E9 cx P w0 N nt st a w o (dput o.dst p):=by
 obtain⟨ie,hie,hies⟩:=Abp hsz;refine C1 h hd p _ w (Below.refl _ _) ?_ hr (Hx hn);have helem:P.elem t=e:=by simp[Program.elem,hu]
 have:=run_indexAt_slice (P:=P) w t A n c k m (by rw[helem];exact hu);simp only[execOp,ho,hx,hi,Sem.run_bind,Sem.run_pure,Result.andThen_ok];rw[this,if_pos ⟨h0,by omega⟩,helem];simp[sizeOf,typeInfo,hie,hies]
theorem Ags(h:SR cx w0 N nt st a w M β)(hd:∀x,o.dst=some x->x<nt)(t n e sz:Nat)(x:Operand)(k:Int)(ho:o.op=.indexAddr t x (.const (.int .i64 k)))(hu:P.underlying t=some (.array n e))(hsz:szT P e=some sz)
  (ad:Addr)(hv:a.eval x=.pointer (some ad))(h0:0<=k)(h1:k<(n:Int))(p:PV)(hr:Bk w M β w0.old p (.pointer (some (ad.add (k.toNat*sz)))))(hn:p.dQ=none):E9 cx P w0 N nt st a w o (dput o.dst p):=by
 obtain⟨ie,hie,hies⟩:=Abp hsz;refine C1 h hd p _ w (Below.refl _ _) ?_ hr (Hx hn);have helem:P.elem t=e:=by simp[Program.elem,hu]
 have hlen:P.arrayLen t=n:=by simp[Program.arrayLen,hu]
 have hi:a.eval (.const (.int .i64 k))=.int .i64 k:=rfl;have:=run_indexAt_array (P:=P) w t ad .i64 k (by rw[helem,hlen];exact hu);simp only[execOp,ho,hv,hi,Sem.run_bind,Sem.run_pure,Result.andThen_ok];rw[this,hlen,if_pos ⟨h0,h1⟩,helem];simp[sizeOf,typeInfo,hie,hies]
theorem A78(h:SR cx w0 N nt st a w M β)(hd:∀x,o.dst=some x->x<nt)(d s:Nat)(hdst:o.dst=some d)(x:Operand)(t e sz:Nat)(i:TypeInfo)(z:Value)
  (ho:o.op=.call { callee:=.builtin .append,args:= #[.tmp s,x],argTypes:= #[t,t] })
  (ht:P.underlying t=some (.slice e))(hi:P.info? e=some i)(hz:i.zero=some z)(hzs:z.cells.size=i.size)(hsz:i.size=sz)(hpos:1<=sz)
  {y q r:LX}{own:Bool}(hy:st.get s=.aO true y)(hq:st.aM x=.aO own q)(hr:LX.cat y q=some r)(he:e=y.e)(hs:sz=y.sz)
  (hb:(y.len+q.len)*i.bytes<=140737488355328)(hm:y.len+q.len<=maxLen):E9 cx P w0 N nt st a w o ⟨[(d,.aO true r),(s,.aO false y)],[]⟩:=by
 obtain⟨c1,c2,c3,c4,c5,c6,c7⟩:=LX.cat_spec y q r hr;have h1:=h.drop s;have hreg:=h.reg s;rw[hy]at hreg h1;have hxr:=h.aM x;rw[hq]at hxr;have ho1:=Asc (cx:=cx) (w:=w) (β := β) (a:=a) (O:=st.obj) (st:=st) (s:=s) (sv:=⟨true,y.e,y.sz,y.len,y.row⟩) (by rw[hy];rfl) rfl;obtain⟨v',w',M',hrun,hS⟩:=Aqy (P:=P) h1.sh t o.type e i z ht hi hz hzs (by omega) (p:=.aO true y) (q:=.aO own q) (r:=.aO true r) (s:=⟨true,y.e,y.sz,y.len,y.row⟩) (s2:=⟨own,q.e,q.sz,q.len,q.row⟩) (u:=⟨true,r.e,r.sz,r.len,r.row⟩) rfl rfl rfl
  he.symm (by rw[hsz];exact hs.symm) c3 c2 c4 c5 c6 (λi _=>c7 i) hreg (h.sh.tok _ _ _ ho1) hxr
  (λkey s' v' g hk hg=>by
   have hk':P5 (hold cx (st.app ⟨[(s,(st.get s).view)],[]⟩) a) st.obj w β key s' v':=by rw[hy];exact hk
   obtain⟨q1,q2⟩:=Zk hk';exact h.sh.bX _ _ _ _ _ _ g ho1 q1 (λe=>q2 e.symm) hg)
  (λg x n hg=>h.sh.bH _ _ _ g x n ho1 hg) hb hm
 refine I6 h hd hdst (st0:=st.app ⟨[(s,.aO false y)],[]⟩) hS ?_ (λt=>Y9 st d s t _ _) (λ_=>rfl) (λ_ h=>h);simp only[execOp,ho,resolve,invoke,builtin,Sem.run_bind,Sem.run_pure,Result.andThen_ok,List.map_toArray,List.map_cons,List.map_nil];rw[show a.eval (.tmp s)=a.tmps.getD s undef from rfl,hrun];rfl
theorem Aw9(h:SR cx w0 N nt st a w M β)(hd:∀x,o.dst=some x->x<nt)(d s:Nat)(hdst:o.dst=some d)(x:Operand)(t e sz:Nat)(i:TypeInfo)(z:Value)
  (ho:o.op=.call { callee:=.builtin .append,args:= #[.tmp s,x],argTypes:= #[t,t] })
  (ht:P.underlying t=some (.slice e))(hi:P.info? e=some i)(hz:i.zero=some z)(hzs:z.cells.size=i.size)(hsz:i.size=sz)(hpos:1<=sz)
  {q:LX}{own:Bool}(hy:st.get s=.val (.slice none 0 0))(hq:st.aM x=.aO own q)(he:e=q.e)(hs:sz=q.sz)
  (hb:(0+q.len)*i.bytes<=140737488355328)(hm:0+q.len<=maxLen):E9 cx P w0 N nt st a w o ⟨[(d,.aO true q)],[]⟩:=by
 have hreg:=h.reg s;rw[hy]at hreg;have hv:a.tmps.getD s undef=.slice none 0 0:=hreg.val_eq;have hxr:=h.aM x;rw[hq]at hxr;have hp:Bk w M β w0.old (.sl true q.e q.sz []) (.slice none (SV.mk true q.e q.sz 0 (λi=> [].getD i [])).n 0):=
  .row _ ⟨true,q.e,q.sz,0,λi=> [].getD i []⟩ rfl none 0 (λ_ _=>undef) (Nat.le_refl _) (λi hi=>by cases hi) (λi hi=>by cases hi) (λad i j p ha=>by cases ha) (λi j p hi=>by cases hi)
 obtain⟨v',w',M',hrun,hS⟩:=Aqy (P:=P) h.sh t o.type e i z ht hi hz hzs (by omega) (p:=.sl true q.e q.sz []) (q:=.aO own q) (r:=.aO true q) (s:=⟨true,q.e,q.sz,0,λi=> [].getD i []⟩) (s2:=⟨own,q.e,q.sz,q.len,q.row⟩) (u:=⟨true,q.e,q.sz,q.len,q.row⟩) rfl rfl rfl
  he.symm (by rw[hsz];exact hs.symm) rfl rfl rfl (by simp) (λi hi=>by cases hi) (λi _=>by simp) hp (.z (a:=none) rfl rfl) hxr
  (λkey s' v' g hk hg=>absurd hg Hl) (λg x n hg=>absurd hg Hl) hb hm
 refine I6 h hd hdst (st0:=st) hS ?_ (λt=>Gc st d t _) (λ_=>rfl) (λ_ h=>h);simp only[execOp,ho,resolve,invoke,builtin,Sem.run_bind,Sem.run_pure,Result.andThen_ok,List.map_toArray,List.map_cons,List.map_nil];rw[show a.eval (.tmp s)=a.tmps.getD s undef from rfl,hv,hrun];rfl
theorem Atm(h:SR cx w0 N nt st a w M β)(hd:∀x,o.dst=some x->x<nt)(d s:Nat)(hdst:o.dst=some d)(x:Operand)(t e:Nat)(i:TypeInfo)
  (ho:o.op=.call { callee:=.builtin .append,args:= #[.tmp s,x],argTypes:= #[t,t] })(ht:P.underlying t=some (.slice e))(hi:P.info? e=some i)
  {y:LX}(hy:st.get s=.aO true y)(hq:st.aM x=.val (.slice none 0 0)):E9 cx P w0 N nt st a w o ⟨[(d,.aO true y),(s,.aO false y)],[]⟩:=by
 have hreg:=h.reg s;have hxr:=h.aM x;rw[hq]at hxr;have hxv:a.eval x=.slice none 0 0:=hxr.val_eq;have ho1:=Asc (cx:=cx) (w:=w) (β := β) (a:=a) (O:=st.obj) (st:=st) (s:=s) (sv:=⟨true,y.e,y.sz,y.len,y.row⟩) (by rw[hy];rfl) rfl;have ht0:=h.sh.tok _ _ _ ho1;have hv:∃A n c,a.tmps.getD s undef=.slice A n c/\n<=c/\(A=none->n=0/\c=0):=by
  have go:∀(p:PV) (v:Value) (sv:SV),p.sv=some sv->Bk w M β w0.old p v->∀n c,v=.slice none n c->sv.n=0:=by
   intro p v sv hp hr n c hv;cases hr with
   |row p s' hs a' c' vs hc hsz ha=>
    rw[hp]at hs;injection hs with hs;subst hs
    injection hv with e1 e2 e3
    subst e1;rcases Nat.eq_zero_or_pos sv.n with h|h
    ·exact h
    ·obtain⟨ad,e⟩:=ha 0 h;cases e
   |_=>cases hp
  rcases ht0 with⟨A,h1⟩|⟨g,c,cur,h1,_,_,_,h5,_⟩
  ·refine⟨A,y.len,y.len,h1,Nat.le_refl _,λhA=>?_⟩;have h2:y.len=0:=go _ _ _ (by rw[hy];rfl) hreg _ _ (by rw[h1,hA]);exact⟨h2,h2⟩
  ·exact⟨_,_,_,h1,h5,λh=>by cases h⟩
 obtain⟨A,n,c,hv,hnc,hA⟩:=hv;have hrun:(execOp a.eval o).run P w=.ok (.value (a.eval (.tmp s))) w:=by
  simp only[execOp,ho,resolve,invoke,builtin,Sem.run_bind,Sem.run_pure,Result.andThen_ok,List.map_toArray,List.map_cons,List.map_nil];rw[show a.eval (.tmp s)=a.tmps.getD s undef from rfl,hxv,hv,V5 t o.type e i ht hi A n c hnc hA none 0 w];rfl
 have:=Anc h hd s d hdst (P:=P) (o:=⟨o.dst,.move (.tmp s),o.type,o.pos,o.after,o.guard⟩) (λ_=>rfl);intro K Q hK;rw[hy]at this;have hk:=this (λa' w'=>K a' w') Q hK;unfold Oper.wp at hk ⊢;rw[hrun];exact hk
theorem A2i(h:SR cx w0 N nt st a w M β){e sz s:Nat}(hb:(st.get s).bare e sz=true):
  Wg w M w0.old ⟨true,e,sz,0,λk=> [].getD k []⟩ (a.tmps.getD s undef)/\
  (∀key s' v' g,P5 (hold cx (st.app ⟨[(s,(st.get s).view)],[]⟩) a) st.obj w β key s' v'->tb (a.tmps.getD s undef)=some g->tb v'≠some g)/\
  (∀g d n,tb (a.tmps.getD s undef)=some g->β d≠some (g,n)):=by
 have hreg:=h.reg s;unfold PV.bare at hb;split at hb
 ·rename_i hg;rw[hg]at hreg;rw[hreg.val_eq];exact⟨.z rfl rfl,λkey s' v' g _ hg=>absurd hg Hl,λg d n hg=>absurd hg Hl⟩
 ·rename_i y hg;split at hb
  ·rename_i c1 c2 c3;have c1:=B1 c1;have c2:=B1 c2;have c3:=B1 c3;have ho1:=Asc (cx:=cx) (w:=w) (β := β) (a:=a) (O:=st.obj) (st:=st) (s:=s) (sv:=⟨true,y.e,y.sz,y.len,y.row⟩) (by rw[hg];rfl) rfl;refine⟨?_,λkey s' v' g hk hg'=>?_,λg d n hg'=>h.sh.bH _ _ _ g d n ho1 hg'⟩
   ·rcases h.sh.tok _ _ _ ho1 with⟨a0,h1⟩|⟨g,c,cur,h1,h2,h3,h4,h5,h6,h7⟩
    ·simp only[c1]at h1;exact .z h1 rfl
    ·simp only[c1,<-c2,<-c3]at h1 h3 h4 h5 h7;exact .inr ⟨g,c,cur,h1,h2,h3,h4,h5,h6,h7⟩
   ·obtain⟨q1,q2⟩:=Zk hk;exact h.sh.bX _ _ _ _ _ _ g ho1 q1 (λe=>q2 e.symm) hg'
  ·cases hb
 ·cases hb
theorem A1t(h:SR cx w0 N nt st a w M β)(hd:∀x,o.dst=some x->x<nt)(d s id:Nat)(hdst:o.dst=some d)(x:Operand)(t e:Nat)(i:TypeInfo)(z:Value)
  (ho:o.op=.call { callee:=.builtin .append,args:= #[.tmp s,x],argTypes:= #[t,t] })
  (ht:P.underlying t=some (.slice e))(hi:P.info? e=some i)(hz:i.zero=some z)(hzs:z.cells.size=i.size)(hpos:1<=i.size)
  {q:LX}{own:Bool}(hbare:(st.get s).bare e i.size=true)(hq:st.aM x=.aO own q)(hqs:i.size=q.sz)(hb:q.len*i.bytes<=140737488355328)(hm:q.len<=maxLen)(hn:1<=q.len)
  (cm:Bool)(hnew:Ar id (st.ob.map Prod.fst)=true):E9 cx P w0 N nt st a w o ⟨[(d,.vw cm id e i.size q.len),(s,(st.get s).view)],[(id,match cm with|true=>q.flat|false=> [.bG q])]⟩:=by
 have hxr:=h.aM x;rw[hq]at hxr;obtain⟨k1,k2,k3⟩:=A2i h hbare;obtain⟨v',w',M',β',hrun,hS⟩:=A0h (P:=P) (O':=(st.app ⟨[(d,.vw cm id e i.size q.len),(s,(st.get s).view)],[(id,match cm with|true=>q.flat|false=> [.bG q])]⟩).obj) (D':=λx=>Ar x (id::st.ob.map Prod.fst)) (d:=id)
  (h.drop s).sh t o.type e i z ht hi hz hzs hpos rfl rfl rfl hqs.symm hn k1 hxr k2 k3 hb hm cm hnew (by rw[Dm,if_pos rfl];cases cm<;>rfl) (λx hx=>by rw[Dm,if_neg (λe=>hx e.symm)];rfl)
  (λx hx=>by
   have hx':=(Be _ _).1 hx;exact⟨(Be _ _).2 (λhm=>hx' (List.mem_cons_of_mem _ hm)),λe=>hx' (by simp[e])⟩)
 refine I6 h hd hdst (st0:=st.app ⟨[(s,(st.get s).view)],[]⟩) hS ?_ (λt=>B3 _ _ _ _ _) (λ_=>rfl) (λ_ h=>h);simp only[execOp,ho,resolve,invoke,builtin,Sem.run_bind,Sem.run_pure,Result.andThen_ok,List.map_toArray,List.map_cons,List.map_nil];rw[show a.eval (.tmp s)=a.tmps.getD s undef from rfl,hrun];rfl
theorem Azw(h:SR cx w0 N nt st a w M β)(hd:∀x,o.dst=some x->x<nt)(d s:Nat)(hdst:o.dst=some d)(x:Operand)(t e:Nat)(i:TypeInfo)(z:Value)
  (ho:o.op=.call { callee:=.builtin .append,args:= #[.tmp s,x],argTypes:= #[t,t] })
  (ht:P.underlying t=some (.slice e))(hi:P.info? e=some i)(hz:i.zero=some z)(hzs:z.cells.size=i.size)(hpos:1<=i.size)
  {q n:LX}{own:Bool}(hbare:(st.get s).bare e i.size=true)(hq:st.aM x=.aO own q)(hqs:i.size=q.sz)(hn:q.len=0)(hnn:LX.nil e=some n)(hns:i.size=n.sz):
  E9 cx P w0 N nt st a w o ⟨[(d,.aO true n),(s,(st.get s).view)],[]⟩:=by
 have hxr:=h.aM x;rw[hq]at hxr;obtain⟨k1,k2,k3⟩:=A2i h hbare;obtain⟨n1,n2⟩:=LX.nil_spec e n hnn;have hp:Bk w M β w0.old (.sl true e i.size []) (a.tmps.getD s undef):=by
  have hv:∃A c,a.tmps.getD s undef=.slice A 0 c:=by
   rcases k1 with⟨a0,h1⟩|⟨g,c,cur,h1,_⟩
   ·exact⟨a0,0,h1⟩
   ·exact⟨_,_,h1⟩
  obtain⟨A,c,hv⟩:=hv;rw[hv];exact .row _ ⟨true,e,i.size,0,λk=> [].getD k []⟩ rfl A c (λ_ _=>undef) (Nat.zero_le _) (λi hi=>by cases hi) (λi hi=>by cases hi) (λad i j p _ hi=>by cases hi) (λi j p hi=>by cases hi)
 obtain⟨v',w',M',hrun,hS⟩:=Aqy (P:=P) (h.drop s).sh t o.type e i z ht hi hz hzs hpos (p:=.sl true e i.size []) (q:=.aO own q) (r:=.aO true n) (s:=⟨true,e,i.size,0,λk=> [].getD k []⟩) (s2:=⟨own,q.e,q.sz,q.len,q.row⟩) (u:=⟨true,n.e,n.sz,n.len,n.row⟩) rfl rfl rfl
  rfl rfl hqs.symm n1 hns.symm (by show n.len=0+q.len;omega) (λi hi=>by cases hi) (λi hi=>by have:i<q.len:=hi;omega) hp k1 hxr k2 k3 (by show(0+q.len)*_<=_;rw[hn];simp) (by show 0+q.len<=_;omega)
 refine I6 h hd hdst (st0:=st.app ⟨[(s,(st.get s).view)],[]⟩) hS ?_ (λt=>Y9 st d s t _ _) (λ_=>rfl) (λ_ h=>h);simp only[execOp,ho,resolve,invoke,builtin,Sem.run_bind,Sem.run_pure,Result.andThen_ok,List.map_toArray,List.map_cons,List.map_nil];rw[show a.eval (.tmp s)=a.tmps.getD s undef from rfl,hrun];rfl
theorem A0p{x:Operand}{i:Nat}(h:SR cx w0 N nt st a w M β)(hd:∀y,o.dst=some y->y<nt)(ho:o.op=.extract x i)
  (hs:Ax P (Ej P) (Eg P) ban (.extract x i) o.dst st (λδ'=> δ'= δ)):E9 cx P w0 N nt st a w o δ :=by
  simp only[Ax,Au]at hs;have hxr:=h.aM x;split at hs
  ·rename_i l hq;rw[hq]at hxr;split at hs
   ·rename_i g1;have hil:=(L6 _ _).1 g1;generalize hux:a.eval x=u at hxr;cases hxr with
    |row p s hs=>cases hs
    |aY l cs hl hr=>
     have hi:i<cs.length:=by omega
     have hv:cs[i]? =some cs[i]:=List.getElem?_eq_getElem hi;have hp:l[i]? =some (l[i]'(by omega)):=List.getElem?_eq_getElem (by omega);refine(C1 h hd _ cs[i] w (Below.refl _ _) ?_ ?_ (Va _)).of_eq hs
     ·simp only[execOp,ho,hux,Instr.extract,Sem.run_bind,List.getElem?_toArray,hv];rfl
     ·rw[Ayi l i _ hp];exact(hr i _ _ hp hv).view
   ·exact hs.elim
  ·exact hs.elim
theorem Atn(h:SR cx w0 N nt st a w M β)(hd:∀x,o.dst=some x->x<nt)(s d:Nat)(hdst:o.dst=some d)(x:LX)(r:List PV)(hg:st.get s=.aY (.aO true x::r))(ho:o.op=.extract (.tmp s) 0):
  E9 cx P w0 N nt st a w o ⟨[(d,.aO true x),(s,.aY (.aO false x::r))],[]⟩:=by
 have hreg:=h.reg s;rw[hg]at hreg;generalize hv:a.tmps.getD s undef=v at hreg;cases hreg with
 |row p s hs=>cases hs
 |aY l cs hl hr=>
  have hcs:0<cs.length:=by rw[<-hl];simp
  have h0:cs[0]? =some cs[0]:=List.getElem?_eq_getElem hcs;have hru:=hr 0 _ _ rfl h0;have hrun:(execOp a.eval o).run P w=.ok (.value cs[0]) w:=by
   simp only[execOp,ho,show a.eval (.tmp s)=a.tmps.getD s undef from rfl,hv,Instr.extract,Sem.run_bind,List.getElem?_toArray,h0];rfl
  have e:(st.get s).view=.aY (.aO false x::r):=by rw[hg];rfl
  have hdr:=h.drop s;rw[e]at hdr;refine I6 h hd hdst (st0:=st.app ⟨[(s,.aY (.aO false x::r))],[]⟩) (hdr.sh.cons (.aO true x) cs[0] hru (λsv h1 h2=>?_)) hrun (λt=>Y9 st d s t _ _) (λ_=>rfl) (λ_ h=>h);injection h1 with h1
  subst h1;have ho':P5 (hold cx st a) st.obj w β (.slot (.inl s)) ⟨true,x.e,x.sz,x.len,x.row⟩ cs[0]:=by
   have:=Aug (cx:=cx) (w:=w) (β := β) (a:=a) (O:=st.obj) (st:=st) (s:=s) (sv:=⟨true,x.e,x.sz,x.len,x.row⟩) (by rw[hg];rfl) rfl;rw[hg,hv]at this;have e2:ohd (.aY (.aO true x::r)) (.tuple cs.toArray)=cs[0]:=by
    show cs.toArray.getD 0 undef=_
    simp[hcs]
   rw[e2]at this;exact this
  refine⟨h.sh.tok _ _ _ ho',λkey s' v' g hk hg'=>?_,λg y n hg'=>h.sh.bH _ _ _ g y n ho' hg'⟩;have hk':P5 (hold cx (st.app ⟨[(s,(st.get s).view)],[]⟩) a) st.obj w β key s' v':=by rw[e];exact hk
  obtain⟨q1,q2⟩:=Zk hk';exact h.sh.bX _ _ _ _ _ _ g ho' q1 (λe=>q2 e.symm) hg'
theorem A46{f:Nat}{args:List PV}{ob:List (Nat×List PV)}{k:PV->List (Nat×List PV)->Prop}(h:stK P (Ej P) f args ob k):Ep P f=true/\∃r o',Eo P f args ob r o'/\k r o':=by
 simp only[stK]at h;split at h
 ·rename_i d ps;split at h
  ·rename_i g1 g2 g3;obtain⟨r,h1,h2⟩:=h;rcases(h1:Afg P f _ _ r\/_)with h1|⟨_,x,rfl,_⟩
   ·obtain⟨r0,l,o,rfl,q1,q2,q3,q4⟩:=h1;obtain⟨g2,g4⟩:=Ar2 g2;exact⟨g3,r0,[(d,l)],Arj q1 q2 g2 g4 q3 q4 d ob rfl g1,h2⟩
   ·exact h2.elim
  ·exact h.elim
 ·exact h.elim
theorem A48(h:SR cx w0 N nt st a w M β)(hd:∀x,o.dst=some x->x<nt)(d s id:Nat)(hdst:o.dst=some d)(x:Operand)(t e:Nat)(i:TypeInfo)(z:Value)
  (ho:o.op=.call { callee:=.builtin .append,args:= #[.tmp s,x],argTypes:= #[t,t] })
  (ht:P.underlying t=some (.slice e))(hi:P.info? e=some i)(hz:i.zero=some z)(hzs:z.cells.size=i.size)(hpos:1<=i.size)(hnew:Ar id (st.ob.map Prod.fst)=true)
  {b e' sz' m:Nat}{own:Bool}{y q r:LX}(hgs:st.get s=.vw false b e' sz' m)(hgx:st.aM x=.aO own q)(hob:st.obj b= [.bG y])(hs1:i.size=sz')(hs2:i.size=y.sz)(hcat:LX.cat y q=some r)
  (hb:(y.len+q.len)*i.bytes<=140737488355328)(hm:y.len+q.len<=maxLen):E9 cx P w0 N nt st a w o ⟨[(d,.vw false id e i.size r.len)],[(id,[.bG r]),(b,[])]⟩:=by
 have hreg:=h.reg s;rw[hgs]at hreg;obtain⟨bb,c,hβ,hnc,hcz,hv⟩:=Blb hreg;have hxr:=h.aM x;rw[hgx]at hxr;have hdb:id≠b:=λe0=>by
  have:=h.sh.dom id hnew;rw[e0,hβ]at this;cases this
 have hO:∀z,(st.app ⟨[(d,.vw false id e i.size r.len)],[(id,[.bG r]),(b,[])]⟩).obj z=if id=z then[.bG r]else if b=z then[]else st.obj z:=λz=>by
  show B4 [] (Awc [(id,[.bG r]),(b,[])] st.ob) z=_
  rw[Aao];show B4 [] ((id,[.bG r])::(b,[])::st.ob) z=_
  rw[B3,B3];rfl
 obtain⟨v',w',M',β',hrun,hS⟩:=A4i (P:=P) (O':=(st.app ⟨[(d,.vw false id e i.size r.len)],[(id,[.bG r]),(b,[])]⟩).obj) (D':=λx=>Ar x (id::st.ob.map Prod.fst)) (d:=id)
  h.sh t o.type e i z ht hi hz hzs hpos hcat hs2 hβ hob hnc (by rw[hs1];exact hcz) hxr hb hm hnew hdb (by rw[hO,if_pos rfl]) (by rw[hO,if_neg hdb,if_pos rfl])
  (λx h1 h2=>by rw[hO,if_neg (λe=>h1 e.symm),if_neg (λe=>h2 e.symm)])
  (λx hx=>by
   have hx':=(Be _ _).1 hx;exact⟨(Be _ _).2 (λhm=>hx' (List.mem_cons_of_mem _ hm)),λe=>hx' (by simp[e])⟩)
 refine I6 h hd hdst (st0:=st) hS ?_ (λt=>B3 _ _ _ _ _) (λ_=>rfl) (λy hy=>?_)
 ·simp only[execOp,ho,resolve,invoke,builtin,Sem.run_bind,Sem.run_pure,Result.andThen_ok,List.map_toArray,List.map_cons,List.map_nil];rw[show a.eval (.tmp s)=a.tmps.getD s undef from rfl,hv,hrun];rfl
 ·have hy:Ar y ((Awc [(id,[.bG r]),(b,[])] st.ob).map Prod.fst)=true:=hy;rw[Ag8,Be]at hy;refine(Be _ _).2 λhm=>hy ?_;rcases List.mem_cons.1 hm with h1|h1
  ·simp[h1]
  ·simp[h1]
theorem At5{α :Type}{s:Nat} :∀(es:List (List α)),(∀(i:Nat) (x:List α),es[i]? =some x->x.length=s)->es.flatten.length=es.length*s/\
  ∀k p,es.flatten[k]? =some p->∃i j x,es[i]? =some x/\x[j]? =some p/\k=i*s+j
 | [],_=>⟨by simp,λk p h=>by simp at h⟩
 |x::es,h=>by
  obtain⟨h1,h2⟩:=At5 es (λi y hy=>h (i+1) y (by simpa using hy));have hx:=h 0 x rfl;refine⟨by rw[List.flatten_cons,List.length_append,h1,hx,List.length_cons,Nat.add_mul];omega,λk p hp=>?_⟩;rw[List.flatten_cons]at hp;rcases Nat.lt_or_ge k x.length with hk|hk
  ·rw[List.getElem?_append_left hk]at hp;exact⟨0,k,x,rfl,hp,by omega⟩
  ·rw[List.getElem?_append_right hk]at hp;obtain⟨i,j,y,a1,a2,a3⟩:=h2 _ p hp;exact⟨i+1,j,y,by simpa using a1,a2,by rw[Nat.add_mul];omega⟩
theorem Aq6{sz:Nat} :∀(ps:List Operand) {k k':List (List PV)->Prop},(∀l,k l->k' l)->Wh st sz ps k->Wh st sz ps k':=by
 intro ps
 induction ps with
 |nil=>intro k k' hk h;exact hk _ h
 |cons x ps ih=>
  intro k k' hk h;simp only[Wh]at h ⊢;cases g1:Qm (st.aM x).cells sz<;>cases g2:Sx (st.aM x).cells<;>simp only[g1,g2]at h ⊢ <;>first
   |exact h.elim
   |exact ih (λl hl=>hk _ hl) h
theorem n6{f:Nat}{args:Array Value}{n:Sem Next}(hc:Ep P f=true)(hn:n=callFunc f args):n.run P w=.ok (.enter f args) w:=by
 unfold Ep at hc;cases hf:P.funcs[f]? with
 |none=>rw[hf]at hc;cases hc
 |some fn=>
  rw[hf]at hc;simp only[Bool.and_eq_true,Bool.not_eq_true']at hc;obtain⟨hc1,hc2⟩:=hc;have hbody:fn.body.isNone=false:=by cases hb:fn.body with|none=>rw[hb]at hc2;cases hc2|some c=>rfl
  subst hn;simp only[callFunc,Sem.run_bind,Sem.run_pure,Result.andThen_ok,run_program,hf];simp[hc1,hbody]
theorem Bk.up{B:Nat->Prop}{p:PV}{v:Value}(h:Bk w M (λ_=>none) (λ_=>False) p v):Bk w M β B p v:=by
 induction h with
 |any v=>exact .any v
 |val v h=>exact .val v h
 |agg l cs hl h1 _ ih=>exact .agg l cs hl h1 ih
 |aY l cs hl _ ih=>exact .aY l cs hl ih
 |row p s hs a c vs hc hsz ha hm _ ih=>exact .row p s hs a c vs hc hsz ha hm ih
 |loc d off b n h=>cases h
 |el d sz i off b n h=>cases h
 |vw cf d e sz n b c h=>cases h
 |mp d b n h=>cases h
 |bA f n l cs hl _ ih=>exact .bA f n l cs hl ih
 |ref l ad vs hm _ ih=>exact .ref l ad vs (λi p hp=>⟨.inr ((hm i p hp).1.resolve_left id),(hm i p hp).2⟩) ih
theorem Ke{l:List PV}{i:Nat}{q:PV}(h:(l.map PV.pure0)[i]? =some q):∃p,l[i]? =some p/\q=p.pure0:=by
 rw[List.getElem?_map]at h;cases hp:l[i]? with
 |none=>rw[hp]at h;cases h
 |some p=>rw[hp]at h;injection h with h;exact⟨p,rfl,h.symm⟩
theorem Azs(h:SR cx w0 N nt st a w M β){p:PV}{v:Value}(hp:Bk w M β w0.old p v):Bk w M (λ_=>none) (λb=>b<w.heap.size) (Ahk st.obj p) v:=by
 have hle:w0.w.heap.size<=w.heap.size:=h.sh.bS.size;cases p with
 |loc d off=>
  obtain⟨b,n,hb,hv⟩:=Vh hp;simp only[Ahk];split
  ·rename_i hpl;rw[hv];have hbw:=h.sh.mlt b 0 (h.sh.box d b n hb).2.1;have hcell:=h.cellsAt (off:=off) hb (l:=(st.obj d).drop off) (λi p hp=>by rw[List.getElem?_drop]at hp;exact hp) hpl;have hall:∀i,∃v,∀p,((st.obj d).drop off)[i]? =some p->w.cell? ((⟨b,off,none⟩:Addr).add i)=some v/\Bk w M β w0.old p v/\v.oneCell'=true:=λi=>by
    cases hp:((st.obj d).drop off)[i]? with
    |none=>exact⟨undef,λp hp=>by cases hp⟩
    |some p=>obtain⟨v,hv⟩:=hcell i p hp;exact⟨v,λq hq=>by injection hq with hq;subst hq;exact hv⟩
   obtain⟨vs,hvs⟩:=Classical.axiomOfChoice hall;refine .ref _ _ vs (λi q hq=>?_) (λi q hq=>?_)
   ·obtain⟨p,hp,rfl⟩:=Ke hq;exact⟨.inl hbw,(hvs i p hp).1,(hvs i p hp).2.2⟩
   ·obtain⟨p,hp,rfl⟩:=Ke hq;exact(hvs i p hp).2.1.pure0
  ·exact .any _
 |agg l=>
  cases hp with
  |row p s hs=>cases hs
  |agg l cs hl h1 hr=>
   refine .agg _ cs (by rw[List.length_map,hl]) h1 (λi q u hq hu=>?_);obtain⟨p,hp,rfl⟩:=Ke hq;exact(hr i p u hp hu).pure0
 |ref l=>
  cases hp with
  |row p s hs=>cases hs
  |ref l ad vs hm hr=>
   refine .ref _ ad vs (λi q hq=>?_) (λi q hq=>?_)
   ·obtain⟨p,hp,rfl⟩:=Ke hq;exact⟨(hm i p hp).1.imp (λhb=>h.sh.bS.lt hb) id,(hm i p hp).2⟩
   ·obtain⟨p,hp,rfl⟩:=Ke hq;exact(hr i p hp).pure0
 |_=>exact hp.pure0
theorem A5a(h:SR cx w0 N nt st a w M β)(hd:∀x,o.dst=some x->x<nt)(f:Nat)(args:List Operand)(ats:Array Nat)(ho:o.op=.call { callee:=.value (.func f),args:=args.toArray,argTypes:=ats })
  (hc:Ep P f=true)(r:PV)(hr:Holds P f (args.map λx=>Ahk st.obj (st.aM x)) r):E9 cx P w0 N nt st a w o (dput o.dst r.view):=by
 intro K Q hK;have hrun:(execOp a.eval o).run P w=.ok (.enter f (args.map a.eval).toArray) w:=by
  refine n6 (P:=P) hc ?_;simp[execOp,ho,resolve,Act.eval,Deferred.ofValue,invoke]
 unfold Oper.wp;rw[hrun];refine Calls.mono (hr w M (args.map a.eval) (by simp) ?_ h.sh.mlt (h.sh.mN.gl.all h.sh.bS h.sh.mN.eq)) ?_
 ·intro i p v hp hv;rw[List.getElem?_map]at hp hv;cases hx:args[i]? with
  |none=>rw[hx]at hp;cases hp
  |some x=>
   rw[hx]at hp hv;simp only[Option.map_some,Option.some.injEq]at hp hv;subst hp;subst hv
   exact Azs h (h.aM x)
 ·rintro e w' ⟨v,rfl,hv,hb⟩
  have hv':Bk w' M β w0.old r v:=by
   exact hv.up
  exact hK _ _ _ _ ((h.world hb).dput o.dst r.view v hd hv'.view (Va _))
theorem Adp(h:SR cx w0 N nt st a w M β)(hd:∀x,o.dst=some x->x<nt)(f:Nat)(args:List PV)(vs:List Value)(hrun:(execOp a.eval o).run P w=.ok (.enter f vs.toArray) w)
  (hl:vs.length=args.length)(hr:∀(i:Nat) (p:PV) (v:Value),args[i]? =some p->vs[i]? =some v->Bk w M β w0.old p v)(r:PV)(o':List (Nat×List PV))
  (hI:Eo P f args st.ob r o'):E9 cx P w0 N nt st a w o ⟨(dput o.dst r).s,o'⟩:=by
 intro K Q hK;unfold Oper.wp;rw[hrun];refine Calls.mono (hI (hold cx st a) w0 w N M β st.obj _ vs (λ_=>rfl) (λ_=>rfl) h.sh hl hr) ?_
 rintro e w' ⟨v,M',β',rfl,hS⟩
 show K (a.put o.dst v) w'
 cases hdst:o.dst with
 |some d=>
  rw[hdst]at hK;exact hK _ _ _ _ (SR.of_cons h.defs h.nt (hd d hdst) (st0:=st) hS (λs=>B3 _ _ _ _ _) (λ_=>Aao _ _ _) (λz hz=>by rw[<-Ag8];exact hz))
 |none=>
  rw[hdst]at hK;refine hK _ _ M' β' ⟨h.defs,h.nt,?_⟩;have e1:(st.app ⟨(dput none r).s,o'⟩).obj=B4 [] (o'++st.ob):=funext λz=>Aao _ _ _;have e2:(λd=>Ar d ((st.app ⟨(dput none r).s,o'⟩).ob.map Prod.fst))=λd=>Ar d ((o'++st.ob).map Prod.fst):=funext λz=>Ag8 _ _ _;rw[e1,e2];exact hS.hold (λk=>hS.reg (some k)) (λk=>some (some k)) (λk s h1 h2=>⟨some k,rfl,h1,rfl⟩) (λk k' j h1 h2=>by injection h1 with h1;injection h2 with h2;rw[<-h1]at h2;injection h2 with h2;exact h2.symm)
theorem Ay5{s:Nat} :∀ {l:List Operand},noO s l=true->∀x∈l,x≠Operand.tmp s
 | [],_,x,h=>by cases h
 |y::l,h,x,hx=>by
  rcases List.mem_cons.1 hx with rfl|hx
  ·rintro rfl
   simp only[noO,Nat.beq_refl]at h;cases h
  ·refine Ay5 ?_ x hx;cases y with
   |tmp t=>
    simp only[noO]at h;split at h
    ·cases h
    ·exact h
   |_=>exact h
theorem Asa{s:Nat} :∀ {l:List Operand},Akt s l=true->∃i:Nat,l[i]? =some (Operand.tmp s)/\∀j:Nat,l[j]? =some (Operand.tmp s)->j=i
 | [],h=>by cases h
 |y::l,h=>by
  have go:(y≠Operand.tmp s/\Akt s l=true)\/(y=Operand.tmp s/\noO s l=true):=by
   cases y with
   |tmp t=>
    simp only[Akt]at h;split at h
    ·rename_i e;exact .inr ⟨by rw[Nat.eq_of_beq_eq_true e],h⟩
    ·rename_i e;refine .inl ⟨λe2=>?_,h⟩;injection e2 with e2
     rw[e2,Nat.beq_refl]at e;cases e
   |_=>exact .inl ⟨λe=>(by cases e),h⟩
  rcases go with⟨h1,h2⟩|⟨h1,h2⟩
  ·obtain⟨i,h3,h4⟩:=Asa h2;refine⟨i+1,h3,λj hj=>?_⟩;cases j with
   |zero=>injection hj with hj;exact absurd hj h1
   |succ j=>rw[h4 j hj]
  ·refine⟨0,by rw[h1];rfl,λj hj=>?_⟩;cases j with
   |zero=>rfl
   |succ j=>exact absurd rfl (Ay5 h2 _ (List.mem_of_getElem? hj))
theorem Azx(h:SR cx w0 N nt st a w M β)(hd:∀x,o.dst=some x->x<nt)(f:Nat)(args:List Operand)(s:Nat)(hrun:(execOp a.eval o).run P w=.ok (.enter f (args.map a.eval).toArray) w)
  (ho:Akt s args=true)(r:PV)(o':List (Nat×List PV))(hI:Vc P f (args.map λx=>st.argT s x) st.ob r o'):E9 cx P w0 N nt st a w o ⟨(dput o.dst r).s++ [(s,(st.get s).view)],o'⟩:=by
 obtain⟨i0,hi0,hu⟩:=Asa ho
 let st1:St:=st.app ⟨[(s,(st.get s).view)],[]⟩
 have g1:∀t,st1.get t=if s=t then(st.get s).view else st.get t:=λt=>B3 _ _ _ _ _
 have hS1:SH (aH (args.map λx=>st.argT s x) (args.map a.eval) (hold cx st1 a)) w0 N st.obj (λd=>Ar d (st.ob.map Prod.fst)) w M β :=by
  refine h.sh.hold (λk=>?_) (λk=>match k with| .inl (.inl t)=>(if t=s then none else some (.inl t))| .inl (.inr i)=>some (.inr i)| .inr i=>(if i=i0 then some (.inl s)else none)) (λk sv h1 h2=>?_) (λk k' j h1 h2=>?_)
  ·cases k with
   |inl k=>
    cases k with
    |inl t=>
     show Bk w M β w0.old (st1.get t) (a.tmps.getD t undef)
     rw[g1];by_cases e:s=t
     ·subst e;rw[if_pos rfl];exact(h.reg s).view
     ·rw[if_neg e];exact h.reg t
    |inr i=>exact h.sh.reg (.inr i)
   |inr i=>
    show Bk w M β w0.old ((args.map λx=>st.argT s x).getD i .any) ((args.map a.eval).getD i undef)
    rw[List.getD,List.getD,List.getElem?_map,List.getElem?_map];cases hx:args[i]? with
    |none=>exact .any _
    |some x=>
     simp only[Option.map_some,Option.getD_some];have hr:=h.aM x;cases x with
     |tmp t=>
      simp only[St.argT];split
      ·exact hr
      ·exact hr.view
     |_=>exact hr.view
  ·cases k with
   |inl k=>
    cases k with
    |inl t=>
     have h1:(st1.get t).dQ=some sv:=h1;rw[g1]at h1;by_cases e:s=t
     ·subst e;rw[if_pos rfl]at h1;rw[Jx h1]at h2;cases h2
     ·rw[if_neg e]at h1;exact⟨.inl t,if_neg (λe'=>e e'.symm),h1,by show ohd (st.get t) _=ohd (st1.get t) _;rw[g1,if_neg e];rfl⟩
    |inr i=>exact⟨.inr i,rfl,h1,rfl⟩
   |inr i=>
    have h1:((args.map λx=>st.argT s x).getD i .any).dQ=some sv:=h1;rw[List.getD,List.getElem?_map]at h1;cases hx:args[i]? with
    |none=>rw[hx]at h1;cases h1
    |some x=>
     rw[hx]at h1;simp only[Option.map_some,Option.getD_some]at h1;have key:x=.tmp s:=by
      cases x with
      |tmp t=>
       simp only[St.argT]at h1;split at h1
       ·rename_i e;rw[Nat.eq_of_beq_eq_true e]
       ·rw[Jx h1]at h2;cases h2
      |_=>simp only[St.argT]at h1;rw[Jx h1]at h2;cases h2
     subst key;have e:=hu i hx;subst e;refine⟨.inl s,if_pos rfl,?_,?_⟩
     ·show(st.get s).dQ=some sv
      simpa[St.argT]using h1
     ·show ohd (st.get s) (a.tmps.getD s undef)=ohd ((args.map λx=>st.argT s x).getD i .any) ((args.map a.eval).getD i undef)
      rw[List.getD,List.getElem?_map,hx,List.getD,List.getElem?_map,hx];simp only[Option.map_some,Option.getD_some,St.argT,Nat.beq_refl];rfl
  ·have inv:∀k:(Nat ⊕ ι) ⊕ Nat,(match k with| .inl (.inl t)=>(if t=s then none else some (.inl t))| .inl (.inr i)=>some (.inr i)| .inr i=>(if i=i0 then some (.inl s)else none):Option (Nat ⊕ ι))=some j->k=match j with| .inl t=>(if t=s then .inr i0 else .inl (.inl t))| .inr i=>.inl (.inr i):=by
    intro k hk;rcases k with(t|i)|i
    ·simp only at hk;split at hk
     ·cases hk
     ·rename_i e;injection hk with hk;subst hk;simp only[if_neg e]
    ·injection hk with hk;subst hk;rfl
    ·simp only at hk;split at hk
     ·rename_i e;injection hk with hk;subst hk;subst e;simp
     ·cases hk
   exact(inv k h1).trans (inv k' h2).symm
 intro K Q hK;unfold Oper.wp;rw[hrun];refine Calls.mono (hI (hold cx st1 a) w0 w N M β st.obj _ (args.map a.eval) (λ_=>rfl) (λ_=>rfl) hS1 (by simp)) ?_
 rintro e w' ⟨v,M',β',rfl,hS⟩
 show K (a.put o.dst v) w'
 have e1:∀z:List (Nat×PV),st.app ⟨z++ [(s,(st.get s).view)],o'⟩=st1.app ⟨z,o'⟩:=λz=>by
  show St.mk ((z++ [(s,(st.get s).view)])++st.fr) (Awc o' st.ob) st.base=St.mk (z++([(s,(st.get s).view)]++st.fr)) (Awc o' (Awc [] st.ob)) st.base
  rw[List.append_assoc];rfl
 rw[e1]at hK;cases hdst:o.dst with
 |some d=>
  rw[hdst]at hK;exact hK _ _ _ _ (SR.of_cons h.defs h.nt (hd d hdst) (st0:=st1) hS (λs=>B3 _ _ _ _ _) (λ_=>Aao _ _ _) (λz hz=>by rw[<-Ag8];exact hz))
 |none=>
  rw[hdst]at hK;refine hK _ _ M' β' ⟨h.defs,h.nt,?_⟩;have e1:(st1.app ⟨(dput none r).s,o'⟩).obj=B4 [] (o'++st.ob):=funext λz=>Aao _ _ _;have e2:(λd=>Ar d ((st1.app ⟨(dput none r).s,o'⟩).ob.map Prod.fst))=λd=>Ar d ((o'++st.ob).map Prod.fst):=funext λz=>Ag8 _ _ _;rw[e1,e2];exact hS.hold (λk=>hS.reg (some k)) (λk=>some (some k)) (λk s h1 h2=>⟨some k,rfl,h1,rfl⟩) (λk k' j h1 h2=>by injection h1 with h1;injection h2 with h2;rw[<-h1]at h2;injection h2 with h2;exact h2.symm)
theorem Eo.frame{f:Nat}{args:List PV}{ob:List (Nat×List PV)}{r:PV}(h:Eo P f args [] r [])(hf:r.flat=true)(ha:∀p∈args,∀w M β B v,Bk w M β B p v->∀β' B',Bk w M β' B' p v):Eo P f args ob r []:=by
 intro κ H w0 w N M β O D vs hO hD hS hl hr;have h0:SH (λ(e:Empty)=>(e.elim:PV×Value)) (D7.all w) M (λ_=> []) (λ_=>true) w M (λ_=>none):=
  ⟨Bel.of w _ rfl,⟨λ_ _=>rfl,hS.mN.gl.all hS.bS hS.mN.eq⟩,hS.mlt,(λd b n h=>by cases h),(λd d' b n n' h=>by cases h),λ_ _=>rfl,λk=>k.elim,
   (λkey s v ho=>by cases key with|slot k=>exact k.elim|cell d i=>obtain⟨b,n,p,h,_⟩:=ho;cases h),
   (λkey key' s s' v v' g ho=>by cases key with|slot k=>exact k.elim|cell d i=>obtain⟨b,n,p,h,_⟩:=ho;cases h),
   (λkey s v g d n ho=>by cases key with|slot k=>exact k.elim|cell d i=>obtain⟨b,n,p,h,_⟩:=ho;cases h)⟩
 refine Calls.mono (h _ (D7.all w) w M M (λ_=>none) (λ_=> []) (λ_=>true) vs (λd=>rfl) (λd=>rfl) h0 hl (λi p v hp hv=>ha p (List.mem_of_getElem? hp) _ _ _ _ _ (hr i p v hp hv) _ _)) ?_
 rintro e w' ⟨v,M',β',rfl,S1⟩
 have hb:Below w.heap.size w w':=S1.bS.below;have hMM:∀b,b<w.heap.size->M' b=M b:=λb hb=>S1.mN.eq b hb;have hE:Ext w M w' M':=λx u hi hv=>⟨λn hn=>hi n (by rw[<-hMM _ (Rs hv)];exact hn),by rw[hb.cell (Rs hv)];exact hv⟩;have hR:∀p v,Bk w M β w0.old p v->Bk w' M' β w0.old p v:=λp v hr=>hr.ext hE (λx hx=>hb.cell (hS.bS.lt hx)) (λ_ _ h=>h) (λ_ b _ _=>Te hb b);have hOw:∀key s v,P5 H O w' β key s v->P5 H O w β key s v:=by
  intro key s v ho;cases key with
  |slot k=>exact ho
  |cell d i=>
   obtain⟨b,n,p,h1,h2,h3,h4,h5⟩:=ho;have hbl:=hS.mlt b 0 (hS.box d b n h1).2.1;exact⟨b,n,p,h1,h2,h3,h4,by rw[<-hb.cell (p:=⟨b,i,none⟩) hbl];exact h5⟩
 have htl:∀key s v,P5 H O w β key s v->∀g,tb v=some g->g<w.heap.size:=λkey s v ho g hg=>by
  obtain⟨_,k,hk⟩:=(hS.tok key s v ho).lt hg;exact hS.mlt g k hk
 have SW:SH H w0 N O D w' M' β :=by
  refine⟨hS.bS.later hb,⟨λb hb=>(hMM b (hS.bS.lt hb)).trans (hS.mN b hb),hS.mN.gl⟩,S1.mlt,?_,hS.inj,hS.dom,λk=>hR _ _ (hS.reg k),?_,?_,?_⟩
  ·intro d b n hd;obtain⟨h1,h2,h3⟩:=hS.box d b n hd;have hbl:=hS.mlt b 0 h2;exact⟨h1,(hMM b hbl).trans h2,h3.ext (hb.block b hbl) hR⟩
  ·intro key s v ho;have ht:=hS.tok key s v (hOw _ _ _ ho);exact ht.ext (λg hg=>⟨hb.block g (htl _ _ _ (hOw _ _ _ ho) g hg),hMM g (htl _ _ _ (hOw _ _ _ ho) g hg)⟩)
  ·intro key key' s s' v v' g ho ho';exact hS.bX key key' s s' v v' g (hOw _ _ _ ho) (hOw _ _ _ ho')
  ·intro key s v g d n ho;exact hS.bH key s v g d n (hOw _ _ _ ho)
 have hrv:Bk w' M' β w0.old r v:=Bk.flat (S1.reg none) hf;have e1:O=B4 [] ([]++ob):=funext hO;have e2:D=λd=>Ar d (([]++ob).map Prod.fst):=funext hD;refine⟨v,M',β,rfl,?_⟩;rw[<-e1,<-e2];have new:∀(s:SV) g,r.dQ=some s->s.own=true->tb (ohd r v)=some g->w.heap.size<=g:=λs g h1 h2 hg=>by
  have ht:=S1.tok (.slot none) s (ohd r v) ⟨h1,h2,rfl⟩;generalize ohd r v=u at ht hg;rcases ht with⟨a,rfl⟩|⟨g',c,cur,rfl,t2,_⟩
  ·exact absurd hg Adq
  ·have:g'=g:=T2 hg;subst this;exact Nat.le_of_not_lt t2
 refine SW.cons r v hrv (λs h1 h2=>⟨?_,λkey s' v' g ho hg hg'=>?_,λg d n hg hd=>?_⟩)
 ·have ht:=S1.tok (.slot none) s (ohd r v) ⟨h1,h2,rfl⟩;rcases ht with ht|⟨g,c,cur,t1,t2,t3,t4,t5⟩
  ·exact .inl ht
  ·exact .inr ⟨g,c,cur,t1,λhg=>t2 (hS.bS.lt hg),t3,t4,t5⟩
 ·have:=new s g h1 h2 hg;have:=htl key s' v' (hOw _ _ _ ho) g hg';omega
 ·have:=new s g h1 h2 hg;have:=hS.mlt g 0 (hS.box d g n hd).2.1;omega
theorem Aj3:∀ {args:List Operand},Ru st args=true->∀p∈args.map (λx=>(st.aM x).view),p.flat=true
 | [],_,p,hp=>by cases hp
 |x::r,h,p,hp=>by
  simp only[Ru]at h;split at h
  ·rename_i hx;rw[List.map_cons]at hp;rcases List.mem_cons.1 hp with e|e
   ·subst e;exact hx
   ·exact Aj3 h p e
  ·cases h
theorem Afz(h:SR cx w0 N nt st a w M β)(args:List Operand):∀(i:Nat) (p:PV) (v:Value),(args.map λx=>(st.aM x).view)[i]? =some p->(args.map a.eval)[i]? =some v->Bk w M β w0.old p v:=by
 intro i p v hp hv;rw[List.getElem?_map]at hp hv;cases hx:args[i]? with
 |none=>rw[hx]at hp;cases hp
 |some x=>
  rw[hx]at hp hv;simp only[Option.map_some,Option.some.injEq]at hp hv;subst hp;subst hv
  exact(h.aM x).view
theorem Bgw{B:Nat->Prop}{f n:Nat}{caps:List PV}{v:Value}(h:Bk w M β B (.bA f n caps) v):∃cs:List Value,v=.func (.func f) (cs.take n).toArray (cs.drop n).toArray/\caps.length=cs.length/\∀(i:Nat) (p:PV) (v:Value),caps[i]? =some p->cs[i]? =some v->Bk w M β B p v:=by
 cases h with
 |row p s hs=>cases hs
 |bA f n l cs hl hr=>exact⟨cs,rfl,hl,hr⟩
def A5s(x y:List PV):Prop:=x.length=y.length/\∀(j:Nat) (q:PV),y[j]? =some q->∃p,x[j]? =some p/\(q=p\/PV.Le p q)
theorem A5s.of_le{x y:List PV}(h:Qh x y):A5s x y:=⟨h.get.1,λj q hq=>let ⟨p,h1,h2⟩:=h.get.2 j q hq;⟨p,h1,.inr h2⟩⟩
theorem Aso(h:SR cx w0 N nt st a w M β)(hd:∀x,o.dst=some x->x<nt){inl:Nat->Bool}{once:Nat}(hs:Ax P (Ej P) (Eg P) ban (cOp P inl once o) o.dst st (λδ'=> δ'= δ)):E9 cx P w0 N nt st a w o δ :=by
 obtain⟨dst,op,type,pos,after,guard⟩:=o;have nilmv:∀(x:Operand) (op:Op),(∀w,(execOp a.eval ⟨dst,op,type,pos,after,guard⟩).run P w=.ok (.value (a.eval x)) w)->∀e,A00 x=true->Ax P (Ej P) (Eg P) ban (.fH e) dst st (λδ'=> δ'= δ)->
   E9 cx P w0 N nt st a w ⟨dst,op,type,pos,after,guard⟩ δ :=by
  intro x op hrun e hx hs;have hv:a.eval x=.slice none 0 0:=by
   unfold A00 at hx;split at hx
   ·rfl
   ·cases hx
  simp only[Ax,Au]at hs;cases dst with
  |none=>exact hs.elim
  |some d=>
   cases hy:LX.nil e with
   |none=>rw[hy]at hs;exact hs.elim
   |some y=>rw[hy]at hs;exact(A1y (P:=P) (o:=⟨some d,op,type,pos,after,guard⟩) h hd e y d rfl hy (by rw[hrun,hv])).of_eq hs
 have nilk:∀(x:Operand) (op:Op) (k:K),(∀w,(execOp a.eval ⟨dst,op,type,pos,after,guard⟩).run P w=.ok (.value (a.eval x)) w)->(Ax P (Ej P) (Eg P) ban k dst st (λδ'=> δ'= δ)->E9 cx P w0 N nt st a w ⟨dst,op,type,pos,after,guard⟩ δ)->
   Ax P (Ej P) (Eg P) ban (A4n P x type k) dst st (λδ'=> δ'= δ)->E9 cx P w0 N nt st a w ⟨dst,op,type,pos,after,guard⟩ δ :=by
  intro x op k hrun hk hs;unfold A4n at hs;split at hs
  ·rename_i e hx _;exact nilmv x _ hrun e hx hs
  ·exact hk hs
 cases op with
 |move x=>
  refine nilk x _ (Aud P once type dst x) (λ_=>rfl) (λhs=>?_) hs;have tk0:(∃s d,x=.tmp s/\dst=some d/\Ary P once type dst x=.take s)\/Ary P once type dst x=.move x:=by
   unfold Ary;cases Zg P type with
   |false=>exact .inr rfl
   |true=>
    cases x with
    |tmp s=>
     cases dst with
     |none=>exact .inr rfl
     |some d=>
      cases hb:mvB once d with
      |true=>exact .inl ⟨s,d,rfl,rfl,by simp only[hb]⟩
      |false=>exact .inr (by simp only[hb])
    |_=>exact .inr rfl
  have tk:(∃s d,x=.tmp s/\dst=some d/\Aud P once type dst x=.take s)\/Aud P once type dst x=.move x:=by
   unfold Aud;split
   ·exact .inl ⟨_,_,rfl,rfl,rfl⟩
   ·exact tk0
  rcases tk with⟨s,d,rfl,rfl,e⟩|e
  ·rw[e]at hs;exact(Anc h hd s d rfl (λ_=>rfl)).of_eq hs
  ·rw[e]at hs;exact(Auv h hd x (λ_=>rfl)).of_eq hs
 |assign x=>
  refine nilk x _ (Auy P type x) (λ_=>rfl) (λhs=>?_) hs;have tk:(∃s,x=.tmp s/\Auy P type x=.take s)\/Auy P type x=.move x:=by
   unfold Auy;cases Zg P type with
   |false=>exact .inr rfl
   |true=>cases x<;>first|exact .inl ⟨_,rfl,rfl⟩|exact .inr rfl
  rcases tk with⟨s,rfl,e⟩|e
  ·rw[e]at hs;simp only[Ax,Au]at hs;cases dst with
   |none=>exact hs.elim
   |some d=>exact(Anc h hd s d rfl (λ_=>rfl)).of_eq hs
  ·rw[e]at hs;exact(Auv h hd x (λ_=>rfl)).of_eq hs
 |pick c x y=>
  simp only[cOp,Ax,Au]at hs;have hcr:=h.aM c;split at hs
  ·rename_i t hq;rw[hq]at hcr;have hv:a.eval c=.bool t:=hcr.val_eq;have hrun:∀w,(execOp a.eval ⟨dst,.pick c x y,type,pos,after,guard⟩).run P w=.ok (.value (if t then a.eval x else a.eval y)) w:=by
    intro w;simp only[execOp,hv,asBool,Sem.run_bind,Sem.run_pure,Result.andThen_ok]
   cases t with
   |true=>exact(C1 h hd _ _ w (Below.refl _ _) (hrun w) (h.aM x).view (Va _)).of_eq hs
   |false=>exact(C1 h hd _ _ w (Below.refl _ _) (hrun w) (h.aM y).view (Va _)).of_eq hs
  ·exact hs.elim
 |alloc t=>
  simp only[cOp]at hs;split at hs
  ·rename_i z hz;simp only[Ax,Au]at hs;cases dst with
   |none=>exact hs.elim
   |some d=>
    simp only at hs;split at hs
    ·rename_i g1;obtain⟨i,z0,hi,hz0,hl0,hr0⟩:=Aci (w:=w) (M:=M) (β := β) (B:=w0.old) hz;refine(Asn h hd d (st.base+d) rfl z z0.cells t g1 ⟨hl0,λi p v hp hv=>⟨(hr0 i p v hp hv).1,(hr0 i p v hp hv).2.1⟩⟩ (λi p s v hp hs ho hv=>(hr0 i p v hp hv).2.2 s hs ho) ?_).of_eq hs;simp only[execOp,Instr.alloc,zeroValue,typeInfo,newVar,newRow,newObj,Sem.run_bind,Sem.run_pure,Result.andThen_ok,run_program,hi,hz0];simp[Sem.run]
    ·exact hs.elim
  ·exact hs.elim
 |box t x=>
  simp only[cOp,Ax,Au]at hs;cases dst with
  |none=>exact hs.elim
  |some d=>
   simp only at hs;split at hs
   ·rename_i g1 g2;obtain⟨c1,c2⟩:=Tg (h.aM x) g2;refine(Asn h hd d (st.base+d) rfl _ (a.eval x).cells t g1 ⟨by rw[<-c1];simp,λi p v hp hv=>c2 i p v hp (by rw[Array.getElem?_toList];exact hv)⟩ (λi p s v hp hs ho hv=>?_) ?_).of_eq hs
    ·obtain⟨p',_,rfl⟩:=F8 hp;rw[Abq hs]at ho;cases ho
    ·simp only[execOp,Instr.box,newVar,newRow,newObj,Sem.run_bind,Sem.run_pure,Result.andThen_ok];rfl
   ·exact hs.elim
 |build t parts=>
  simp only[cOp]at hs;split at hs
  ·rename_i z fs hz hf;split at hs
   ·rename_i qs hp;simp only[Ax,Au]at hs;obtain⟨i,z0,hi,hz0,hl0,hr0⟩:=A5i (w:=w) (M:=M) (β := β) (B:=w0.old) hz;obtain⟨l',cs',r1,r2,r3,r4⟩:=A0q h fs parts.toList qs (z.map PV.view) z0.cells _ hp ⟨by rw[List.length_map,hl0],λi p v hp hv=>by
     obtain⟨p',hp',rfl⟩:=F8 hp;exact⟨(hr0 i p' v hp' hv).1.view,(hr0 i p' v hp' hv).2.1⟩⟩ hs
    have hbuilt:P.built t (parts.map λp=>(p.1,a.eval p.2)).toList=some cs':=by
     unfold Program.built;unfold A2o at hf;cases hu:P.underlying t with
     |none=>rw[hu]at hf;cases hf
     |some d=>
      rw[hu]at hf;cases d with
      |struct fields=>
       simp only at hf;simp only[hi,hz0,hf];simpa using r1
      |array n e=>
       simp only at hf;cases hie:P.info? e with
       |none=>rw[hie]at hf;cases hf
       |some ie=>
        rw[hie]at hf;simp only[Option.map_some,Option.some.injEq]at hf;subst hf;simp only[hi,hz0,hie];refine At3 (λj x hj=>?_) _ _ _ (by simpa using r1);cases hjr:(List.range n)[j]? with
        |none=>rw[hjr]at hj;cases hj
        |some j'=>
         rw[hjr]at hj;rw[List.getElem?_range (by have:=(List.getElem?_eq_some_iff.1 hjr).1;simpa using this)]at hjr;injection hjr with hjr
         subst hjr;exact hj
      |_=>cases hf
    refine(C1 (v:=.agg cs') h hd (.agg l') w (Below.refl _ _) ?_ ?_ (Hx rfl)).of_eq r4
    ·have:=run_build w t _ cs' hbuilt;simp only[execOp,Sem.run_bind,Sem.run_pure,Result.andThen_ok];rw[this];rfl
    ·have:Bk w M β w0.old (.agg l') (.agg cs'.toList.toArray):=by
      refine .agg l' cs'.toList (by simpa using r2.1) (λv hv=>?_) (λi p v hp hv=>(r2.2 i p v hp (by rw[<-Array.getElem?_toList];exact hv)).1);obtain⟨j,hj,rfl⟩:=List.getElem_of_mem hv;have hj':j<l'.length:=by rw[r2.1];simpa using hj
      exact(r2.2 j _ _ (List.getElem?_eq_getElem hj') (by rw[<-Array.getElem?_toList];exact List.getElem?_eq_getElem hj)).2
     simpa using this
   ·exact hs.elim
  ·exact hs.elim
 |buildSlice t n parts=>
  simp only[cOp]at hs;cases hu:P.underlying t with
  |none=>rw[hu]at hs;exact hs.elim
  |some d=>
   rw[hu]at hs;cases d with
   |slice e=>
    simp only at hs;cases g1:szT P e with
    |none=>rw[g1]at hs;exact hs.elim
    |some sz=>
     cases g2:Alb P e with
     |none=>rw[g1,g2]at hs;exact hs.elim
     |some z=>
      cases g3:Af5 0 parts.toList with
      |none=>rw[g1,g2,g3]at hs;exact hs.elim
      |some xs=>
       rw[g1,g2,g3]at hs;simp only at hs;cases b1:Nat.beq xs.length n<;>cases b2:Nat.ble (n*sz) 16777216<;>cases b3:Nat.beq z.length sz<;>cases b4:Nat.ble 1 sz<;>simp only[b1,b2,b3,b4]at hs<;>try exact hs.elim
       have e1:=B1 b1;have e2:n*sz<=16777216:=Nat.le_of_ble_eq_true b2;have e3:=B1 b3;have e4:1<=sz:=Nat.le_of_ble_eq_true b4;have hs:Wh st sz xs λl=>(match LX.lit e l with
         |some x=>match Nat.beq x.sz sz with
          |true=>dput dst (.aO true x)= δ
          |false=>False
         |none=>dput dst (.sl true e sz l)= δ)\/(∃d,dst=some d/\Ar (st.base+d) (st.ob.map Prod.fst)=true/\
          ((⟨[(d,.vw true (st.base+d) e sz l.length)],[(st.base+d,At4 l)]⟩:B2)= δ\/∃x,LX.lit e l=some x/\x.sz=sz/\(⟨[(d,.vw false (st.base+d) e sz x.len)],[(st.base+d,[.bG x])]⟩:B2)= δ)):=by
        cases hlv:Be8 once dst with
        |false=>
         rw[hlv]at hs;simp only[Ax,Au]at hs;exact Aq6 _ (λl hl=>.inl hl) hs
        |true=>
         rw[hlv]at hs;simp only[Ax,Au]at hs;cases dst with
         |none=>exact hs.elim
         |some d=>
          simp only at hs;split at hs
          ·rename_i hnew;refine Aq6 _ (λl hl=>.inr ⟨d,rfl,hnew,?_⟩) hs;cases hcm:Nat.testBit once 40002 with
           |true=>rw[hcm]at hl;exact .inl hl
           |false=>
            rw[hcm]at hl;simp only at hl;split at hl
            ·rename_i x hx;split at hl
             ·rename_i hb;exact .inr ⟨x,hx,B1 hb,hl⟩
             ·exact hl.elim
            ·exact hl.elim
          ·exact hs.elim
       obtain⟨i,hi,his⟩:=Abp g1;unfold Alb at g2;cases hzz:i.zero with
       |none=>simp[hi,hzz]at g2
       |some zv=>
        simp[hi,hzz]at g2;have hzs:zv.cells.size=sz:=by rw[<-e3,<-g2];simp
        obtain⟨es,cs',r1,r2,r3,r4,r5,r6,r7⟩:=Ax3 h sz parts.toList 0 xs _ ((Array.range (n*sz)).map (zv.cells[· % zv.cells.size]!)) g3 hs (by simp;rw[<-e1];exact Nat.le_refl _);have hlen:es.length=n:=by rw[r3,e1]
        obtain⟨hE,hS,hRR,hb1,hn1⟩:=h.sh.rowNew cs' e (es.length*sz);have hh:(w.alloc (.cells cs' e)).heap[w.heap.size]? =some (.cells cs' e (0,0)):=heap_alloc_new w _;have hsize:cs'.size=n*sz:=by rw[r2];simp
        have hrun:(execOp a.eval ⟨dst,.buildSlice t n parts,type,pos,after,guard⟩).run P w=.ok (.value (.slice (some ⟨w.heap.size,0,none⟩) n n)) (w.alloc (.cells cs' e)):=by
         by_cases hz0:n*i.size=0
         ·have hn0:n=0:=by
           rcases Nat.mul_eq_zero.1 hz0 with h0|h0
           ·exact h0
           ·omega
          subst hn0;have hpn:parts.toList= []:=by
           have hx0:xs= []:=List.eq_nil_of_length_eq_zero e1;subst hx0;cases hp:parts.toList with
           |nil=>rfl
           |cons q r=>
            obtain⟨j,y⟩:=q;rw[hp]at g3;simp only[Af5]at g3;split at g3
            ·injection g3 with g3;cases g3
            ·cases g3
          have hpa:parts= #[]:=by apply Array.ext';simpa using hpn
          have hcs:cs'= #[]:=Array.eq_empty_of_size_eq_zero (by rw[hsize];simp);subst hpa;subst hcs
          have hr0:Array.map (λ(_:Nat)=>(default:Value)) (Array.range 0)= #[]:=Array.eq_empty_of_size_eq_zero (by simp);simp[execOp,Instr.buildSlice,run_underlying hu,sizeOf,typeInfo,hi,Instr.fill,newRow,newObj,Sem.run];rw[hr0]
         ·have:=run_buildSlice (P:=P) w t e n (parts.map λp=>(p.1,a.eval p.2)) cs' i zv hu hi hzz (by rw[his];omega) hz0 (by rw[his];simpa using r1);simp only[execOp,Sem.run_bind,Sem.run_pure,Result.andThen_ok];rw[this];rfl
        have hle:w0.w.heap.size<=w.heap.size:=h.sh.bS.size;have hmax:n<=maxLen:=by
         have:n<=n*sz:=Nat.le_mul_of_pos_right _ (by omega);simp only[maxLen];omega
        have fin:∀(p:PV) (s:SV),p.sv=some s->s.e=e->s.sz=sz->s.n=n->(∀(i:Nat) (x:List PV),es[i]? =some x->A5s x (s.f i))->dput dst p= δ->E9 cx P w0 N nt st a w ⟨dst,.buildSlice t n parts,type,pos,after,guard⟩ δ :=by
         intro p s hp hse hss hsn hrow hδ;subst hδ;have hget:∀i,i<n->∃x,es[i]? =some x:=λi hi=>⟨_,List.getElem?_eq_getElem (by omega)⟩;have hrel:Bk (w.alloc (.cells cs' e)) (λb=>if b=w.heap.size then some (es.length*sz)else M b) β w0.old p (.slice (some ⟨w.heap.size,0,none⟩) n n):=
          Wo hp hsn.symm hh (Nat.le_refl _) (λi hi=>by
            obtain⟨x,hx⟩:=hget i hi;rw[<-(hrow i x hx).1,hss];exact r5 i x hx)
           (λj hj m hm=>by
            simp only[if_true]at hm;injection hm with hm
            show j<m
            rw[hss]at hj;rw[<-hm,hlen];exact hj)
           (λi j q hi hq=>by
            obtain⟨x,hx⟩:=hget i hi;obtain⟨p0,hp0,hle'⟩:=(hrow i x hx).2 j q hq;obtain⟨v,q1,q2,q3⟩:=r6 i x j p0 hx hp0;rw[hss];refine⟨v,by simpa using q1,?_,q3⟩;rcases hle' with rfl|hle'
            ·exact hRR _ _ q2
            ·exact(hRR _ _ q2).le hle')
         cases dst with
         |none=>
          intro K Q hK;exact L4 hrun (hK _ _ _ _ ⟨h.defs,h.nt,hS⟩)
         |some d=>
          refine I6 h hd rfl (st0:=st) (hS.cons p _ hrel (λs' h1 h2=>?_)) hrun (λs=>Gc st d s _) (λ_=>rfl) (λ_ h=>h);rw[(M9 hp).2];rw[(M9 hp).1]at h1;injection h1 with h1;subst h1
          cases n with
          |zero=>exact⟨.z rfl hsn,λkey s' v' g _ hg=>absurd hg Hl,λg d n hg=>absurd hg Hl⟩
          |succ n=>
           refine⟨.inr ⟨w.heap.size,n,cs',by rw[hsn],h.sh.bS.new,by simp[hsn,hss,hlen],by rw[hse];exact hh,by omega,hmax,by rw[hss];exact hsize⟩,λkey s' v' g ho' hg=>?_,λg d n hg=>?_⟩
           ·have:w.heap.size=g:=T2 hg;rw[<-this];exact(hn1 key s' v' ho').2
           ·have:w.heap.size=g:=T2 hg;rw[<-this];exact hb1 d _
        rcases r7 with r7|⟨d,hdd,hnew,r7⟩
        rotate_left
        ·subst hdd;rcases r7 with rfl|⟨x,hlit,hxs,rfl⟩
         ·obtain⟨f1,f2⟩:=At5 es r5;refine Agt h hd d (st.base+d) es.length rfl (At4 es) (.cells cs' e) (.vw true (st.base+d) e sz es.length) _ hnew rfl (λW M' β' hW hb'=>by
            rw[<-hlen];exact .vw true _ e sz _ _ _ hb' (Nat.le_refl _) (by subst hW;rw[Vg hh,hsize,hlen];exact Nat.le_refl _)) (λk p s hp hs how v hv=>?_) (λM' β' hR hb'=>.cells _ cs' e hh (by
            unfold At4;rw[List.length_map,f1,hlen,hsize];exact Nat.le_refl _) (λk p v hp hv=>?_)) hrun
          ·unfold At4 at hp;rw[List.getElem?_map]at hp;obtain⟨p0,_,rfl⟩:=Option.map_eq_some_iff.1 hp;rw[Abq hs]at how;cases how
          ·unfold At4 at hp;rw[List.getElem?_map]at hp;obtain⟨p0,hp0,rfl⟩:=Option.map_eq_some_iff.1 hp;obtain⟨i0,j,x,a1,a2,a3⟩:=f2 k p0 hp0;obtain⟨u,u1,u2,u3⟩:=r6 i0 x j p0 a1 a2;rw[Nat.zero_add,<-a3,hv]at u1;injection u1 with u1
           subst u1;exact⟨(hR _ _ u2).view,u3⟩
         ·obtain⟨l1,l2,l3⟩:=LX.lit_spec e es x hlit;refine Agt h hd d (st.base+d) x.len rfl [.bG x] (.cells cs' e) (.vw false (st.base+d) e sz x.len) _ hnew rfl (λW M' β' hW hb'=>by
            have e9:x.len=n:=by rw[l2,hlen]
            rw[e9]at hb' ⊢;exact .vw false _ e sz _ _ _ hb' (Nat.le_refl _) (by subst hW;rw[Vg hh,hsize];exact Nat.le_refl _)) (λk p s hp hs how v hv=>?_) (λM' β' hR hb'=>.arr x cs' e hh rfl (by rw[l2,hlen,hxs,hsize];exact Nat.le_refl _) (λi0 j q v hi0 hq hv=>?_)) hrun
          ·cases k with
           |zero=>simp at hp;subst hp;cases hs
           |succ k=>simp at hp
          ·have hx0:es[i0]? =some (es[i0]'(by omega)):=List.getElem?_eq_getElem (by omega);obtain⟨p0,hp0,hle'⟩:=(A5s.of_le (l3 i0 _ hx0)).2 j q hq;obtain⟨u,u1,u2,u3⟩:=r6 i0 _ j p0 hx0 hp0;rw[Nat.zero_add]at u1;rw[hxs,u1]at hv;injection hv with hv
           subst hv;refine⟨?_,u3⟩;rcases hle' with rfl|hle'
           ·exact hR _ _ u2
           ·exact(hR _ _ u2).le hle'
        cases hlit:LX.lit e es with
        |some x=>
         rw[hlit]at r7;simp only at r7;obtain⟨l1,l2,l3⟩:=LX.lit_spec e es x hlit;cases b5:Nat.beq x.sz sz with
         |false=>rw[b5]at r7;exact r7.elim
         |true=>
          rw[b5]at r7;exact fin (.aO true x) ⟨true,x.e,x.sz,x.len,x.row⟩ rfl l1 (B1 b5) (by show x.len=n;rw[l2,hlen]) (λi r hr=>.of_le (l3 i r hr)) r7
        |none=>
         rw[hlit]at r7;refine fin (.sl true e sz es) ⟨true,e,sz,es.length,λi=>es.getD i []⟩ rfl rfl rfl hlen (λi x hx=>?_) r7;have:es.getD i []=x:=by simp[List.getD,hx]
         show A5s x (es.getD i [])
         rw[this];exact⟨rfl,λj q hq=>⟨q,hq,.inl rfl⟩⟩
   |_=>exact hs.elim
 |load t x=>
  simp only[cOp]at hs;cases hu:P.underlying t with
  |none=>rw[hu]at hs;exact hs.elim
  |some d=>
   cases hsz:szT P t with
   |none=>rw[hu,hsz]at hs;exact hs.elim
   |some sz=>
    rw[hu,hsz]at hs;simp only at hs;have key:∀(g:Bool),g=Et P t->(Et P t=false->sz=1)->Ax P (Ej P) (Eg P) ban (.load g sz x) dst st (λδ'=> δ'= δ)->E9 cx P w0 N nt st a w ⟨dst,.load t x,type,pos,after,guard⟩ δ :=by
     intro g hg hsz1 hs;subst hg;have hxr:=h.aM x;simp only[Ax,Au]at hs;split at hs
     ·rename_i b off hq;rw[hq]at hxr;split at hs
      ·rename_i g1 g2 g3;obtain⟨bb,n,hb,hv⟩:=Vh hxr;rw[A5h]at g3 hs;rw[Azd]at g3;exact(Anb h hd t sz x d rfl hu hsz hsz1 _ _ hv (h.cellsAt hb (λi p hp=>j6 hp) g3).views (by have:=(L6 _ _).1 g2;simp[St.vobj]at this;simp;omega)).of_eq hs
      ·exact hs.elim
     ·rename_i l hq;rw[hq]at hxr;split at hs
      ·rename_i g2;obtain⟨ad,hv,hcell⟩:=Zn hxr;exact(Anb h hd t sz x d rfl hu hsz hsz1 _ _ hv (hcell.take sz) (by rw[List.length_take];have:=(L6 _ _).1 g2;omega)).of_eq hs
      ·exact hs.elim
     ·rename_i b sz' i off hq;rw[hq]at hxr;split at hs
      ·rename_i y g1 g3;have g3:=A8f g3;split at hs
       ·rename_i g4 g5;have e:=B1 g4;subst e;obtain⟨bb,n,hb,hin,hv⟩:=Ax2 hxr;exact(Anb h hd t sz x d rfl hu hsz hsz1 _ _ hv ((A0k h hb hin g3).take sz) (by rw[List.length_take];have:=(L6 _ _).1 g5;omega)).of_eq hs
       ·exact hs.elim
      ·exact hs.elim
     ·exact hs.elim
    have key1:∀(g:Bool),g=Et P t->(Et P t=false->sz=1)->Ax P (Ej P) (Eg P) ban (Ay4 once g sz x) dst st (λδ'=> δ'= δ)->E9 cx P w0 N nt st a w ⟨dst,.load t x,type,pos,after,guard⟩ δ :=by
     intro g hg hsz1 hs;refine key g hg hsz1 ?_;unfold Ay4 at hs;split at hs
     ·split at hs
      ·simp only[Ax]at hs ⊢;split at hs
       ·rename_i b off b' o' hq hr;simp only[hq];split at hs
        ·rename_i g1 g2 g3;simp only[Bool.and_eq_true]at g1;simp only[g1.1,g2,g3];exact hs
        ·exact hs.elim
       ·exact hs.elim
      ·exact hs
     ·exact hs
    have key2:(Et P t=false/\sz=1)->∀dd,dst=some dd->Ax P (Ej P) (Eg P) ban (.loadT x) dst st (λδ'=> δ'= δ)->E9 cx P w0 N nt st a w ⟨dst,.load t x,type,pos,after,guard⟩ δ :=by
     rintro ⟨hg,rfl⟩ dd hdd hs
     subst hdd;simp only[Ax,Au]at hs;cases hq:st.aM x with
     |loc b off=>
      rw[hq]at hs;simp only at hs;split at hs
      ·rename_i g1 g2;simp only[Bool.and_eq_true]at g2;exact(A1u h hd dd rfl x t b off d rfl hu hsz hg hq g2.1 g2.2).of_eq hs
      ·exact hs.elim
     |_=>rw[hq]at hs;exact hs.elim
    have slagg:Zg P t=true->Et P t=false:=by
     intro h1;unfold Zg at h1;unfold Et;rw[hu]at h1 ⊢;cases d<;>simp at h1 ⊢
    have sub:∀(g:Bool),g=Et P t->(Et P t=false->sz=1)->Ax P (Ej P) (Eg P) ban (Ayx P once t dst g sz x) dst st (λδ'=> δ'= δ)->E9 cx P w0 N nt st a w ⟨dst,.load t x,type,pos,after,guard⟩ δ :=by
     intro g hg hsz1 hs;unfold Ayx at hs;split at hs
     ·rename_i dd hsl _;split at hs
      ·exact key2 ⟨slagg hsl,hsz1 (slagg hsl)⟩ dd rfl hs
      ·exact key1 g hg hsz1 hs
     ·exact key1 g hg hsz1 hs
    cases g1:Et P t with
    |false=>
     cases g2:Nat.beq sz 1 with
     |false=>rw[g1,g2]at hs;exact hs.elim
     |true=>rw[g1,g2]at hs;exact sub false g1.symm (λ_=>B1 g2) hs
    |true=>rw[g1]at hs;exact sub true g1.symm (λe=>by rw[g1]at e;cases e) hs
 |store t ad x=>
  simp only[cOp]at hs;cases hdst:dst with
  |some d=>rw[hdst]at hs;exact hs.elim
  |none=>
   subst hdst;cases hsz:szT P t with
   |none=>rw[hsz]at hs;exact hs.elim
   |some sz=>
    rw[hsz]at hs;simp only at hs;have key:Ax P (Ej P) (Eg P) ban (.store sz ad x) none st (λδ'=> δ'= δ)->E9 cx P w0 N nt st a w ⟨none,.store t ad x,type,pos,after,guard⟩ δ :=by
     intro hs;simp only[Ax,Au]at hs;cases hq:st.aM ad with
     |loc b off=>
      rw[hq]at hs;simp only at hs;split at hs
      ·rename_i g1 g2 g3;simp only[Bool.and_eq_true]at g3;obtain⟨w',hrun,hS⟩:=Az0 (o:=⟨none,.store t ad x,type,pos,after,guard⟩) h ad x t sz b off rfl hsz hq g1 g2 g3.1 g3.2;exact(Ak6 rfl hrun hS).of_eq hs
      ·exact hs.elim
     |el b sz' i off=>
      rw[hq]at hs;simp only at hs;split at hs
      ·rename_i y g1 g2 g3;split at hs
       ·rename_i y' g4 g5;have e:=B1 g4;subst e;obtain⟨w',hrun,hS⟩:=Ak9 (o:=⟨none,.store t ad x,type,pos,after,guard⟩) h ad x t sz b i off y y' _ rfl hsz hq rfl g1 g2 g3 g5;exact(Ak6 rfl hrun hS).of_eq hs
       ·exact hs.elim
      ·exact hs.elim
     |_=>rw[hq]at hs;exact hs.elim
    have key1:Ax P (Ej P) (Eg P) ban (Asp once sz ad x) none st (λδ'=> δ'= δ)->E9 cx P w0 N nt st a w ⟨none,.store t ad x,type,pos,after,guard⟩ δ :=by
     intro hs;refine key ?_;unfold Asp at hs;split at hs
     ·split at hs
      ·simp only[Ax]at hs ⊢;split at hs
       ·rename_i b off b' o' hq hr;simp only[hq];split at hs
        ·rename_i g1 g2 g3 g4;simp only[g2,g3,g4];exact hs
        ·exact hs.elim
       ·exact hs.elim
      ·exact hs
     ·exact hs
    unfold A1z at hs;split at hs
    ·rename_i s hsl;split at hs
     ·rename_i g1 g2;have e:=B1 g2;subst e;simp only[Ax,Au]at hs;cases hq:st.aM ad with
      |loc b off=>
       rw[hq]at hs;simp only at hs;split at hs
       ·rename_i q1 q2;simp only[Bool.and_eq_true]at q2;exact(Az1 h ad s t b off rfl hsz hq q1 q2.1 q2.2 rfl).of_eq hs
       ·exact hs.elim
      |el b sz' i off=>
       rw[hq]at hs;simp only at hs;split at hs
       ·rename_i y q1 q2;split at hs
        ·rename_i y' q3 q4;have e:=B1 q3;subst e;have hc:(st.aM (.tmp s)).cells= [st.get s]:=Auf q1;obtain⟨w',hrun,hS⟩:=Ak9 (o:=⟨none,.store t ad (.tmp s),type,pos,after,guard⟩) h ad (.tmp s) t 1 b i off y y' [(st.get s).view] rfl hsz hq (by rw[hc];rfl) (by rw[hc];rfl) (by rw[hc];simp only[Sx];rw[q1]) q2 q4;exact(Ak6 (δ :=⟨[(s,(st.get s).view)],[(b,[.bG y'])]⟩) rfl hrun (hS.drop s)).of_eq hs
        ·exact hs.elim
       ·exact hs.elim
      |_=>rw[hq]at hs;exact hs.elim
     ·exact key1 hs
    ·exact key1 hs
 |nilCheck x=>
  simp only[cOp,Ax,Au]at hs;have hxr:=h.aM x;split at hs
  ·rename_i b off hq;rw[hq]at hxr;obtain⟨bb,n,hb,hv⟩:=Vh hxr;exact(C1 h hd _ _ w (Below.refl _ _) (by simp only[execOp,hv];rfl) (.loc b off bb n hb) (Hx rfl)).of_eq hs
  ·rename_i l hq;rw[hq]at hxr;obtain⟨ad,hv,_⟩:=Zn hxr;rw[hv]at hxr;exact(C1 h hd _ _ w (Below.refl _ _) (by simp only[execOp,hv];rfl) hxr (Hx rfl)).of_eq hs
  ·rename_i b sz i off hq;rw[hq]at hxr;obtain⟨bb,n,hb,hin,hv⟩:=Ax2 hxr;exact(C1 h hd _ _ w (Below.refl _ _) (by simp only[execOp,hv];rfl) (.el b sz i off bb n hb hin) (Hx rfl)).of_eq hs
  ·exact hs.elim
 |binOp b t x y t'=>
  simp only[cOp]at hs;cases hag:Et P t with
  |false=>
   rw[hag]at hs;simp only at hs;split at hs
   ·refine My h hd hs λu v r hu hv hb w=>?_;simp only[execOp,hu,hv,Sem.run_bind];rw[A3y t' hb];rfl
   ·refine My h hd hs λu v r hu hv hb w=>?_;simp only[execOp,hu,hv,Sem.run_bind];rw[A3z t' hb];rfl
   ·refine My h hd hs λu v r hu hv hb w=>?_;simp only[execOp,hu,hv,Sem.run_bind];rw[A30 t' hb];rfl
   ·refine My h hd hs λu v r hu hv hb w=>?_;simp only[execOp,hu,hv,Sem.run_bind];rw[A31 t' hb];rfl
   ·refine My h hd hs λu v r hu hv hb w=>?_;simp only[execOp,hu,hv,Sem.run_bind];rw[A32 t' hb];rfl
   ·rename_i hty;refine My h hd hs (λu v r hu hv hb w=>?_) λad n c hx hy _ w=>?_
    ·unfold bY at hb;cases u<;>cases v<;>cases hb
    ·have e1:=Atz (P:=P) (ad:=ad) (n:=n) (c:=c) w hty;simp only[execOp,hx,hy,Sem.run_bind,eqGuard,binOp,Bool.not_true,Bool.false_eq_true,if_false,ite_self,e1,Sem.run_pure,Result.andThen_ok];rfl
   ·rename_i hty;refine My h hd hs (λu v r hu hv hb w=>?_) λad n c hx hy _ w=>?_
    ·unfold bY at hb;cases u<;>cases v<;>cases hb
    ·have e1:=Atz (P:=P) (ad:=ad) (n:=n) (c:=c) w hty;simp only[execOp,hx,hy,Sem.run_bind,eqGuard,binOp,Bool.not_true,Bool.false_eq_true,if_false,ite_self,e1,Sem.run_pure,Result.andThen_ok];rfl
   ·exact T1 h hd (λcs b e=>by cases e) hs
  |true=>
   rw[hag]at hs;simp only at hs;split at hs
   ·rename_i ts hts;exact Aty h hd (.inl ⟨rfl,rfl⟩) hts rfl hs
   ·rename_i ts hts;exact Aty h hd (.inr ⟨rfl,rfl⟩) hts rfl hs
   ·exact hs.elim
 |unOp b t x=>exact T1 h hd (λcs b e=>by cases e) hs
 |convert b t x=>
  have key:Ax P (Ej P) (Eg P) ban (.dB ⟨dst,.convert b t x,type,pos,after,guard⟩) dst st (λδ'=> δ'= δ)->E9 cx P w0 N nt st a w ⟨dst,.convert b t x,type,pos,after,guard⟩ δ :=λhs=>T1 h hd (λcs b e=>by cases e) hs;simp only[cOp]at hs;split at hs
  ·rename_i e h1 h2;split at hs
   ·rename_i h3;simp only[Ax,Au]at hs;split at hs
    ·rename_i own y hx;split at hs
     ·rename_i s hy;exact(A49 h hd b t e x rfl h1 h3 h2 own y hx s hy).of_eq hs
     ·exact hs.elim
    ·rename_i hx;exact(A1s h hd b t e x rfl h1 h3 h2 hx).of_eq hs
    ·exact hs.elim
   ·exact hs.elim
  ·exact key hs
 |index t x i=>
  simp only[cOp]at hs;split at hs
  ·rename_i hty;refine My h hd hs λu v r hu hv hb w=>?_;simp only[execOp,hu,hv,Sem.run_bind];rw[A33 hty hb];rfl
  ·exact hs.elim
 |fieldAddr t x f=>
  simp only[cOp]at hs;cases hu:P.underlying t with
  |none=>rw[hu]at hs;exact hs.elim
  |some d=>
   rw[hu]at hs;cases d with
   |struct fs=>
    simp only at hs;cases hf:fs[f]? with
    |none=>rw[hf]at hs;exact hs.elim
    |some fd=>
     rw[hf]at hs;simp only at hs;cases hsz:szT P fd.type with
     |none=>rw[hsz]at hs;exact hs.elim
     |some sz=>
      rw[hsz]at hs;cases sz with
      |zero=>exact hs.elim
      |succ n=>
       simp only[Ax,Au]at hs;have hxr:=h.aM x;split at hs
       ·rename_i b off hq;rw[hq]at hxr;obtain⟨bb,m,hb,hv⟩:=Vh hxr;refine(Ai5 h hd t f x fs fd n rfl hu hf hsz _ hv (.loc b (off+fd.offset)) ?_ rfl).of_eq hs;rw[m7];exact .loc b _ bb m hb
       ·rename_i l hq;rw[hq]at hxr;obtain⟨ad,hv,_⟩:=Zn hxr;exact(Ai5 h hd t f x fs fd n rfl hu hf hsz _ hv _ (Azk hxr hv _) rfl).of_eq hs
       ·rename_i b sz i off hq;rw[hq]at hxr;obtain⟨bb,m,hb,hin,hv⟩:=Ax2 hxr;refine(Ai5 h hd t f x fs fd n rfl hu hf hsz _ hv (.el b sz i (off+fd.offset)) ?_ rfl).of_eq hs;rw[m7,Nat.add_assoc];exact .el b sz i _ bb m hb hin
       ·exact hs.elim
   |_=>exact hs.elim
 |indexAddr t x i=>
  simp only[cOp]at hs;cases hu:P.underlying t with
  |none=>rw[hu]at hs;exact hs.elim
  |some d=>
   rw[hu]at hs;cases d with
   |slice e=>
    simp only at hs;cases hsz:szT P e with
    |none=>rw[hsz]at hs;exact hs.elim
    |some sz=>
     rw[hsz]at hs;simp only[Ax,Au]at hs;have hxr:=h.aM x;have hir:=h.aM i;split at hs
     ·rename_i c b e' sz' m k n hq hqi;rw[hq]at hxr;rw[hqi]at hir;obtain⟨bb,cp,hb,hc,hv⟩:=A3m hxr;split at hs
      ·rename_i g1;obtain⟨h0,h1,hk⟩:=hs;have e:=B1 g1;subst e;refine(Ai6 h hd t _ sz x i rfl hu hsz _ _ _ k n hv hir.val_eq h0 h1 (.el b sz n.toNat 0) ?_ rfl).of_eq hk;rw[add_lit];exact .el b sz n.toNat 0 bb m hb (by omega)
      ·rename_i g1;obtain⟨h0,h1,hk⟩:=hs;refine(Ai6 h hd t _ sz x i rfl hu hsz _ _ _ k n hv hir.val_eq h0 h1 (.loc b (n.toNat*sz)) ?_ rfl).of_eq hk;rw[add_lit];exact .loc b _ bb m hb
      ·exact hs.elim
     ·rename_i k n hqi hne;rw[hqi]at hir;cases hsv:(st.aM x).sv with
      |none=>rw[hsv]at hs;exact hs.elim
      |some s=>
       rw[hsv]at hs;simp only at hs;cases g1:Nat.beq sz s.sz with
       |false=>rw[g1]at hs;exact hs.elim
       |true=>
        rw[g1]at hs;obtain⟨h0,h1,hk⟩:=hs;have e:=B1 g1;subst e;obtain⟨A,c,hv,hc,hrow⟩:=A7t hsv hxr;obtain⟨ad,rfl,hrel⟩:=hrow n.toNat (by omega);exact(Ai6 h hd t _ s.sz x i rfl hu hsz _ _ _ k n hv hir.val_eq h0 h1 (.ref (s.f n.toNat)) hrel rfl).of_eq hk
     ·exact hs.elim
   |array n e=>
    simp only at hs;split at hs
    ·rename_i sz k hsz;split at hs
     ·rename_i hb;rw[Bool.and_eq_true]at hb;have h0:=of_decide_eq_true hb.1;have h1:=of_decide_eq_true hb.2;simp only[Ax,Au]at hs;have hxr:=h.aM x;split at hs
      ·rename_i b off hq;rw[hq]at hxr;obtain⟨bb,m,hb,hv⟩:=Vh hxr;refine(Ags h hd t n e sz x k rfl hu hsz _ hv h0 h1 (.loc b (off+k.toNat*sz)) ?_ rfl).of_eq hs;rw[m7];exact .loc b _ bb m hb
      ·rename_i l hq;rw[hq]at hxr;obtain⟨ad,hv,_⟩:=Zn hxr;exact(Ags h hd t n e sz x k rfl hu hsz _ hv h0 h1 _ (Azk hxr hv _) rfl).of_eq hs
      ·rename_i b sz' i off hq;rw[hq]at hxr;obtain⟨bb,m,hb,hin,hv⟩:=Ax2 hxr;refine(Ags h hd t n e sz x k rfl hu hsz _ hv h0 h1 (.el b sz' i (off+k.toNat*sz)) ?_ rfl).of_eq hs;rw[m7,Nat.add_assoc];exact .el b sz' i _ bb m hb hin
      ·exact hs.elim
     ·exact hs.elim
    ·exact hs.elim
   |_=>exact hs.elim
 |extract x i=>
  have key:Ax P (Ej P) (Eg P) ban (.extract x i) dst st (λδ'=> δ'= δ)->E9 cx P w0 N nt st a w ⟨dst,.extract x i,type,pos,after,guard⟩ δ :=λhs=>A0p (o:=⟨dst,.extract x i,type,pos,after,guard⟩) h hd rfl hs;simp only[cOp]at hs;unfold A6g at hs;split at hs
  ·rename_i s _;cases dst with
   |none=>exact hs.elim
   |some d=>
    simp only[Ax]at hs;split at hs
    ·rename_i d' x r hd' hg;injection hd' with hd'
     subst hd';exact(Atn h hd s d rfl x r hg rfl).of_eq hs
    ·rename_i d' p r hne hd' hg;injection hd' with hd'
     subst hd';refine key ?_;simp only[Ax];rw[show st.aM (.tmp s)=st.get s from rfl,hg];have hl:Mj (p::r) (0+1)=true:=(L6 _ _).2 (by simp);simp only[hl];exact hs
    ·exact hs.elim
  ·exact key hs
 |makeFunc fn first caps=>
  cases fn with
  |func f=>
   simp only[cOp]at hs;cases hc:Ep P f with
   |false=>rw[hc]at hs;exact hs.elim
   |true=>
    rw[hc]at hs;simp only[Ax,Au]at hs;have e0:caps.map a.eval=(caps.toList.map a.eval).toArray:=by apply Array.ext';simp
    have e1:first.map a.eval=(first.toList.map a.eval).toArray:=by apply Array.ext';simp
    refine(C1 h hd (.bA f first.size ((first.toList++caps.toList).map λx=>(st.aM x).view)) (.func (.func f) (((first.toList++caps.toList).map a.eval).take first.size).toArray (((first.toList++caps.toList).map a.eval).drop first.size).toArray) w (Below.refl _ _) ?_ (.bA f _ _ _ (by simp) (Afz h (first.toList++caps.toList))) (Hx rfl)).of_eq hs;have t1:((first.toList++caps.toList).map a.eval).take first.size=first.toList.map a.eval:=by
     rw[List.map_append,List.take_left' (by simp)]
    have t2:((first.toList++caps.toList).map a.eval).drop first.size=caps.toList.map a.eval:=by
     rw[List.map_append,List.drop_left' (by simp)]
    rw[t1,t2,<-e0,<-e1];simp only[execOp,Instr.makeFunc,Sem.run_bind,Sem.run_pure,Result.andThen_ok]
  |_=>exact hs.elim
 |makeMap t r=>
  cases r with
  |some r=>simp only[cOp]at hs;exact hs.elim
  |none=>
   simp only[cOp]at hs;split at hs
   ·rename_i ek ev hu;split at hs
    ·rename_i x y hx hy;simp only[Ax,Au]at hs;cases dst with
     |none=>exact hs.elim
     |some d=>
      simp only at hs;split at hs
      ·rename_i g1;exact(A1x h hd d (st.base+d) rfl t _ _ x y rfl (LX.nil_spec ek x hx).2 (LX.nil_spec ev y hy).2 g1).of_eq hs
      ·exact hs.elim
    ·exact hs.elim
   ·exact hs.elim
 |lookup t m q ok=>
  simp only[cOp]at hs;split at hs
  ·rename_i ek ev hu;split at hs
   ·rename_i gq ts z ht hz;split at hs
    ·rename_i hzk;simp only[Ax,Au]at hs;split at hs
     ·rename_i b hm;split at hs
      ·rename_i gk gv ks vs c _ hob hq;split at hs
       ·rename_i r hgk hf hgv;cases ok<;>exact Azy h hd rfl hu ht hz hzk hm hq hob hgk hf hgv hs
       ·exact hs.elim
      ·exact hs.elim
     ·exact hs.elim
    ·exact hs.elim
   ·exact hs.elim
  ·exact hs.elim
 |mapUpdate t m q x=>
  simp only[cOp]at hs;split at hs
  ·rename_i ek ev hu;split at hs
   ·rename_i gq ts ht;simp only[Ax,Au]at hs;split at hs
    ·rename_i b hm;split at hs
     ·rename_i gk gv ks vs ck hob hq;split at hs
      ·rename_i r c hgk hf hc;exact A1v h rfl rfl hu ht hm hq hob hgk hf hc hs
      ·exact hs.elim
     ·exact hs.elim
    ·exact hs.elim
   ·exact hs.elim
  ·exact hs.elim
 |slice t x lo hi mx=>
  simp only[cOp]at hs;cases hu:P.underlying t with
  |none=>rw[hu]at hs;exact hs.elim
  |some d=>
   rw[hu]at hs;cases d with
   |string=>
    cases mx with
    |some m=>exact hs.elim
    |none=>
     simp only[Ax,Au]at hs;split at hs
     ·rename_i s hx;split at hs
      ·rename_i hh hhi;split at hs
       ·rename_i l hl;obtain⟨h0,h1,h2,hk⟩:=hs;exact(A5b h hd t x lo hi rfl hu s hx hhi hl h0 h1 h2).of_eq hk
       ·exact hs.elim
      ·exact hs.elim
     ·exact hs.elim
   |slice e=>
    simp only at hs;cases hsz:szT P e with
    |none=>rw[hsz]at hs;exact hs.elim
    |some sz=>
     rw[hsz]at hs;have key:(hi=none->mx=none)->Ax P (Ej P) (Eg P) ban (.gU sz x lo hi mx) dst st (λδ'=> δ'= δ)->E9 cx P w0 N nt st a w ⟨dst,.slice t x lo hi mx,type,pos,after,guard⟩ δ :=by
      intro hmx hs;simp only[Ax,Au,Aj5]at hs;split at hs
      ·rename_i own y hx;split at hs
       ·rename_i m g1 hm;split at hs
        ·rename_i hh hhi;split at hs
         ·rename_i l hl;obtain⟨h0,h1,h2,h3,h4,hk⟩:=hs;exact(A8b h hd t e sz x lo hi mx rfl hu hsz hmx own y hx (B1 g1) hm hhi hl h0 h1 h2 h3 h4).of_eq hk
         ·exact hs.elim
        ·exact hs.elim
       ·exact hs.elim
      ·exact hs.elim
     cases mx with
     |none=>exact key (λ_=>rfl) hs
     |some m=>
      cases hi with
      |none=>exact hs.elim
      |some hi=>exact key (λe=>by cases e) hs
   |_=>exact hs.elim
 |makeSlice t l c=>
  simp only[cOp]at hs;cases hu:P.underlying t with
  |none=>rw[hu]at hs;exact hs.elim
  |some d=>
   rw[hu]at hs;cases d with
   |slice e=>
    simp only at hs;cases hi:P.info? e with
    |none=>rw[hi]at hs;exact hs.elim
    |some i=>
     cases hsz:szT P e with
     |none=>rw[hi,hsz]at hs;exact hs.elim
     |some sz=>
      cases hz:Ala P e with
      |none=>rw[hi,hsz,hz]at hs;exact hs.elim
      |some z=>
       rw[hi,hsz,hz]at hs;simp only at hs;have his:i.size=sz:=by
        unfold szT at hsz;rw[hi]at hsz;simpa using hsz
       cases b1:Nat.beq z.length sz<;>cases b2:Nat.ble 1 sz<;>cases b3:Awz l c<;>cases b4:Axe l<;>simp only[b1,b2,b3,b4]at hs<;>try exact hs.elim
       ·
        have hl0:a.eval l=.int .i64 0:=by
         unfold Axe at b4;split at b4
         ·rename_i n;have e:=of_decide_eq_true b4;subst e;rfl
         ·cases b4
        obtain⟨i',z0,hi',hz0,hlz,_⟩:=Aci (w:=w) (M:=M) (β := β) (B:=w0.old) hz;rw[hi]at hi';injection hi' with hi'
        subst hi';simp only[Ax,Au]at hs;split at hs
        ·rename_i d m x hc hx;split at hs
         ·rename_i b5;obtain⟨h0,h1,h2,hk⟩:=hs;have hcr:=h.aM c;rw[hc]at hcr;have hcv:a.eval c=.int .i64 (m.toNat:Int):=by rw[hcr.val_eq,Int.toNat_of_nonneg h0]
          have e1:((m.toNat*i.bytes:Nat):Int)=m*(i.bytes:Int):=by rw[Int.natCast_mul,Int.toNat_of_nonneg h0]
          exact(A1w h hd d e rfl t l c m.toNat i x z0 rfl hu hi hz0 hx (by rw[his];exact B1 b5) hl0 hcv (by omega) (by omega)).of_eq hk
         ·exact hs.elim
        ·exact hs.elim
       all_goals
        have hlc:a.eval c=a.eval l:=by
         unfold Awz at b3;split at b3
         ·have e:=B1 b3;subst e;rfl
         ·have e:=of_decide_eq_true b3;subst e;rfl
         ·cases b3
        have hpos:1<=sz:=Nat.le_of_ble_eq_true b2;simp only[Ax,Au]at hs;have hlr:=h.aM l;split at hs
        ·rename_i d m hlv;rw[hlv]at hlr;split at hs
         ·split at hs
          ·rename_i h0 hnew hby;simp only[Bool.and_eq_true]at hby;have h0':=of_decide_eq_true h0;have hv:a.eval l=.int .i64 (m.toNat:Int):=by rw[hlr.val_eq,Int.toNat_of_nonneg h0']
           exact(Auu h hd d (st.base+d) e sz rfl t l c m.toNat i z rfl hu hi his hz (B1 b1) hpos hv (by rw[hlc];exact hv) (Nat.le_of_ble_eq_true hby.1) (Nat.le_trans (Nat.le_of_ble_eq_true hby.2) (by decide)) hnew true _ (.inl ⟨rfl,rfl⟩)).of_eq hs
          ·exact hs.elim
         ·split at hs
          ·rename_i y hnew hy;cases b5:Nat.beq y.sz sz with
           |false=>rw[b5]at hs;exact hs.elim
           |true=>
            rw[b5]at hs;obtain⟨h0,h1,h2,hk⟩:=hs;have hv:a.eval l=.int .i64 (m.toNat:Int):=by rw[hlr.val_eq,Int.toNat_of_nonneg h0]
            have e1:((m.toNat*i.bytes:Nat):Int)=m*(i.bytes:Int):=by rw[Int.natCast_mul,Int.toNat_of_nonneg h0]
            exact(Auu h hd d (st.base+d) e sz rfl t l c m.toNat i z rfl hu hi his hz (B1 b1) hpos hv (by rw[hlc];exact hv) (by omega) (by omega) hnew false _ (.inr ⟨y,hy,rfl,B1 b5⟩)).of_eq hk
          ·exact hs.elim
        ·exact hs.elim
   |_=>exact hs.elim
 |call cl=>
  obtain⟨callee,args,argTypes⟩:=cl;cases callee with
  |invoke r m=>exact hs.elim
  |value f=>
   cases f with
   |func f=>
    simp only[cOp]at hs;cases g1:Ep P f with
    |false=>
     rw[g1]at hs;simp only at hs;split at hs
     ·rename_i sb x y c he hx;have hx':args= #[x,y,c]:=by apply Array.ext';simpa using hx
      subst hx';exact A8a h hd he rfl hs
     ·exact hs.elim
    |true=>
     rw[g1]at hs;cases g3:inl f with
     |false=>
      rw[g3]at hs;simp only[Ax,Au]at hs;cases g2:Vi st ban args.toList with
      |false=>rw[g2]at hs;exact hs.elim
      |true=>
       rw[g2]at hs;obtain⟨r,hr,hk⟩:=hs;rw[HoldsC.of (Arm _ _ _)]at hr;exact(A5a h hd f args.toList argTypes (by simp) g1 r hr).of_eq hk
     |true=>
      rw[g3]at hs;simp only at hs;cases g4:inl (4398046511104+f) with
      |true=>
       rw[g4]at hs;simp only[Ax,Au]at hs;cases g5:Ru st args.toList with
       |false=>rw[g5]at hs;exact hs.elim
       |true=>
        rw[g5]at hs;obtain⟨_,r,o',hI,hk⟩:=hs;unfold A4u at hk;split at hk
        ·rename_i hfl;refine(Adp h hd f (args.toList.map λx=>(st.aM x).view) (args.toList.map a.eval) ?_ (by simp) (Afz h args.toList) r [] (Eo.frame (Vc.toI hI (Anf _ _)) hfl λp hp _ _ _ _ _ hr _ _=>hr.flat (Aj3 g5 p hp))).of_eq ?_
         ·have e0:args.map a.eval=(args.toList.map a.eval).toArray:=by apply Array.ext';simp
          refine n6 (P:=P) g1 ?_;rw[<-e0];simp[execOp,resolve,Act.eval,Deferred.ofValue,invoke]
         ·rw[<-hk];cases dst<;>rfl
        ·exact hk.elim
      |false=>
      rw[g4]at hs;simp only at hs;cases g6:Nat.testBit once 40011 && inl (35184372088832+f) with
      |true=>
       rw[g6]at hs;simp only[Ax]at hs;split at hs
       ·rename_i s0 r0 hl0;split at hs
        ·obtain⟨_,r,o',hI,hk⟩:=A46 hs;refine(Adp h hd f (args.toList.map λx=>(st.aM x).view) (args.toList.map a.eval) ?_ (by simp) (Afz h args.toList) r o' hI).of_eq hk;have e0:args.map a.eval=(args.toList.map a.eval).toArray:=by apply Array.ext';simp
         refine n6 (P:=P) g1 ?_;rw[<-e0];simp[execOp,resolve,Act.eval,Deferred.ofValue,invoke]
        ·exact hs.elim
       ·exact hs.elim
      |false=>
      rw[g6]at hs;simp only at hs;have hrun:(execOp a.eval ⟨dst,.call { callee:=.value (.func f),args:=args,argTypes:=argTypes },type,pos,after,guard⟩).run P w=.ok (.enter f (args.toList.map a.eval).toArray) w:=by
       have e0:args.map a.eval=(args.toList.map a.eval).toArray:=by apply Array.ext';simp
       refine n6 (P:=P) g1 ?_;rw[<-e0];simp[execOp,resolve,Act.eval,Deferred.ofValue,invoke]
      split at hs
      ·rename_i s r0 _ hl;simp only[Ax,Au]at hs;split at hs
       ·rename_i ho;obtain⟨_,r,o',hI,hk⟩:=hs;refine(Azx h hd f (.tmp s::r0) s ?_ ho r o' hI).of_eq hk;rw[<-hl];exact hrun
       ·exact hs.elim
      ·simp only[Ax,Au]at hs;obtain⟨_,r,o',hI,hk⟩:=hs;exact(Adp h hd f (args.toList.map λx=>(st.aM x).view) (args.toList.map a.eval) hrun (by simp) (Afz h args.toList) r o' (hI.toI (Anf _ _))).of_eq hk
   |tmp x=>
    simp only[cOp,Ax,Au]at hs;have hxr:=h.aM (.tmp x);split at hs
    ·rename_i f n caps hx;rw[hx]at hxr;obtain⟨cs,hv,hl,hr⟩:=Bgw hxr;obtain⟨hc,r,o',hI,hk⟩:=hs;have hfin:∀(i:Nat) (p:PV) (v:Value),(caps.take n++((args.toList.map λx=>(st.aM x).view)++caps.drop n))[i]? =some p->(cs.take n++(args.toList.map a.eval++cs.drop n))[i]? =some v->Bk w M β w0.old p v:=by
      intro i p v hp hv;by_cases hi:i<(caps.take n).length
      ·have hi':i<(cs.take n).length:=by rw[List.length_take]at hi ⊢;omega
       rw[List.getElem?_append_left hi]at hp;rw[List.getElem?_append_left hi']at hv;rw[List.getElem?_take]at hp hv;split at hp
       ·rename_i hlt;rw[if_pos hlt]at hv;exact hr _ p v hp hv
       ·cases hp
      ·have e3:(cs.take n).length=(caps.take n).length:=by rw[List.length_take,List.length_take,hl]
       rw[List.getElem?_append_right (by omega)]at hp;rw[List.getElem?_append_right (by omega),e3]at hv;by_cases hi2:i-(caps.take n).length<args.toList.length
       ·rw[List.getElem?_append_left (by simpa using hi2)]at hp hv;exact Afz h args.toList _ p v hp hv
       ·rw[List.getElem?_append_right (by simp at hi2 ⊢;omega)]at hp hv;simp only[List.length_map]at hp hv;rw[List.getElem?_drop]at hp hv;exact hr _ p v hp hv
     refine(Adp h hd f ((caps.take n++((args.toList.map λx=>(st.aM x).view)++caps.drop n)).map PV.view) (cs.take n++(args.toList.map a.eval++cs.drop n)) ?_ (by simp[hl]) (λi p v hp hv=>?_) r o' (hI.toI (Anf (λx=>x) _))).of_eq hk
     ·refine n6 (P:=P) hc ?_;have hv':a.tmps.getD x undef=.func (.func f) (cs.take n).toArray (cs.drop n).toArray:=hv;have e0:(cs.take n).toArray++args.map a.eval++(cs.drop n).toArray=(cs.take n++(args.toList.map a.eval++cs.drop n)).toArray:=by apply Array.ext';simp
      rw[<-e0];simp[execOp,resolve,Act.eval,Deferred.ofValue,invoke,hv']
     ·rw[List.getElem?_map]at hp;obtain⟨q,hq,rfl⟩:=Option.map_eq_some_iff.1 hp;exact(hfin i q v hq hv).view
    ·exact hs.elim
   |_=>exact hs.elim
  |builtin b=>
   cases b with
   |delete=>
    simp only[cOp]at hs;split at hs
    ·rename_i m q t ts' hx ht
     trace_state
     have hx':args= #[m,q]:=by apply Array.ext';simpa using hx
     subst hx';cases hu:P.underlying t with
     |none=>rw[hu]at hs;exact hs.elim
     |some d=>
      rw[hu]at hs;cases d with
      |map ek ev=>
       simp only at hs;cases hkp:Wu P ek with
       |none=>rw[hkp]at hs;exact hs.elim
       |some x=>
        obtain⟨gq,ts⟩:=x;rw[hkp]at hs;simp only[Ax]at hs;cases hm:st.aM m with
        |mp b=>
         rw[hm]at hs;simp only at hs;split at hs
         ·rename_i gk gv ks vs ck hob hq;split at hs
          ·rename_i r hgk hf;have hat:argTypes[0]? =some t:=by rw[<-Array.getElem?_toList,ht];rfl
           exact A79 h rfl rfl hat hu hkp hm hq hob hgk hf hs
          ·exact hs.elim
         ·exact hs.elim
        |_=>rw[hm]at hs;exact hs.elim
      |_=>exact hs.elim
    ·exact hs.elim
   |len=>
    simp only[cOp]at hs;split at hs
    ·rename_i x t hx ht;have hx':args= #[x]:=by apply Array.ext';simpa using hx
     have ht':argTypes= #[t]:=by apply Array.ext';simpa using ht
     subst hx';subst ht'
     cases g1:Zg P t with
     |false=>
      rw[g1]at hs;exact T1 h hd (λcs b e=>by cases e) hs
     |true=>
      rw[g1]at hs;unfold Zg at g1;cases hu:P.underlying t with
      |none=>rw[hu]at g1;cases g1
      |some d=>
       rw[hu]at g1;cases d with
       |slice e=>
        have helem:P.elem t=e:=by simp[Program.elem,hu]
        have hrun:∀(A:Option Addr) (n c:Nat),a.eval x=.slice A n c->∀w,(execOp a.eval ⟨dst,.call ⟨.builtin .len, #[x], #[t]⟩,type,pos,after,guard⟩).run P w=.ok (.value (.int .i64 n)) w:=by
         intro A n c hv w;have:=run_len_slice (P:=P) w t type A n c (by rw[helem];exact hu);simp only[execOp,resolve,invoke,builtin,Sem.run_bind,Sem.run_pure,Result.andThen_ok,List.map_toArray,List.map_cons,List.map_nil,hv];rw[this];rfl
        simp only[Ax,Au]at hs;have hxr:=h.aM x;split at hs
        ·rename_i c b e' sz' m hq;rw[hq]at hxr;obtain⟨bb,cp,hb,hc,hv⟩:=A3m hxr;exact(C1 h hd _ _ w (Below.refl _ _) (hrun _ _ _ hv w) (.val _ rfl) (Hx rfl)).of_eq hs
        ·rename_i A n c hq;rw[hq]at hxr;exact(C1 h hd _ _ w (Below.refl _ _) (hrun _ _ _ hxr.val_eq w) (.val _ rfl) (Hx rfl)).of_eq hs
        ·cases hsv:(st.aM x).sv with
         |none=>rw[hsv]at hs;exact hs.elim
         |some s=>
          rw[hsv]at hs;obtain⟨A,c,hv,_,_⟩:=A7t hsv hxr;exact(C1 h hd _ _ w (Below.refl _ _) (hrun _ _ _ hv w) (.val _ rfl) (Hx rfl)).of_eq hs
       |_=>cases g1
    ·exact hs.elim
   |cap=>
    simp only[cOp]at hs;split at hs
    ·rename_i x t hx ht;have hx':args= #[x]:=by apply Array.ext';simpa using hx
     have ht':argTypes= #[t]:=by apply Array.ext';simpa using ht
     subst hx';subst ht'
     cases g1:Zg P t with
     |false=>rw[g1]at hs;exact hs.elim
     |true=>
      rw[g1]at hs;unfold Zg at g1;cases hu:P.underlying t with
      |none=>rw[hu]at g1;cases g1
      |some d=>
       rw[hu]at g1;cases d with
       |slice e=>
        have helem:P.elem t=e:=by simp[Program.elem,hu]
        simp only[Ax,Au]at hs;have hxr:=h.aM x;split at hs
        ·rename_i A n c hq;rw[hq]at hxr;refine(C1 h hd (.val (.int .i64 c)) (.int .i64 c) w (Below.refl _ _) ?_ (.val _ rfl) (Hx rfl)).of_eq hs;have:=run_cap_slice (P:=P) w t type A n c (by rw[helem];exact hu);simp only[execOp,resolve,invoke,builtin,Sem.run_bind,Sem.run_pure,Result.andThen_ok,List.map_toArray,List.map_cons,List.map_nil,hxr.val_eq];rw[this];rfl
        ·exact hs.elim
       |_=>cases g1
    ·exact hs.elim
   |append=>
    simp only[cOp]at hs;split at hs
    ·rename_i s x t t' hx ht;have hx':args= #[.tmp s,x]:=by apply Array.ext';simpa using hx
     have ht':argTypes= #[t,t']:=by apply Array.ext';simpa using ht
     subst hx';subst ht'
     cases g1:Nat.beq t t' with
     |false=>rw[g1]at hs;exact hs.elim
     |true=>
      have:=B1 g1;subst this;rw[g1]at hs;cases hu:P.underlying t with
      |none=>rw[hu]at hs;exact hs.elim
      |some d=>
       rw[hu]at hs;cases d with
       |slice e=>
        simp only at hs;cases hi:P.info? e with
        |none=>rw[hi]at hs;exact hs.elim
        |some i=>
         rw[hi]at hs;simp only at hs;cases hz:i.zero with
         |none=>rw[hz]at hs;exact hs.elim
         |some z=>
          rw[hz]at hs;simp only at hs;cases b1:Nat.beq z.cells.size i.size<;>cases b2:Nat.ble 1 i.size<;>simp only[b1,b2]at hs<;>try exact hs.elim
          have e1:=B1 b1;have e2:1<=i.size:=Nat.le_of_ble_eq_true b2;cases bv:Nat.testBit once 40009 with
          |true=>
           rw[bv]at hs;simp only[Ax,Au]at hs;cases dst with
           |none=>exact hs.elim
           |some d=>
            simp only at hs;split at hs
            ·rename_i b e' sz' m own q hnew hgs hgx;split at hs
             ·rename_i y hob;split at hs
              ·rename_i r c1 c2 hcat;obtain⟨hb,hm,hk⟩:=hs;exact(A48 h hd d s (st.base+d) rfl x t e i z rfl hu hi hz e1 e2 hnew hgs hgx hob (B1 c1) (B1 c2) hcat hb hm).of_eq hk
              ·exact hs.elim
             ·exact hs.elim
            ·exact hs.elim
          |false=>
          rw[bv]at hs;simp only at hs;cases b3:A57 once dst && !(inl (2199023255552+e)) with
          |true=>
           rw[b3]at hs;simp only[Ax,Au]at hs;cases dst with
           |none=>exact hs.elim
           |some d=>
            split at hs
            ·rename_i d' n hd' hn;injection hd' with hd'
             subst hd';split at hs
             ·rename_i hnew hbare;simp only[Bool.and_eq_true]at hbare;obtain⟨⟨g2,g3⟩,g4⟩:=hbare;split at hs
              ·rename_i own q hgx;split at hs
               ·rename_i c1 c2;cases hb0:Nat.beq q.len 0 with
                |true=>
                 rw[hb0]at hs;exact(Azw h hd d s rfl x t e i z rfl hu hi hz e1 e2 g2 hgx (B1 c2) (B1 hb0) hn (B1 g4)).of_eq hs
                |false=>
                 rw[hb0]at hs;obtain⟨hb,hm,hk⟩:=hs;exact(A1t h hd d s (st.base+d) rfl x t e i z rfl hu hi hz e1 e2 g2 hgx (B1 c2) hb hm (by
                  rcases Nat.eq_zero_or_pos q.len with h0|h0
                  ·rw[h0]at hb0;cases hb0
                  ·exact h0) _ hnew).of_eq hk
               ·exact hs.elim
              ·exact hs.elim
             ·exact hs.elim
            ·exact hs.elim
          |false=>
          rw[b3]at hs;simp only[Ax,Au]at hs;cases dst with
          |none=>exact hs.elim
          |some d=>
           simp only at hs;split at hs
           ·rename_i y own q hgs hgx;split at hs
            ·rename_i r c1 c2 hcat;obtain⟨hb,hm,hk⟩:=hs;exact(A78 h hd d s rfl x t e i.size i z rfl hu hi hz e1 rfl e2 hgs hgx hcat (B1 c1) (B1 c2) hb hm).of_eq hk
            ·exact hs.elim
           ·rename_i y hgs hgx;split at hs
            ·exact(Atm h hd d s rfl x t e i rfl hu hi hgs hgx).of_eq hs
            ·exact hs.elim
           ·rename_i own q hgs hgx;split at hs
            ·rename_i c1 c2;obtain⟨hb,hm,hk⟩:=hs;exact(Aw9 h hd d s rfl x t e i.size i z rfl hu hi hz e1 rfl e2 hgs hgx (B1 c1) (B1 c2) hb hm).of_eq hk
            ·exact hs.elim
           ·exact hs.elim
       |_=>exact hs.elim
    ·exact hs.elim
   |min=>exact T1 h hd (λcs b e=>by cases e) hs
   |max=>exact T1 h hd (λcs b e=>by cases e) hs
   |_=>exact hs.elim
 |_=>exact hs.elim
end
end Go.Proofs.YtgacplpjamkieaaGreat.Ev
