/-  Sums and means; the same lists; light lists. -/
import Derived.Test.YtckmlfboedljeaaDoorNJ
import Derived.Test.YtckmlfboedljeaaDoorG8
import Derived.Test.YtckmlfboedljeaaDoorR0
import Derived.Test.YtckmlfboedljeaaDoorQA
import Derived.Test.YtckmlfboedljeaaDoorG7
namespace Go.Proofs.YtckmlfboedljeaaDoor.Ev
open Go An
set_option maxRecDepth 100000
set_option linter.unusedVariables false
set_option linter.unusedSimpArgs false
set_option linter.unnecessarySimpa false
theorem Aup{n:Int}(h:okI .i64 n):Lz n:=by
 simp only [okI,Lit.wf,Bool.and_eq_true,decide_eq_true_eq] at h
 exact h
theorem Jg{a b:Aa}{m:Bool}(h:(Bt a b m).2=true):VF (Bt a b m).1=true:=by
 unfold Bt at h ⊢
 cases hc:(VF a && VF b)
 ·rw [hc] at h;cases h
 ·rw [hc,cond_true] at h;rw [cond_true]
  obtain ⟨h1,h2⟩:=Bool.and_eq_true_iff.1 hc
  have h1:=C3.1 h1
  have h2:=C3.1 h2
  exact Ac8 (Nat.mul_pos (by omega) (by omega)) h
def Di:List Aa→Aa→Aa×Bool
 | [],t=>(t,true)
 |x::k,t=>bif (Bt t x false).2 then Di k (Bt t x false).1 else (⟨0,0⟩,false)
theorem Ah3(L:Nat)(hL:Bc≤L)(a0:List Aa):∀(k:List Aa) (i:Nat) (v:Bool) (t:Aa),(∀x∈k,Ih x)→Ih t→
  (Hc L a0 k i v 0 0 t.N t.D).bind (Kz L)=some (Di k t):=by
 intro k
 induction k with
 |nil=>intro i v t _ _;rfl
 |cons x k ih=>
  intro i v t hk ht
  rw [Hc]
  rw [show (⟨t.N,t.D⟩:Aa)=t from rfl,Adb L t x hL ht (hk x (List.mem_cons_self ..)),Option.bind_some,Di]
  cases h:(Bt t x false).2
  ·rfl
  ·rw [Bool.not_true,cond_false,cond_true]
   exact ih _ _ _ (fun y hy=>hk y (List.mem_cons_of_mem _ hy)) (Gu (Jg h))
theorem Auo:Ih ⟨0,1⟩:=Gu Agi
theorem Ahs(L:Nat)(l:List Aa)(hL:Bc≤L)(hl:l.length≤maxLen)(h:∀x∈l,Ih x):Lc L l=some (Di l ⟨0,1⟩):=by
 have hn:l.length < L:=Nat.lt_of_lt_of_le (show l.length < 9223372036854775808 by have:=Az;omega) (Db hL (by decide))
 have e:=Ah3 L hL l l 0 false ⟨0,1⟩ h Auo
 simp only [Lc,m6,Kz,aN,aB]
 rw [u7 L l L hl hn]
 exact e
theorem Alk(L:Nat)(hL:Bc≤L)(a0:List Aa):∀(k:List Aa) (i:Nat) (v w:Bool) (t:Aa),(∀x∈k,Ih x)→Ih t→
  (Ie L a0 k i v w 0 0 t.N t.D).bind (Mn L)=some (Di k t):=by
 intro k
 induction k with
 |nil=>intro i v w t _ _;rfl
 |cons x k ih=>
  intro i v w t hk ht
  rw [Ie]
  rw [show (⟨t.N,t.D⟩:Aa)=t from rfl,Adg L t x hL ht (hk x (List.mem_cons_self ..)),Option.bind_some,Di]
  cases h:(Bt t x false).2
  ·rfl
  ·rw [Bool.not_true,cond_false,cond_true]
   exact ih _ _ _ _ (fun y hy=>hk y (List.mem_cons_of_mem _ hy)) (Gu (Jg h))
theorem Adj(L:Nat)(l:List Aa)(hL:Bc≤L)(hl:l.length≤maxLen)(h:∀x∈l,Ih x):M5 L l=some (Di l ⟨0,1⟩):=by
 have hn:l.length < L:=Nat.lt_of_lt_of_le (show l.length < 9223372036854775808 by have:=Az;omega) (Db hL (by decide))
 have e:=Alk L hL l l 0 false true ⟨0,1⟩ h Auo
 simp only [M5,Aas,Mn,aN,aB]
 rw [Aan L l L hl hn]
 exact e
theorem Ams:∀(k:List Aa) (t:Aa),VF t=true→(Di k t).2=true→VF (Di k t).1=true:=by
 intro k
 induction k with
 |nil=>intro t h _;exact h
 |cons x k ih=>
  intro t ht h
  rw [Di] at h ⊢
  cases h1:(Bt t x false).2
  ·rw [h1] at h;cases h
  ·rw [h1,cond_true] at h;rw [cond_true];exact ih _ (Jg h1) h
theorem Qn:∀(k:List Aa) (t:Aa),(Di k t).2=false→(Di k t).1=⟨0,0⟩:=by
 intro k
 induction k with
 |nil=>intro t h;cases h
 |cons x k ih=>
  intro t h
  rw [Di] at h ⊢
  cases h1:(Bt t x false).2
  ·rfl
  ·rw [h1,cond_true] at h;rw [cond_true];exact ih _ h
theorem Ar5:VF ⟨0,0⟩=false:=by decide
theorem Z5:Ih ⟨0,0⟩:=by unfold Ih Lz;decide
theorem R8(k:List Aa):Ih (Di k ⟨0,1⟩).1:=by
 cases h:(Di k ⟨0,1⟩).2
 ·rw [Qn _ _ h];exact Z5
 ·exact Gu (Ams _ _ Agi h)
def B7(l:List Aa):Aa×Bool:=S5 (Di l ⟨0,1⟩).1 ⟨(l.length:Int),1⟩
theorem S6{a b:Aa}(h:VF a=false∨b.N=0):S5 a b=(⟨0,0⟩,false):=by
 unfold S5
 rcases h with h|h
 ·rw [h];rfl
 ·rw [bne_eq_false_iff_eq.2 h,Bool.and_false];rfl
theorem Se{a b:Aa} :(S5 a b).2=true→VF (S5 a b).1=true:=by
 unfold S5
 cases hc:(VF a && VF b && (b.N != 0))
 ·intro h;cases h
 ·rw [cond_true]
  intro h
  obtain ⟨h1,h3⟩:=Bool.and_eq_true_iff.1 hc
  obtain ⟨h1,h2⟩:=Bool.and_eq_true_iff.1 h1
  have h1:=C3.1 h1
  have h3:=bne_iff_ne.1 h3
  exact Ac8 (Nat.mul_pos (by omega) (by omega)) h
theorem As2(L:Nat)(l:List Aa)(hL:Bc≤L)(hl:l.length≤maxLen)(h:∀x∈l,Ih x):Hn L l=some (B7 l):=by
 have hM:=Az
 simp only [Hn,Ql,Hn,aN,aB]
 unfold B7
 by_cases h0:(l.length:Int)=0
 ·rw [beq_iff_eq.2 h0,cond_true,S6 (.inr h0)]
 ·rw [beq_eq_false_iff_ne.2 h0,cond_false,Ahs L l hL hl h,Option.bind_some]
  cases hs:(Di l ⟨0,1⟩).2
  ·rw [Bool.not_false,cond_true,Qn _ _ hs,S6 (.inl Ar5)]
  ·rw [Bool.not_true,cond_false,Ahq L _ _ hL (R8 l) (by unfold Ih Lz;dsimp only;omega),Option.bind_some]
theorem Asx{n:Nat}(h:n≤4611686018427387904):ofF (n:Int) 1=(⟨(n:Int),1⟩,true):=by
 unfold ofF
 have e:=Ac9 (s:=sv (!(decide ((n:Int) < 0) == decide ((1:Int) < 0))) (n:Int).natAbs) (n:=n) (d:=1) (k:=1) (D:=(1:Int).natAbs) (by rw [z7,Nat.mul_one];rfl) rfl (Nat.gcd_one_right n) (by decide)
 rw [show ((1:Int) == 0)=false from rfl,cond_false,e]
 unfold lim
 rw [if_pos ⟨h,by decide⟩]
 have:decide (sv (!(decide ((n:Int) < 0) == decide ((1:Int) < 0))) (n:Int).natAbs < 0)=false:=by
  rw [show decide ((n:Int) < 0)=false from decide_eq_false (by omega)]
  exact decide_eq_false (by show¬((n:Int) < 0);omega)
 rw [this];rfl
theorem v9(L:Nat)(x:Ab)(hL:Bc≤L)(hl:x.Seen.length≤4611686018427387904)(h:∀y∈x.Seen,Ih y):Ew L x=some (B7 x.Seen):=by
 have hM:=Az
 simp only [Ew,V5,Ew,aN,aB]
 rw [Adj L x.Seen hL (by omega) h,Option.bind_some,Ahu L _ 1 hL (by unfold Lz;omega) (by unfold Lz;omega),Option.bind_some,Asx hl]
 rw [Adh L _ _ hL (R8 _) (by unfold Ih Lz;dsimp only;omega),Option.bind_some]
 unfold B7
 cases hs:(Di x.Seen ⟨0,1⟩).2
 ·rw [Qn _ _ hs,S6 (.inl Ar5)]
  rfl
 ·simp only [cond_true]
theorem Ah0(L:Nat)(l:List Aa):∀(k:List Aa) (i:Nat) (v:Bool),l.drop i=k→Ha L l l k i v=some (1,(v,((i+k.length:Nat):Int))):=by
 intro k
 induction k with
 |nil=>intro i v _;rfl
 |cons x k ih=>
  intro i v h
  obtain ⟨h1,h2,h3⟩:=Dy h
  rw [Ha,Gf (by omega),toN,h2]
  simp only [beq_self_eq_true,Bool.and_true,Bool.not_true,cond_false]
  rw [ih _ _ h3,List.length_cons,show i+1+k.length=i+(k.length+1) by omega]
theorem Afh(L:Nat)(l:List Aa)(hL:Bc≤L)(hl:l.length≤maxLen):La L l l=some true:=by
 have hn:l.length < L:=Nat.lt_of_lt_of_le (show l.length < 9223372036854775808 by have:=Az;omega) (Db hL (by decide))
 simp only [La,l7,Om,Ok,Om,aN,aB]
 rw [u4 L l l L hl hn,Ah0 L l l 0 false rfl,bne_self_eq_false',cond_false]
 rfl
theorem Ah2(L:Nat)(hL:Bc≤L)(l:List Ab)(hs:∀x∈l,x.Seen.length≤maxLen):∀(k:List Ab) (i:Nat) (v:Bool),l.drop i=k→Hb L l l k i v=some (1,(v,((i+k.length:Nat):Int))):=by
 intro k
 induction k with
 |nil=>intro i v _;rfl
 |cons x k ih=>
  intro i v h
  obtain ⟨h1,h2,h3⟩:=Dy h
  have hx:x∈l:=List.mem_of_mem_drop (h ▸ List.mem_cons_self .. :x∈l.drop i)
  rw [Hb,Gf (by omega),toN,h2,bne_self_eq_false',cond_false,Gf (by omega),bne_self_eq_false',cond_false,Gf (by omega),Afh L _ hL (hs x hx),Option.bind_some,Bool.not_true,cond_false]
  rw [ih _ _ h3,List.length_cons,show i+1+k.length=i+(k.length+1) by omega]
theorem Ade(L:Nat)(l:List Ab)(hL:Bc≤L)(hl:l.length≤maxLen)(hs:∀x∈l,x.Seen.length≤maxLen):M6 L l l=some true:=by
 have hn:l.length < L:=Nat.lt_of_lt_of_le (show l.length < 9223372036854775808 by have:=Az;omega) (Db hL (by decide))
 simp only [M6,m0,On,Ol,On,aN,aB]
 rw [u6 L l l L hl hn,Ah2 L hL l hs l 0 false rfl,bne_self_eq_false',cond_false]
 rfl
def Ahh(l:List Ab):Prop:=l.length≤30∧∀x∈l,x.Seen.length≤60
theorem Ahi(L:Nat)(l:List Ab):∀(n i:Nat) (v:Bool),i≤31→31 < n+i→(∀j,j < i→∀h:j < l.length,(l[j]).Seen.length≤60)→
  (∃o,Hs L l n v (i:Int)=some (0,(false,o)))∨(∃o,Hs L l n v (i:Int)=some (1,(v,o))∧(l.length≤30→Ahh l)):=by
 intro n
 induction n with
 |zero=>intro i v h1 h2;omega
 |succ n ih=>
  intro i v h1 h2 h3
  rw [Hs]
  simp only [Qu,aN,aB]
  by_cases c1:(i:Int) < (l.length:Int)
  ·by_cases c2:(i:Int) < 31
   ·rw [decide_eq_true c1,cond_true,decide_eq_true c2,cond_true,Gf (by omega),Gf (by omega),toN]
    have e:l.getD i default=l[i]'(by omega):=by rw [List.getD_eq_getElem?_getD,List.getElem?_eq_getElem (by omega)];rfl
    rw [e]
    by_cases c3:(((l[i]'(by omega)).Seen.length:Int)) > 60
    ·rw [decide_eq_true c3,cond_true];exact .inl ⟨_,rfl⟩
    ·rw [decide_eq_false c3,cond_false,show B1 ((i:Int)+1)=((i+1:Nat):Int) by rw [D4 (by unfold Lz;omega)];omega]
     exact ih (i+1) v (by omega) (by omega) (fun j hj h=>by
      by_cases hji:j=i
      ·subst hji;omega
      ·exact h3 j (by omega) h)
   ·rw [decide_eq_true c1,cond_true,decide_eq_false c2,cond_false]
    exact .inr ⟨_,rfl,fun h=>by omega⟩
  ·rw [decide_eq_false c1,cond_false,cond_false]
   refine .inr ⟨_,rfl,fun h=>⟨h,fun x hx=> ?_⟩⟩
   obtain ⟨j,hj,rfl⟩:=List.mem_iff_getElem.1 hx
   exact h3 j (by omega) hj
theorem Xz(L:Nat)(l:List Ab)(hL:Bc≤L):H1 L l=some false∨(H1 L l=some true∧Ahh l):=by
 have hn:31 < L+0:=Nat.lt_of_lt_of_le (by decide:31 < 32) (Db hL (by decide))
 simp only [H1,Zq,Mm,aN,aB]
 rcases Ahi L l L 0 false (by omega) hn (by intro j hj;omega) with ⟨o,e⟩|⟨o,e,h⟩
 ·left
  rw [show ((0:Int))=((0:Nat):Int) from rfl,e];rfl
 ·rw [show ((0:Int))=((0:Nat):Int) from rfl,e]
  by_cases c:(l.length:Int)≤30
  ·right
   refine ⟨?_,h (by omega)⟩
   show some (decide ((l.length:Int)≤30))=_
   rw [decide_eq_true c]
  ·left
   show some (decide ((l.length:Int)≤30))=_
   rw [decide_eq_false c]
end Go.Proofs.YtckmlfboedljeaaDoor.Ev
namespace Go.Proofs.YtckmlfboedljeaaDoor.Ev
open Go An
set_option maxRecDepth 100000
set_option linter.unusedVariables false
set_option linter.unusedSimpArgs false
set_option linter.unnecessarySimpa false
set_option linter.unusedSectionVars false
section
variable {α :Type} [Inhabited α]
def Ti(ks:List Int)(vs:List α)(x:Int):Option α :=(ks.findIdx? (fun b=>x == b)).map (fun j=>vs.getD j default)
theorem Asq(x:Int):Ti ([]:List Int) ([]:List α) x=none:=rfl
theorem Si(k:Int)(ks:List Int)(v: α)(vs:List α)(x:Int):Ti (k::ks) (v::vs) x=if x=k then some v else Ti ks vs x:=by
 unfold Ti
 rw [List.findIdx?_cons]
 by_cases h:x=k
 ·rw [if_pos h,beq_iff_eq.2 h];rfl
 ·rw [if_neg h,beq_eq_false_iff_ne.2 h]
  simp only [Bool.false_eq_true,if_false,Option.map_map]
  rfl
theorem Xq{ks:List Int}{vs:List α}{x:Int} :Ti ks vs x=none↔x∉ks:=by
 unfold Ti
 rw [Option.map_eq_none_iff,List.findIdx?_eq_none_iff]
 constructor
 ·intro h hx;have:=h x hx;rw [beq_self_eq_true] at this;cases this
 ·intro h y hy;rw [beq_eq_false_iff_ne];intro e;subst e;exact h hy
theorem Up{ks:List Int}{vs:List α}{x:Int}{m: α}(h:Ti ks vs x=some m):∃j,ks.findIdx? (fun b=>x == b)=some j∧vs.getD j default=m:=by
 unfold Ti at h
 cases hf:ks.findIdx? (fun b=>x == b) with
 |none=>rw [hf] at h;cases h
 |some j=>rw [hf] at h;exact ⟨j,rfl,Option.some.inj h⟩
theorem Ac4{ks:List Int}{vs:List α}{x:Int}(h:Ti ks vs x=none):ks.findIdx? (fun b=>x == b)=none:=by
 unfold Ti at h;exact Option.map_eq_none_iff.1 h
theorem Ajm:∀(ks:List Int) (vs:List α) (i:Int) (m: α) (x:Int),ks.length=vs.length→i∉ks→Ti (ks++ [i]) (vs++ [m]) x=if x=i then some m else Ti ks vs x:=by
 intro ks
 induction ks with
 |nil=>
  intro vs i m x hl _
  cases vs with
  |nil=>exact Si i [] m [] x
  |cons v vs=>cases hl
 |cons k ks ih=>
  intro vs i m x hl hi
  cases vs with
  |nil=>cases hl
  |cons v vs=>
   rw [List.cons_append,List.cons_append,Si,Si,ih vs i m x (by simpa using hl) (fun h=>hi (List.mem_cons_of_mem _ h))]
   by_cases h:x=k
   ·rw [if_pos h,if_pos h,if_neg]
    intro e;subst e;subst h;exact hi (List.mem_cons_self ..)
   ·rw [if_neg h,if_neg h]
theorem Asp:∀(ks:List Int) (vs:List α) (i:Int) (j:Nat),ks.length=vs.length→ks.Nodup→ks.findIdx? (fun b=>i == b)=some j→
  ∀x,Ti (ks.take j++ks.drop (j+1)) (vs.take j++vs.drop (j+1)) x=if x=i then none else Ti ks vs x:=by
 intro ks
 induction ks with
 |nil=>intro vs i j _ _ h;cases h
 |cons k ks ih=>
  intro vs i j hl hn h x
  cases vs with
  |nil=>cases hl
  |cons v vs=>
   rw [List.findIdx?_cons] at h
   have hn':=List.nodup_cons.1 hn
   by_cases hk:i=k
   ·rw [beq_iff_eq.2 hk] at h
    obtain rfl:=Option.some.inj h
    show Ti ks vs x=_
    rw [Si]
    by_cases hx:x=i
    ·rw [if_pos hx,Xq];rw [hx,hk];exact hn'.1
    ·rw [if_neg hx,if_neg (by rw [←hk];exact hx)]
   ·rw [beq_eq_false_iff_ne.2 hk] at h
    simp only [Bool.false_eq_true,if_false] at h
    cases hf:ks.findIdx? (fun b=>i == b) with
    |none=>rw [hf] at h;cases h
    |some j'=>
     rw [hf] at h
     obtain rfl:j'+1=j:=Option.some.inj h
     have e:=ih vs i j' (by simpa using hl) hn'.2 hf x
     show Ti (k::(ks.take j'++ks.drop (j'+1))) (v::(vs.take j'++vs.drop (j'+1))) x=_
     rw [Si,Si,e]
     by_cases hx:x=k
     ·rw [if_pos hx,if_pos hx,if_neg];intro e;exact hk (e.symm.trans hx)
     ·rw [if_neg hx,if_neg hx]
theorem Ak7{ks:List Int}{j:Nat}(h:ks.Nodup):(ks.take j++ks.drop (j+1)).Nodup:=by
 rw [←List.eraseIdx_eq_take_drop_succ];exact h.sublist (List.eraseIdx_sublist ..)
theorem Asn{ks:List Int}{vs:List α}{j:Nat}(h:ks.length=vs.length):(ks.take j++ks.drop (j+1)).length=(vs.take j++vs.drop (j+1)).length:=by
 simp only [List.length_append,List.length_take,List.length_drop];omega
def H0{β :Type}(l:List β)(f: β→Option α)(x:Int):Option α :=if 0≤x then (l[x.toNat]?).bind f else none
theorem Te{β :Type}{l:List β}{f: β→Option α}{i:Nat}{r: β}{k:List β}(h:l.drop i=r::k):H0 l f (i:Int)=f r:=by
 unfold H0
 rw [if_pos (by omega),Int.toNat_natCast]
 have:l[i]? =some r:=by
  have:=congrArg (fun l=>l[0]?) h
  simpa using this
 rw [this];rfl
theorem s9{β :Type}{l:List β}{f: β→Option α}{x:Int}(h:(l.length:Int)≤x):H0 l f x=none:=by
 unfold H0
 rw [if_pos (by omega),List.getElem?_eq_none (by omega)];rfl
theorem Xj{β :Type}{l:List β}{f: β→Option α}{x:Int}{m: α}(h:H0 l f x=some m):0≤x∧x < (l.length:Int):=by
 unfold H0 at h
 by_cases h0:0≤x
 ·rw [if_pos h0] at h
  cases he:l[x.toNat]? with
  |none=>rw [he] at h;cases h
  |some r=>have:=(List.getElem?_eq_some_iff.1 he).1;omega
 ·rw [if_neg h0] at h;cases h
theorem s8{β :Type}{l:List β}{f: β→Option α}{x:Int}{m: α}(h:H0 l f x=some m):∃r∈l,f r=some m:=by
 unfold H0 at h
 by_cases h0:0≤x
 ·rw [if_pos h0] at h
  cases he:l[x.toNat]? with
  |none=>rw [he] at h;cases h
  |some r=>rw [he] at h;exact ⟨r,List.mem_of_getElem? he,h⟩
 ·rw [if_neg h0] at h;cases h
structure Ve {β :Type} (l:List β) (f: β→Option α) (i:Nat) (ks:List Int) (vs:List α):Prop where
 len:ks.length=vs.length
 nd:ks.Nodup
 lk:∀x,Ti ks vs x=if x < (i:Int) then H0 l f x else none
theorem Ve.nil{β :Type}(l:List β)(f: β→Option α):Ve l f 0 [] []:=⟨rfl,List.nodup_nil,fun x=>by
 rw [Asq]
 by_cases h:x < ((0:Nat):Int)
 ·rw [if_pos h];unfold H0;rw [if_neg (by omega)]
 ·rw [if_neg h]⟩
theorem Ve.no{β :Type}{l:List β}{f: β→Option α}{i:Nat}{ks:List Int}{vs:List α}(h:Ve l f i ks vs){r: β}{k:List β}(hd:l.drop i=r::k)(hf:f r=none):Ve l f (i+1) ks vs:=⟨h.len,h.nd,fun x=>by
 rw [h.lk]
 by_cases h1:x < (i:Int)
 ·rw [if_pos h1,if_pos (by omega)]
 ·rw [if_neg h1]
  by_cases h2:x < ((i+1:Nat):Int)
  ·obtain rfl:x=(i:Int):=by omega
   rw [if_pos h2,Te hd,hf]
  ·rw [if_neg h2]⟩
theorem Ve.new{β :Type}{l:List β}{f: β→Option α}{i:Nat}{ks:List Int}{vs:List α}(h:Ve l f i ks vs):Ti ks vs (i:Int)=none:=by
 rw [h.lk,if_neg (by omega)]
theorem Ve.yes{β :Type}{l:List β}{f: β→Option α}{i:Nat}{ks:List Int}{vs:List α}(h:Ve l f i ks vs){r: β}{k:List β}{m: α}(hd:l.drop i=r::k)(hf:f r=some m):Ve l f (i+1) (ks++ [(i:Int)]) (vs++ [m]):=by
 have hn:(i:Int)∉ks:=Xq.1 h.new
 refine ⟨by rw [List.length_append,List.length_append,h.len];rfl,?_,fun x=> ?_⟩
 ·rw [List.nodup_append]
  refine ⟨h.nd,by simp,?_⟩
  intro a ha b hb
  rw [List.mem_singleton] at hb
  subst hb
  intro e;subst e;exact hn ha
 ·rw [Ajm _ _ _ _ _ h.len hn,h.lk]
  by_cases h0:x=(i:Int)
  ·subst h0;rw [if_pos rfl,if_pos (by omega),Te hd,hf]
  ·rw [if_neg h0]
   by_cases h1:x < (i:Int)
   ·rw [if_pos h1,if_pos (by omega)]
   ·rw [if_neg h1,if_neg (by omega)]
theorem Ve.done{β :Type}{l:List β}{f: β→Option α}{i:Nat}{ks:List Int}{vs:List α}(h:Ve l f i ks vs)(hd:l.drop i= [])(x:Int):Ti ks vs x=H0 l f x:=by
 rw [h.lk]
 have:=Uj hd
 by_cases h1:x < (i:Int)
 ·rw [if_pos h1]
 ·rw [if_neg h1,s9 (by omega)]
def Eb(M:Int→Option α)(lt: α→α→Bool):List Int→Option (Int×α)→Option (Int×α)
 | [],s=>s
 |x::k,s=>Eb M lt k (match M x with
  |none=>s
  |some a=>match s with
   |none=>some (x,a)
   |some (b,m)=>bif lt a m then some (x,a) else some (b,m))
theorem Th(M:Int→Option α)(lt: α→α→Bool):∀(k:List Int) (s:Option (Int×α)),(∀b m,s=some (b,m)→M b=some m)→∀b m,Eb M lt k s=some (b,m)→M b=some m:=by
 intro k
 induction k with
 |nil=>intro s h;exact h
 |cons x k ih=>
  intro s h
  rw [Eb]
  refine ih _ ?_
  intro b m
  cases hx:M x with
  |none=>exact h b m
  |some a=>
   cases s with
   |none=>intro e;cases e;exact hx
   |some p=>
    obtain ⟨b',m'⟩:=p
    dsimp only
    cases lt a m' with
    |true=>intro e;cases e;exact hx
    |false=>exact h b m
def upto(i n:Nat):List Int:=(List.range' i n).map Int.ofNat
theorem Zl(i:Nat):upto i 0= []:=rfl
theorem Sl(i n:Nat):upto i (n+1)=(i:Int)::upto (i+1) n:=by
 unfold upto;rw [List.range'_succ,List.map_cons];rfl
end
end Go.Proofs.YtckmlfboedljeaaDoor.Ev
namespace Go.Proofs.YtckmlfboedljeaaDoor.Ev
open Go An
set_option maxRecDepth 100000
set_option linter.unusedVariables false
set_option linter.unusedSimpArgs false
set_option linter.unnecessarySimpa false
def Sf(x:Ab):Option Aa:=bif (B7 x.Seen).2 then some (B7 x.Seen).1 else none
def Jh(x:Ab):Option Aa:=bif x.Out == 0 then Sf x else none
theorem Ank{x:Ab}{m:Aa}(h:Sf x=some m):VF m=true:=by
 unfold Sf at h
 cases h1:(B7 x.Seen).2
 ·rw [h1] at h;cases h
 ·rw [h1,cond_true] at h
  cases h
  exact Se h1
theorem Ang{x:Ab}{m:Aa}(h:Jh x=some m):VF m=true:=by
 unfold Jh at h
 cases h1:(x.Out == 0)
 ·rw [h1] at h;cases h
 ·rw [h1,cond_true] at h;exact Ank h
def okR(x:Ab):Prop:=x.Seen.length≤60∧∀y∈x.Seen,Ih y
theorem Apr(L:Nat)(hL:Bc≤L)(l:List Ab)(hl:∀x∈l,okR x):∀(k:List Ab) (i:Nat) (ks:List Int) (vs:List Aa),l.drop i=k→Ve l Sf i ks vs→
  ∃o ks' vs',Ch L l k i ks vs=some (0,(o,ks',vs'))∧ks'.length=vs'.length∧ks'.Nodup∧∀x,Ti ks' vs' x=H0 l Sf x:=by
 intro k
 induction k with
 |nil=>intro i ks vs hd hm;exact ⟨_,_,_,rfl,hm.len,hm.nd,hm.done hd⟩
 |cons x k ih=>
  intro i ks vs hd hm
  have hx:x∈l:=List.mem_of_mem_drop (hd ▸ List.mem_cons_self .. :x∈l.drop i)
  have hM:=Az
  obtain ⟨h1,h2⟩:=hl x hx
  rw [Ch,As2 L x.Seen hL (by omega) h2,Option.bind_some]
  have h3:=(Dy hd).2.2
  cases hf:(B7 x.Seen).2
  ·exact ih _ _ _ h3 (hm.no hd (by unfold Sf;rw [hf];rfl))
  ·rw [cond_true,Ac4 hm.new]
   exact ih _ _ _ h3 (hm.yes hd (by unfold Sf;rw [hf];rfl))
theorem Aps(L:Nat)(l:List Ab):∀(k:List Ab) (i:Nat) (ks:List Int) (vs:List Aa),l.drop i=k→ks.length=vs.length→ks.Nodup→
  (∀x,Ti ks vs x=if x < (i:Int) then H0 l Jh x else H0 l Sf x)→
  ∃o ks' vs',B6 L l k i ks vs=some (0,(o,ks',vs'))∧∀x,Ti ks' vs' x=H0 l Jh x:=by
 intro k
 induction k with
 |nil=>
  intro i ks vs hd hl hn hlk
  refine ⟨_,_,_,rfl,fun x=> ?_⟩
  rw [hlk]
  have:=Uj hd
  by_cases h1:x < (i:Int)
  ·rw [if_pos h1]
  ·rw [if_neg h1,s9 (by omega),s9 (by omega)]
 |cons r k ih=>
  intro i ks vs hd hl hn hlk
  have h3:=(Dy hd).2.2
  have same:∀(ks':List Int) (vs':List Aa),(∀x,Ti ks' vs' x=if x=(i:Int) then Jh r else Ti ks vs x)→∀x,Ti ks' vs' x=if x < ((i+1:Nat):Int) then H0 l Jh x else H0 l Sf x:=fun ks' vs' h x=>by
   rw [h,hlk]
   by_cases h0:x=(i:Int)
   ·subst h0;rw [if_pos rfl,if_pos (by omega),Te hd]
   ·rw [if_neg h0]
    by_cases h1:x < (i:Int)
    ·rw [if_pos h1,if_pos (by omega)]
    ·rw [if_neg h1,if_neg (by omega)]
  have here:Ti ks vs (i:Int)=Sf r:=by rw [hlk,if_neg (by omega),Te hd]
  rw [B6]
  by_cases ho:r.Out=0
  ·rw [bne_eq_false_iff_eq.2 ho,cond_false]
   refine ih _ _ _ h3 hl hn (same ks vs fun x=> ?_)
   by_cases h0:x=(i:Int)
   ·rw [if_pos h0,h0,here];unfold Jh;rw [beq_iff_eq.2 ho];rfl
   ·rw [if_neg h0]
  ·rw [bne_iff_ne.2 ho,cond_true]
   have hb:Jh r=none:=by unfold Jh;rw [beq_eq_false_iff_ne.2 ho];rfl
   cases hf:ks.findIdx? (fun b=>(i:Int) == b) with
   |none=>
    refine ih _ _ _ h3 hl hn (same ks vs fun x=> ?_)
    by_cases h0:x=(i:Int)
    ·rw [if_pos h0,h0,hb];unfold Ti;rw [hf];rfl
    ·rw [if_neg h0]
   |some j=>
    show∃o ks' vs',B6 L l k (i+1) ((ks.take j).drop 0++(ks.take ks.length).drop (j+1)) ((vs.take j).drop 0++(vs.take vs.length).drop (j+1))=_∧_
    rw [List.drop_zero,List.drop_zero,List.take_length,List.take_length]
    refine ih _ _ _ h3 (Asn hl) (Ak7 hn) (same _ _ fun x=> ?_)
    rw [Asp ks vs i j hl hn hf x,hb]
def ltF(a b:Aa):Bool:=decide (Sd a b < 0)
def StP{α :Type} [Inhabited α](ks:List Int)(vs:List α)(b:Int)(f:Bool):Option (Int×α)→Prop
 |none=>f=false
 |some (c,m)=>f=true∧b=c∧Ti ks vs b=some m
theorem Apt(L:Nat)(hL:Bc≤L)(r6:List Int)(o5:Nat×(Int×List Int×List Aa))(M:Int→Option Aa)(hM:∀x,Ti o5.2.2.1 o5.2.2.2 x=M x)(hok:∀x m,M x=some m→VF m=true):
  ∀(k:List Int) (i:Nat) (b:Int) (f:Bool) (s:Option (Int×Aa)),StP o5.2.2.1 o5.2.2.2 b f s→
  ∃b' f' i',Bj L r6 o5 k i b f=some (0,(b',f',i'))∧StP o5.2.2.1 o5.2.2.2 b' f' (Eb M ltF k s):=by
 intro k
 induction k with
 |nil=>intro i b f s h;exact ⟨_,_,_,rfl,h⟩
 |cons x k ih=>
  intro i b f s h
  rw [Bj,Eb]
  cases hx:M x with
  |none=>
   rw [Ac4 (by rw [hM,hx]:Ti o5.2.2.1 o5.2.2.2 x=none)]
   exact ih _ _ _ _ h
  |some a=>
   obtain ⟨j,hj,ha⟩:=Up (by rw [hM,hx]:Ti o5.2.2.1 o5.2.2.2 x=some a)
   rw [hj]
   dsimp only [fko]
   rw [ha]
   cases s with
   |none=>
    obtain rfl:f=false:=h
    rw [Bool.not_false,cond_true]
    exact ih _ _ _ _ ⟨rfl,rfl,by rw [hM,hx]⟩
   |some p=>
    obtain ⟨c,m⟩:=p
    obtain ⟨rfl,rfl,hm⟩:=h
    obtain ⟨j2,hj2,ha2⟩:=Up hm
    rw [Bool.not_true,cond_false,hj2]
    dsimp only [fko]
    rw [ha2,Ahp L a m hL (Gu (hok x a hx)) (Gu (hok _ m (by rw [←hM];exact hm))),Option.bind_some]
    show∃b' f' i',(bif ltF a m then _ else _)=_∧_
    cases ltF a m with
    |true=>exact ih _ _ _ _ ⟨rfl,rfl,by rw [hM,hx]⟩
    |false=>exact ih _ _ _ _ ⟨rfl,rfl,hm⟩
theorem Acz(L:Nat)(n:Nat)(hn:n≤1000000):∀(d i f:Nat) (v:List Int),i+d=n→v.length=i→d < f→
  C9 L (n:Int) f v (i:Int)=some (0,(v++upto i d,(n:Int))):=by
 intro d
 induction d with
 |zero=>
  intro i f v h1 h2 h3
  obtain ⟨f,rfl⟩:∃m,f=m+1:=⟨f - 1,by omega⟩
  rw [C9]
  simp only [Gl,aN,aB]
  rw [decide_eq_false (p:=(i:Int) < (n:Int)) (by omega),cond_false,Zl,List.append_nil,show i=n by omega]
 |succ d ih=>
  intro i f v h1 h2 h3
  obtain ⟨f,rfl⟩:∃m,f=m+1:=⟨f - 1,by omega⟩
  rw [C9]
  simp only [Gl,aN,aB]
  have hM:=Az
  rw [decide_eq_true (p:=(i:Int) < (n:Int)) (by omega),cond_true,Gf (by simp only [List.length_singleton];omega),Gf (by simp only [List.length_singleton];omega),
   show B1 ((i:Int)+1)=((i+1:Nat):Int) by rw [D4 (by unfold Lz;omega)];omega,
   ih (i+1) f _ (by omega) (by simp only [List.length_append,List.length_singleton];omega) (by omega),Sl,List.append_assoc];rfl
theorem Ws(L n:Nat)(hL:Bc≤L)(hn:n≤1000000):Cy L (n:Int)=some (upto 0 n):=by
 have hf:n < L:=Nat.lt_of_lt_of_le (show n < 1000001 by omega) (Db hL (by decide))
 have e:=Acz L n hn n 0 L [] (by omega) rfl hf
 simp only [Cy,Rh,Gp,aN,aB]
 rw [show (0:Int)=((0:Nat):Int) from rfl,e];rfl
theorem U1(i n:Nat):(upto i n).length=n:=by simp [upto]
def Axl(l:List Ab):Option (Int×Aa)→Int×Bool
 |none=>(0,false)
 |some (b,_)=>((l.getD b.toNat default).Point,true)
def n3(l:List Ab):Int×Bool:=Axl l (Eb (H0 l Jh) ltF (upto 0 l.length) none)
theorem Adc(L:Nat)(l:List Ab)(hL:Bc≤L)(hl:l.length≤1000000)(h:∀x∈l,okR x):Hm L l=some (n3 l):=by
 have hM:=Az
 have hn:l.length < L:=Nat.lt_of_lt_of_le (show l.length < 1000001 by omega) (Db hL (by decide))
 obtain ⟨o,ks,vs,e1,k1,k2,k3⟩:=Apr L hL l h l 0 [] [] rfl (Ve.nil l Sf)
 obtain ⟨o2,ks2,vs2,e2,k4⟩:=Aps L l l 0 ks vs rfl k1 k2 (fun x=>by
  rw [k3]
  by_cases h:x < ((0:Nat):Int)
  ·rw [if_pos h];unfold H0;rw [if_neg (by omega),if_neg (by omega)]
  ·rw [if_neg h])
 obtain ⟨b,f,i,e3,k5⟩:=Apt L hL (upto 0 l.length) (0,(o2,ks2,vs2)) (H0 l Jh) k4 (fun x m hx=>by
  obtain ⟨r,_,hr⟩:=s8 hx
  exact Ang hr) (upto 0 l.length) 0 0 false none rfl
 have el:(upto 0 l.length).length≤maxLen:=by rw [U1];omega
 simp only [Hm,Ub,Jm,Jo,Jn,Jp,Gn,Jm,Jo,Jn,Jp,Gn,aN,aB]
 rw [Wo L l L (by omega) hn,e1,Option.bind_some]
 dsimp only
 rw [Vl,Wp L l L (by omega) hn,e2,Option.bind_some]
 dsimp only
 rw [Vl,Ws L l.length hL hl,Option.bind_some,Wq L _ _ L el (by rw [U1];exact hn),e3,Option.bind_some,Vl]
 dsimp only
 unfold n3
 cases hs:Eb (H0 l Jh) ltF (upto 0 l.length) none with
 |none=>
  rw [hs] at k5
  obtain rfl:f=false:=k5
  rfl
 |some p=>
  obtain ⟨c,m⟩:=p
  rw [hs] at k5
  obtain ⟨rfl,rfl,hm⟩:=k5
  have hb:=Xj (Th (H0 l Jh) ltF _ none (fun _ _ h=>by cases h) _ _ hs)
  rw [Bool.not_true,cond_false,Gf hb.1,Gf hb.2];rfl
def StR(b n d:Int):Option (Int×Aa)→Prop
 |none=>b < 0
 |some (c,m)=>b=c∧0≤c∧n=m.N∧d=m.D∧VF m=true
theorem Ah1(L:Nat)(hL:Bc≤L)(l:List Ab)(hl:∀x∈l,okR x):∀(k:List Ab) (i:Nat) (b n d:Int) (s:Option (Int×Aa)),l.drop i=k→StR b n d s→
  ∃b' i' n' d',Es L l k i b n d=some (0,(b',i',n',d'))∧StR b' n' d' (Eb (H0 l Jh) ltF (upto i k.length) s):=by
 intro k
 induction k with
 |nil=>intro i b n d s _ h;exact ⟨_,_,_,_,rfl,h⟩
 |cons x k ih=>
  intro i b n d s hd h
  have hx:x∈l:=List.mem_of_mem_drop (hd ▸ List.mem_cons_self .. :x∈l.drop i)
  obtain ⟨h1,h2⟩:=hl x hx
  have h3:=(Dy hd).2.2
  rw [Es,List.length_cons,Sl,Eb,Te hd,v9 L x hL (by omega) h2,Option.bind_some]
  dsimp only
  unfold Jh
  by_cases ho:x.Out=0
  ·rw [beq_iff_eq.2 ho,cond_true,cond_true]
   unfold Sf
   cases hm:(B7 x.Seen).2
   ·exact ih _ _ _ _ _ h3 h
   ·simp only [cond_true]
    have hv:VF (B7 x.Seen).1=true:=Se hm
    cases s with
    |none=>
     have h:b < 0:=h
     rw [decide_eq_true h,cond_true,Option.bind_some,cond_true]
     exact ih _ _ _ _ _ h3 ⟨rfl,by omega,rfl,rfl,hv⟩
    |some p=>
     obtain ⟨c,m⟩:=p
     obtain ⟨rfl,hc,rfl,rfl,hvm⟩:=h
     rw [decide_eq_false (by omega:¬b < 0),cond_false,show (⟨m.N,m.D⟩:Aa)=m from rfl,j9 L _ _ hL (Gu hv) (Gu hvm),Option.bind_some,Option.bind_some]
     dsimp only
     cases hc2:ltF (B7 x.Seen).1 m with
     |true=>
      rw [show decide (Sd (B7 x.Seen).1 m < 0)=true from hc2,cond_true]
      exact ih _ _ _ _ (some ((i:Int),(B7 x.Seen).1)) h3 ⟨rfl,by omega,rfl,rfl,hv⟩
     |false=>
      rw [show decide (Sd (B7 x.Seen).1 m < 0)=false from hc2,cond_false]
      exact ih _ _ _ _ (some (b,m)) h3 ⟨rfl,hc,rfl,rfl,hvm⟩
  ·rw [beq_eq_false_iff_ne.2 ho,cond_false,cond_false]
   exact ih _ _ _ _ _ h3 h
theorem Apg(L:Nat)(l:List Ab)(hL:Bc≤L)(hl:l.length≤1000000)(h:∀x∈l,okR x):Sq L l=some (n3 l):=by
 have hM:=Az
 have hn:l.length < L:=Nat.lt_of_lt_of_le (show l.length < 1000001 by omega) (Db hL (by decide))
 obtain ⟨b,i,n,d,e1,k1⟩:=Ah1 L hL l h l 0 (-1) 0 0 none rfl (by show (-1:Int) < 0;decide)
 simp only [Sq,l9,Ky,Ky,aN,aB]
 rw [u5 L l L (by omega) hn,e1,Option.bind_some]
 dsimp only
 rw [Vl]
 unfold n3
 cases hs:Eb (H0 l Jh) ltF (upto 0 l.length) none with
 |none=>
  rw [hs] at k1
  have k1:b < 0:=k1
  rw [decide_eq_true k1];rfl
 |some p=>
  obtain ⟨c,m⟩:=p
  rw [hs] at k1
  obtain ⟨rfl,hc,_⟩:=k1
  have hb:=Xj (Th (H0 l Jh) ltF _ none (fun _ _ h=>by cases h) _ _ hs)
  rw [decide_eq_false (by omega:¬b < 0),cond_false,Gf hb.1,Gf hb.2];rfl
end Go.Proofs.YtckmlfboedljeaaDoor.Ev
namespace Go.Proofs.YtckmlfboedljeaaDoor.Ev
open Go An
set_option maxRecDepth 100000
set_option linter.unusedVariables false
set_option linter.unusedSimpArgs false
set_option linter.unnecessarySimpa false
def Ai2(l:List Ab)(x:Aa)(i:Nat):List Ab×Int:=
 bif (l.getD i default).Out != 0 then ([],15) else bif decide (((l.getD i default).Seen.length:Int)≥50) then ([],13) else bif !VF x then ([],2)
 else (l.set i ⟨(l.getD i default).Point,(l.getD i default).Seen++ [x],(l.getD i default).Out⟩,0)
def Aee(l:List Ab)(x:Aa):Option Nat→List Ab×Int
 |none=>([],5)
 |some i=>Ai2 l x i
theorem Aze(L:Nat)(l:List Ab)(p:Int)(x:Aa):∀(k:List Ab) (i:Nat) (v:Int),D2 L l p x k i v=some (match k.findIdx? (fun r=>r.Point == p) with|some j=>(0,(((i+j:Nat):Int),((i+j:Nat):Int)))|none=>(1,(v,((i+k.length:Nat):Int)))):=by
 intro k
 induction k with
 |nil=>intro i v;rfl
 |cons r k ih=>
  intro i v
  rw [D2,ih,List.findIdx?_cons]
  cases hc:(r.Point == p) with
  |true=>simp only [cond_true,if_true];rfl
  |false=>
   simp only [cond_false,if_false,Bool.false_eq_true]
   cases k.findIdx? (fun r=>r.Point == p) with
   |some j=>simp [Nat.add_assoc,Nat.add_comm 1]
   |none=>simp [Nat.add_assoc,Nat.add_comm 1]
theorem w3(L:Nat)(l:List Ab)(p:Int)(x:Aa)(hL:Bc≤L)(hl:l.length≤1000000)(h:∀x∈l,okR x)(hx:Ih x):
  N9 L l p x=some (Aee l x (l.findIdx? (fun r=>r.Point == p))):=by
 have hM:=Az
 have hn:l.length < L:=Nat.lt_of_lt_of_le (show l.length < 1000001 by omega) (Db hL (by decide))
 simp only [N9,Vo,Hw,N4,Sg,Hv,Hv,Hw,aN,aB]
 rw [Xt L l p x L (by omega) hn,Aze,Option.bind_some]
 cases hf:l.findIdx? (fun r=>r.Point == p) with
 |none=>rfl
 |some i=>
  have hi:i < l.length:=(List.findIdx?_eq_some_iff_getElem.1 hf).1
  dsimp only
  rw [Vl,Option.bind_some,Nat.zero_add,decide_eq_false (by omega:¬((i:Int) < 0)),cond_false]
  have hb:Nat.beq l.length 0=false:=by
   cases l with
   |nil=>cases hi
   |cons _ _=>rfl
  have hmem:l.getD i default∈l:=by rw [List.getD_eq_getElem?_getD,List.getElem?_eq_getElem hi];exact List.getElem_mem hi
  obtain ⟨s1,s2⟩:=h _ hmem
  simp only [toN]
  unfold Aee Ai2
  dsimp only
  obtain ⟨r,er⟩:∃r,l.getD i default=r:=⟨_,rfl⟩
  rw [er] at s1 ⊢
  rw [Gf (by omega),Gf (by omega)]
  cases (r.Out != 0)
  ·rw [cond_false,cond_false]
   rw [Gf (by omega),Gf (by omega)]
   cases decide (((r.Seen.length:Nat):Int)≥50)
   ·rw [cond_false,cond_false,Mk L x hL hx,Option.bind_some]
    cases VF x
    ·rfl
    ·rw [Bool.not_true,cond_false,cond_false,hb,cond_false,Gf (by omega),cond_false,Gf (by omega),Gf (by omega),Gf (by omega),Gf (by omega)]
     cases hs:Nat.beq r.Seen.length 0
     ·have:r.Seen.length≠0:=fun e=>by rw [e] at hs;cases hs
      rw [cond_false,Gf (by omega),Gf (by omega),Gf (by omega),Gf (by simp only [List.length_singleton];omega),Gf (by simp only [List.length_singleton];omega),Gf (by omega),Gf (by omega)]
     ·have e:r.Seen= []:=by
       cases hq:r.Seen with
       |nil=>rfl
       |cons _ _=>rw [hq] at hs;cases hs
      rw [cond_true,Gf (by simp only [List.length_singleton];omega),Gf (by simp only [List.length_singleton];omega),Gf (by omega),Gf (by omega),e];rfl
   ·rfl
  ·rfl
theorem Awx(L:Nat)(hL:Bc≤L)(l:List Ab)(p:Int)(x:Aa)(hl:l.length≤1000000)(h:∀x∈l,okR x)(hx:Ih x):∀(k:List Ab) (i:Nat),l.drop i=k→
  (Ig L l p x k i [] 0).bind (Mo L)=some (Aee l x ((k.findIdx? (fun r=>r.Point == p)).map (· +i))):=by
 intro k
 induction k with
 |nil=>intro i _;rfl
 |cons r k ih=>
  intro i hd
  have hM:=Az
  obtain ⟨hi,er,h3⟩:=Dy hd
  have hb:Nat.beq l.length 0=false:=by
   cases l with
   |nil=>cases hi
   |cons _ _=>rfl
  have hmem:r∈l:=List.mem_of_mem_drop (hd ▸ List.mem_cons_self .. :r∈l.drop i)
  obtain ⟨s1,s2⟩:=h _ hmem
  rw [Ig,List.findIdx?_cons]
  by_cases hp:r.Point=p
  ·rw [bne_eq_false_iff_eq.2 hp,cond_false,beq_iff_eq.2 hp,if_pos rfl]
   simp only [Option.map_some,Nat.zero_add,Aee]
   unfold Ai2
   rw [er]
   cases (r.Out != 0)
   ·rw [cond_false,cond_false]
    cases decide (((r.Seen.length:Nat):Int)≥50)
    ·rw [cond_false,cond_false,Kg L x hL hx,Option.bind_some]
     cases VF x
     ·rfl
     ·rw [Bool.not_true,cond_false,cond_false,hb,cond_false,Gf (by omega),Gf (by omega),Gf (by omega),Gf (by omega),Gf (by simp only [List.length_singleton];omega),Gf (by simp only [List.length_singleton];omega),toN];rfl
    ·rfl
   ·rfl
  ·rw [bne_iff_ne.2 hp,cond_true,beq_eq_false_iff_ne.2 hp,ih _ h3]
   simp only [Bool.false_eq_true,if_false,Option.map_map]
   congr 3
   funext j
   show j+(i+1)=(j+1)+i
   omega
theorem Ala(L:Nat)(l:List Ab)(p:Int)(x:Aa)(hL:Bc≤L)(hl:l.length≤1000000)(h:∀x∈l,okR x)(hx:Ih x):
  U3 L l p x=some (Aee l x (l.findIdx? (fun r=>r.Point == p))):=by
 have hM:=Az
 have hn:l.length < L:=Nat.lt_of_lt_of_le (show l.length < 1000001 by omega) (Db hL (by decide))
 simp only [U3,Aat,Mo,aN,aB]
 rw [Aao L l p x L (by omega) hn]
 have e:=Awx L hL l p x hl h hx l 0 rfl
 rw [show (fun(j:Nat)=>j+0)=id from rfl,Option.map_id] at e
 exact e
theorem Amr{l:List Ab}{x:Aa}{o:Option Nat}(hl:l.length≤1000000)(h:∀x∈l,okR x):(Aee l x o).1.length≤maxLen∧∀y∈(Aee l x o).1,y.Seen.length≤maxLen:=by
 have hM:=Az
 have h0:(([]:List Ab)).length≤maxLen∧∀y∈([]:List Ab),y.Seen.length≤maxLen:=⟨by rw [hM];decide,fun y hy=>by cases hy⟩
 cases o with
 |none=>exact h0
 |some i=>
  unfold Aee Ai2
  dsimp only
  cases (l.getD i default).Out != 0
  ·rw [cond_false]
   cases hd:decide ((((l.getD i default).Seen.length:Nat):Int)≥50)
   ·rw [cond_false]
    cases VF x
    ·exact h0
    ·rw [Bool.not_true,cond_false]
     refine ⟨by dsimp only;rw [List.length_set];omega,fun y hy=> ?_⟩
     rcases List.mem_or_eq_of_mem_set hy with hy|rfl
     ·have:=(h y hy).1;omega
     ·have:=of_decide_eq_false hd
      simp only [List.length_append,List.length_singleton];omega
   ·exact h0
  ·exact h0
def rk(i:Int):Ab:=⟨i,[],0⟩
def Ahn(n:Int):List Ab×Int:=bif decide (n < 1) || decide (n > 200) then ([],2) else ((upto 0 n.toNat).map rk,0)
theorem Ao8(L:Nat)(a:Int)(ha:a≤1000):∀(d i f:Nat) (v:List Ab),i+d=a.toNat→v.length=i→d < f→
  C8 L a f (i:Int) (v++List.replicate d (⟨0,[],0⟩:Ab))=some (0,((a.toNat:Int),v++(upto i d).map rk)):=by
 intro d
 induction d with
 |zero=>
  intro i f v h1 h2 h3
  obtain ⟨f,rfl⟩:∃m,f=m+1:=⟨f - 1,by omega⟩
  rw [C8]
  simp only [Ke,aN,aB]
  rw [decide_eq_false (p:=(i:Int) < (a.toNat:Int)) (by omega),cond_false,show i=a.toNat by omega];rfl
 |succ d ih=>
  intro i f v h1 h2 h3
  obtain ⟨f,rfl⟩:∃m,f=m+1:=⟨f - 1,by omega⟩
  rw [C8]
  simp only [Ke,aN,aB]
  rw [decide_eq_true (p:=(i:Int) < (a.toNat:Int)) (by omega),cond_true,Gf (by omega),Gf (by omega),toN,
   show B1 ((i:Int)+1)=((i+1:Nat):Int) by rw [D4 (by unfold Lz;omega)];omega]
  have e:(v++List.replicate (d+1) (⟨0,[],0⟩:Ab)).getD i default=⟨0,[],0⟩:=by
   rw [List.getD_eq_getElem?_getD,List.getElem?_append_right (by omega),h2,Nat.sub_self];rfl
  have e2:(v++List.replicate (d+1) (⟨0,[],0⟩:Ab)).set i (rk i)=(v++ [rk i])++List.replicate d (⟨0,[],0⟩:Ab):=by
   rw [List.set_append_right _ _ (by omega),h2,Nat.sub_self,List.append_assoc];rfl
  rw [e]
  show C8 L a f ((i+1:Nat):Int) ((v++List.replicate (d+1) (⟨0,[],0⟩:Ab)).set i (rk i))=_
  rw [e2,ih (i+1) f (v++ [rk i]) (by omega) (by simp only [List.length_append,List.length_singleton];omega) (by omega),Sl,List.map_cons,List.append_assoc];rfl
theorem Awq(L:Nat)(a:Int)(hL:Bc≤L):Oa L a=some (Ahn a):=by
 have hf:1001≤L:=Db hL (by decide)
 simp only [Oa,Vp,Ki,Hx,Ki,Hx,aN,aB]
 unfold Ahn
 by_cases h1:a < 1
 ·rw [decide_eq_true h1];rfl
 by_cases h2:a > 200
 ·rw [decide_eq_false h1,decide_eq_true h2];rfl
 rw [decide_eq_false h1,decide_eq_false h2,cond_false,cond_false,Bool.or_false,cond_false,Gf (by omega),Gf (by omega),Gf (by omega)]
 have e:=Ao8 L a (by omega) a.toNat 0 L [] (by omega) rfl (by omega)
 rw [List.nil_append] at e
 rw [show (0:Int)=((0:Nat):Int) from rfl] at e ⊢
 have e':C8 L a L ((0:Nat):Int) (List.replicate a.toNat (⟨((0:Nat):Int),[],((0:Nat):Int)⟩:Ab))=_:=e
 rw [e'];rfl
theorem Alp(L:Nat)(a:Int)(ha:a≤1000):∀(d i f:Nat) (v:List Ab),i+d=a.toNat→0≤a→v.length=i→d < f→
  Ic L a f v (i:Int)=some (0,(v++(upto i d).map rk,a)):=by
 intro d
 induction d with
 |zero=>
  intro i f v h1 h0 h2 h3
  obtain ⟨f,rfl⟩:∃m,f=m+1:=⟨f - 1,by omega⟩
  rw [Ic]
  simp only [Pz,aN,aB]
  rw [decide_eq_false (p:=(i:Int) < a) (by omega),cond_false,show (i:Int)=a by omega,Zl,List.map_nil,List.append_nil]
 |succ d ih=>
  intro i f v h1 h0 h2 h3
  obtain ⟨f,rfl⟩:∃m,f=m+1:=⟨f - 1,by omega⟩
  rw [Ic]
  simp only [Pz,aN,aB]
  have hM:=Az
  rw [decide_eq_true (p:=(i:Int) < a) (by omega),cond_true,Gf (by simp only [List.length_singleton];omega),Gf (by simp only [List.length_singleton];omega),
   show B1 ((i:Int)+1)=((i+1:Nat):Int) by rw [D4 (by unfold Lz;omega)];omega,
   ih (i+1) f _ (by omega) h0 (by simp only [List.length_append,List.length_singleton];omega) (by omega),Sl,List.map_cons,List.append_assoc];rfl
theorem As7(L:Nat)(a:Int)(hL:Bc≤L):U4 L a=some (Ahn a):=by
 have hf:1001≤L:=Db hL (by decide)
 simp only [U4,Aau,P4,Mp,P4,Mp,aN,aB]
 unfold Ahn
 by_cases h1:a < 1
 ·rw [decide_eq_true h1];rfl
 by_cases h2:a > 200
 ·rw [decide_eq_false h1,decide_eq_true h2];rfl
 rw [decide_eq_false h1,decide_eq_false h2,cond_false,cond_false,Bool.or_false,cond_false]
 have e:=Alp L a (by omega) a.toNat 0 L [] (by omega) (by omega) rfl (by omega)
 rw [List.nil_append] at e
 have e':Ic L a L [] 0=_:=e
 rw [e'];rfl
theorem Ao7(n:Int):(Ahn n).1.length≤maxLen∧∀y∈(Ahn n).1,y.Seen.length≤maxLen:=by
 have hM:=Az
 have h0:(([]:List Ab)).length≤maxLen∧∀y∈([]:List Ab),y.Seen.length≤maxLen:=⟨by rw [hM];decide,fun y hy=>by cases hy⟩
 unfold Ahn
 by_cases h1:n < 1
 ·rw [decide_eq_true h1];exact h0
 by_cases h2:n > 200
 ·rw [decide_eq_false h1,decide_eq_true h2];exact h0
 rw [decide_eq_false h1,decide_eq_false h2,Bool.or_false,cond_false]
 refine ⟨by dsimp only;rw [List.length_map,U1];omega,fun y hy=> ?_⟩
 obtain ⟨i,_,rfl⟩:=List.mem_map.1 hy
 show ([]:List Aa).length≤maxLen
 rw [hM];decide
theorem Amm{x:Aa}(h:Oq x):Ih x:=⟨Aup h.1,Aup h.2⟩
theorem Xp{l:List Ab}(h:∀x∈l,J0 x)(hl:Ahh l):∀x∈l,okR x:=fun x hx=>⟨hl.2 x hx,fun y hy=>Amm ((h x hx).2.1.2 y hy)⟩
theorem f8(l:List Ab)(p:Int)(x:Aa)(h0:l.length≤maxLen∧∀y∈l,J0 y)(h1:okI .i64 p)(h2:Oq x):∃L,L2 L l p x=some true:=by
 refine ⟨Bc,?_⟩
 have hL:Bc≤Bc:=Nat.le_refl _
 have aw:Bs Bc=some true:=rfl
 simp only [L2,L7,aN,aB]
 rcases Xz Bc l hL with e|⟨e,hl⟩
 ·rw [e,Option.bind_some,Bool.not_false,cond_true,aw];rfl
 ·have hr:=Xp h0.2 hl
  have hle:l.length≤1000000:=by have:=hl.1;omega
  have hx:=Amm h2
  have a1:=Amr (x:=x) (o:=l.findIdx? (fun r=>r.Point == p)) hle hr
  have a2:=Ao7 p
  rw [e,Option.bind_some,Bool.not_true,cond_false,w3 _ l p x hL hle hr hx,Option.bind_some,Ala _ l p x hL hle hr hx,Option.bind_some,
   Adc _ l hL hle hr,Option.bind_some,Apg _ l hL hle hr,Option.bind_some,Awq _ p hL,Option.bind_some,As7 _ p hL,Option.bind_some,
   Ade _ _ hL a1.1 a1.2,Option.bind_some,Ade _ _ hL a2.1 a2.2,aw]
  simp only [beq_self_eq_true,cond_true,Option.bind_some]
end Go.Proofs.YtckmlfboedljeaaDoor.Ev
