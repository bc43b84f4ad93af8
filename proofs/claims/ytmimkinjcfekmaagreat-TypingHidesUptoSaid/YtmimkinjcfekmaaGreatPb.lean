/-  Chapter 7, plainly: names. -/
import Derived.Test.YtmimkinjcfekmaaGreatQ1
namespace Go.Proofs.YtmimkinjcfekmaaGreat.Ev
open Go An
set_option maxRecDepth 100000
set_option linter.unusedVariables false
set_option linter.unusedSimpArgs false
set_option linter.unnecessarySimpa false
def Vb(z:Int):Bool:=decide (97≤z) && decide (z≤122)
def okZ(z:Int):Bool:=Vb z || z == 95 || (decide (48≤z) && decide (z≤57))
def Tu(a:ByteArray)(i:Nat):Int:=C9 a[i]?
def Kl(a:ByteArray):Nat→Nat→Bool
 |_,0=>true
 |i,m+1=>okZ (Tu a i) && Kl a (i+1) m
def kws:List ByteArray:= [(⟨#[97,100,100]⟩:ByteArray),(⟨#[97,102,116,101,114]⟩:ByteArray),(⟨#[97,110,100]⟩:ByteArray),(⟨#[97,116]⟩:ByteArray),(⟨#[98,101,108,116]⟩:ByteArray),(⟨#[98,111,111,108]⟩:ByteArray),(⟨#[99,111,110,115,101,114,118,101]⟩:ByteArray),(⟨#[99,111,110,115,116]⟩:ByteArray),(⟨#[99,111,117,110,116]⟩:ByteArray),(⟨#[99,121,99,108,101]⟩:ByteArray),(⟨#[100,111,119,110]⟩:ByteArray),(⟨#[100,114,97,119]⟩:ByteArray),(⟨#[100,117,114]⟩:ByteArray),(⟨#[101,108,115,101]⟩:ByteArray),(⟨#[101,110,100]⟩:ByteArray),(⟨#[101,118,101,114,121]⟩:ByteArray),(⟨#[102,97,108,115,101]⟩:ByteArray),(⟨#[102,97,117,108,116]⟩:ByteArray),(⟨#[102,105,102,111]⟩:ByteArray),(⟨#[102,114,101,101]⟩:ByteArray),(⟨#[102,114,111,109]⟩:ByteArray),(⟨#[103,101,111,109]⟩:ByteArray),(⟨#[103,101,116]⟩:ByteArray),(⟨#[104,111,108,100]⟩:ByteArray),(⟨#[105,102]⟩:ByteArray),(⟨#[105,110,116]⟩:ByteArray),(⟨#[105,110,116,111]⟩:ByteArray),(⟨#[108,101,97,115,116]⟩:ByteArray),(⟨#[108,101,118,101,108]⟩:ByteArray),(⟨#[108,105,102,111]⟩:ByteArray),(⟨#[108,105,110,107]⟩:ByteArray),(⟨#[108,111,99,97,108]⟩:ByteArray),(⟨#[109,97,120]⟩:ByteArray),(⟨#[109,105,110]⟩:ByteArray),(⟨#[109,111,100,101,108]⟩:ByteArray),(⟨#[110,111,116]⟩:ByteArray),(⟨#[110,111,119]⟩:ByteArray),(⟨#[111,98,115,101,114,118,101]⟩:ByteArray),(⟨#[111,114]⟩:ByteArray),(⟨#[112,97,114,97,109]⟩:ByteArray),(⟨#[112,114,101,101,109,112,116]⟩:ByteArray),(⟨#[112,114,105,111]⟩:ByteArray),(⟨#[112,117,116]⟩:ByteArray),(⟨#[113,117,101,117,101]⟩:ByteArray),(⟨#[114,101,108,101,97,115,101]⟩:ByteArray),(⟨#[114,101,115,111,117,114,99,101]⟩:ByteArray),(⟨#[114,105,100,101]⟩:ByteArray),(⟨#[114,111,117,116,105,110,101]⟩:ByteArray),(⟨#[115,101,105,122,101]⟩:ByteArray),(⟨#[115,101,110,100]⟩:ByteArray),(⟨#[115,101,116]⟩:ByteArray),(⟨#[115,104,105,102,116]⟩:ByteArray),(⟨#[115,105,103,110,97,108]⟩:ByteArray),(⟨#[115,105,116,101]⟩:ByteArray),(⟨#[115,105,122,101]⟩:ByteArray),(⟨#[115,112,97,119,110]⟩:ByteArray),(⟨#[115,116,97,114,116]⟩:ByteArray),(⟨#[115,116,111,112]⟩:ByteArray),(⟨#[115,116,111,114,101]⟩:ByteArray),(⟨#[115,116,114,101,97,109]⟩:ByteArray),(⟨#[115,117,109]⟩:ByteArray),(⟨#[116,97,98,108,101]⟩:ByteArray),(⟨#[116,97,108,108,121]⟩:ByteArray),(⟨#[116,105,99,107,115]⟩:ByteArray),(⟨#[116,105,109,101]⟩:ByteArray),(⟨#[116,114,117,101]⟩:ByteArray),(⟨#[117,110,105,102,111,114,109]⟩:ByteArray),(⟨#[117,110,116,105,108]⟩:ByteArray),(⟨#[117,112]⟩:ByteArray),(⟨#[118,97,114]⟩:ByteArray),(⟨#[119,97,105,116]⟩:ByteArray),(⟨#[119,97,105,116,105,110,103]⟩:ByteArray),(⟨#[119,104,105,108,101]⟩:ByteArray)]
def Qg(s:ByteArray):Bool:=kws.any fun w=>decide (s=w)
def Ug(s:ByteArray):Bool:=decide (1≤s.size) && decide (s.size≤24) && Vb (Tu s 0) && !Qg s && Kl s 0 s.size
def Y7(s:ByteArray):Int:=bif Ug s then 0 else 3
theorem Js(L:Nat)(z:Int):Ey L z=some (Vb z):=by
 simp only [Kc,Ey,aN,aB,Vb,Jo]
theorem Afm{c b:Bool}{X:Option Bool}(h:X=some b):(bif c then (bif c then some true else some false) else X)=some (c || b):=by cases c<;>simp [h]
theorem Ag4{c b:Bool}{X:Option Bool}(h:X=some b):(bif c then some true else X)=some (c || b):=by cases c<;>simp [h]
set_option maxRecDepth 10000 in
theorem Ru(L:Nat)(s:ByteArray):G7 L s=some (Qg s):=by
 simp only [Jm,G7,aN,aB,Hl,Qg,kws,List.any_cons,List.any_nil]
 repeat (first|exact Afm rfl|refine Afm ?_|refine Ag4 ?_)
 rfl
theorem Aio(L:Nat)(a:ByteArray)(hs:a.size≤maxLen):∀(m i n:Nat) (v:Int),i+m=a.size→m < n→
  ∃j,Ce L a n v i=some (bif Kl a i m then (1,(v,j)) else (0,(3,j))):=by
 intro m
 induction m with
 |zero=>
  intro i n v hi hn
  obtain ⟨n,rfl⟩:∃k,n=k+1:=⟨n - 1,by omega⟩
  exact ⟨i,by simp only [Ce,Dx,aN,aB,Kl,P8 (show a.size≤i by omega),cond_true,cond_false]⟩
 |succ m ih=>
  intro i n v hi hn
  obtain ⟨n,rfl⟩:∃k,n=k+1:=⟨n - 1,by omega⟩
  have hlt:i < a.size:=by omega
  obtain ⟨j,hj⟩:=ih (i+1) n v (by omega) (by omega)
  have hb:=Aid hlt
  cases hc:okZ (Tu a i) with
  |true=>
   refine ⟨j,?_⟩
   have e:Kl a i (m+1)=Kl a (i+1) m:=by simp only [Kl,hc,Bool.true_and]
   simp only [Ce,Dx,aN,aB,O0 hlt,nn,toN,if_true,hb,cond_true,Js,Option.bind_some,De hlt hs,hj,e,Jo,Ol]
   rw [show ((!Vb (C9 a[i]?) && (decide (C9 a[i]? < 48) || decide (C9 a[i]? > 57))) && C9 a[i]? != 95)=false from ?_]
   ·rfl
   ·revert hc;unfold okZ Tu
    generalize C9 a[i]? =z
    cases Vb z<;>simp<;>omega
  |false=>
   refine ⟨i,?_⟩
   have e:Kl a i (m+1)=false:=by simp only [Kl,hc,Bool.false_and]
   simp only [Ce,Dx,aN,aB,O0 hlt,nn,toN,if_true,hb,cond_true,Js,Option.bind_some,De hlt hs,hj,e,Jo,Ol]
   rw [show ((!Vb (C9 a[i]?) && (decide (C9 a[i]? < 48) || decide (C9 a[i]? > 57))) && C9 a[i]? != 95)=true from ?_]
   ·rfl
   ·revert hc;unfold okZ Tu
    generalize C9 a[i]? =z
    cases Vb z<;>simp<;>omega
theorem Uj(L:Nat)(s:ByteArray)(hs:Rs s)(hL:s.size < L):Gx L s=some (Y7 s):=by
 obtain ⟨j,hj⟩:=Aio L s hs s.size 0 L 0 (by omega) hL
 have e0:decide ((s.size:Int) > 24)= !decide (s.size≤24):=by
  by_cases h:s.size≤24
  ·rw [decide_eq_false (by omega),decide_eq_true h];rfl
  ·rw [decide_eq_true (by omega),decide_eq_false h];rfl
 simp only [Oh,Gp,Dy,Gx,Gp,Dy,aN,aB,Hl,Afa,Js,Ru,Option.bind_some,Ii,Ol,e0]
 by_cases h0:s.size=0
 ·have:Ug s=false:=by unfold Ug;rw [decide_eq_false (show¬1≤s.size by omega)];rfl
  simp [h0,Y7,this]
 ·have hb:=Aid (show 0 < s.size by omega)
  have e1:Ug s=(decide (s.size≤24) && Vb (Tu s 0) && !Qg s && Kl s 0 s.size):=by unfold Ug;rw [decide_eq_true (show 1≤s.size by omega)];rfl
  simp only [Int.ofNat_zero,Int.natCast_zero] at hj
  simp only [h0,decide_false,Bool.false_or,Int.le_refl,Nat.le_refl,if_true,Int.toNat_zero,hb,cond_true,hj,Option.bind_some,Y7,e1,Tu]
  cases decide (s.size≤24)<;>cases Vb (C9 s[0]?)<;>cases Qg s<;>cases Kl s 0 s.size<;>rfl
end Go.Proofs.YtmimkinjcfekmaaGreat.Ev
