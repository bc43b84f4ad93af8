/-  Chapter 7, plainly: names. -/
import Derived.Test.YtcbandfdmbkokaaGreatQ1
namespace Go.Proofs.YtcbandfdmbkokaaGreat.Ev
open Go
set_option linter.unusedVariables false
set_option linter.unusedSimpArgs false
set_option linter.unnecessarySimpa false
def Aaf(z:Int):Bool:=decide (97≤z) && decide (z≤122)
def okZ(z:Int):Bool:=Aaf z || z == 95 || (decide (48≤z) && decide (z≤57))
def w9(a:ByteArray)(i:Nat):Int:=C6 a[i]?
def Qr(a:ByteArray):Nat→Nat→Bool
 |_,0=>true
 |i,m+1=>okZ (w9 a i) && Qr a (i+1) m
def kws:List ByteArray:= [(⟨#[97,100,100]⟩:ByteArray),(⟨#[97,102,116,101,114]⟩:ByteArray),(⟨#[97,110,100]⟩:ByteArray),(⟨#[97,116]⟩:ByteArray),(⟨#[98,101,108,116]⟩:ByteArray),(⟨#[98,111,111,108]⟩:ByteArray),(⟨#[99,111,110,115,101,114,118,101]⟩:ByteArray),(⟨#[99,111,110,115,116]⟩:ByteArray),(⟨#[99,111,117,110,116]⟩:ByteArray),(⟨#[99,121,99,108,101]⟩:ByteArray),(⟨#[100,111,119,110]⟩:ByteArray),(⟨#[100,114,97,119]⟩:ByteArray),(⟨#[100,117,114]⟩:ByteArray),(⟨#[101,108,115,101]⟩:ByteArray),(⟨#[101,110,100]⟩:ByteArray),(⟨#[101,118,101,114,121]⟩:ByteArray),(⟨#[102,97,108,115,101]⟩:ByteArray),(⟨#[102,97,117,108,116]⟩:ByteArray),(⟨#[102,105,102,111]⟩:ByteArray),(⟨#[102,114,101,101]⟩:ByteArray),(⟨#[102,114,111,109]⟩:ByteArray),(⟨#[103,101,111,109]⟩:ByteArray),(⟨#[103,101,116]⟩:ByteArray),(⟨#[104,111,108,100]⟩:ByteArray),(⟨#[105,102]⟩:ByteArray),(⟨#[105,110,116]⟩:ByteArray),(⟨#[105,110,116,111]⟩:ByteArray),(⟨#[108,101,97,115,116]⟩:ByteArray),(⟨#[108,101,118,101,108]⟩:ByteArray),(⟨#[108,105,102,111]⟩:ByteArray),(⟨#[108,105,110,107]⟩:ByteArray),(⟨#[108,111,99,97,108]⟩:ByteArray),(⟨#[109,97,120]⟩:ByteArray),(⟨#[109,105,110]⟩:ByteArray),(⟨#[109,111,100,101,108]⟩:ByteArray),(⟨#[110,111,116]⟩:ByteArray),(⟨#[110,111,119]⟩:ByteArray),(⟨#[111,98,115,101,114,118,101]⟩:ByteArray),(⟨#[111,114]⟩:ByteArray),(⟨#[112,97,114,97,109]⟩:ByteArray),(⟨#[112,114,101,101,109,112,116]⟩:ByteArray),(⟨#[112,114,105,111]⟩:ByteArray),(⟨#[112,117,116]⟩:ByteArray),(⟨#[113,117,101,117,101]⟩:ByteArray),(⟨#[114,101,108,101,97,115,101]⟩:ByteArray),(⟨#[114,101,115,111,117,114,99,101]⟩:ByteArray),(⟨#[114,105,100,101]⟩:ByteArray),(⟨#[114,111,117,116,105,110,101]⟩:ByteArray),(⟨#[115,101,105,122,101]⟩:ByteArray),(⟨#[115,101,110,100]⟩:ByteArray),(⟨#[115,101,116]⟩:ByteArray),(⟨#[115,104,105,102,116]⟩:ByteArray),(⟨#[115,105,103,110,97,108]⟩:ByteArray),(⟨#[115,105,116,101]⟩:ByteArray),(⟨#[115,105,122,101]⟩:ByteArray),(⟨#[115,112,97,119,110]⟩:ByteArray),(⟨#[115,116,97,114,116]⟩:ByteArray),(⟨#[115,116,111,112]⟩:ByteArray),(⟨#[115,116,111,114,101]⟩:ByteArray),(⟨#[115,116,114,101,97,109]⟩:ByteArray),(⟨#[115,117,109]⟩:ByteArray),(⟨#[116,97,98,108,101]⟩:ByteArray),(⟨#[116,97,108,108,121]⟩:ByteArray),(⟨#[116,105,99,107,115]⟩:ByteArray),(⟨#[116,105,109,101]⟩:ByteArray),(⟨#[116,114,117,101]⟩:ByteArray),(⟨#[117,110,105,102,111,114,109]⟩:ByteArray),(⟨#[117,110,116,105,108]⟩:ByteArray),(⟨#[117,112]⟩:ByteArray),(⟨#[118,97,114]⟩:ByteArray),(⟨#[119,97,105,116]⟩:ByteArray),(⟨#[119,97,105,116,105,110,103]⟩:ByteArray),(⟨#[119,104,105,108,101]⟩:ByteArray)]
def Xu(s:ByteArray):Bool:=kws.any fun w=>decide (s=w)
def Z6(s:ByteArray):Bool:=decide (1≤s.size) && decide (s.size≤24) && Aaf (w9 s 0) && !Xu s && Qr s 0 s.size
def S6(s:ByteArray):Int:=bif Z6 s then 0 else 3
theorem Xb(L:Nat)(z:Int):Gk L z=some (Aaf z):=by
 simp only [Uw,Gk,Ao,Au,Al,Am,Ar,Ap,Ak,Av,Aw,Aq,Ax,Aaf,Dz]
theorem Bay{c b:Bool}{X:Option Bool}(h:X=some b):(bif c then (bif c then some true else some false) else X)=some (c || b):=by cases c<;>simp [h]
theorem Beh{c b:Bool}{X:Option Bool}(h:X=some b):(bif c then some true else X)=some (c || b):=by cases c<;>simp [h]
set_option maxRecDepth 10000 in
theorem Aha(L:Nat)(s:ByteArray):Gu L s=some (Xu s):=by
 simp only [Tu,Gu,Ao,Au,Al,Am,Ar,Ap,Ak,Av,Aw,Aq,Ax,G8,Xu,kws,List.any_cons,List.any_nil]
 repeat (first|exact Bay rfl|refine Bay ?_|refine Beh ?_)
 rfl
theorem Boz(L:Nat)(a:ByteArray)(hs:a.size≤maxLen):∀(m i n:Nat) (v:Int),i+m=a.size→m < n→
  ∃j,H4 L a n v i=some (bif Qr a i m then (1,(v,j)) else (0,(3,j))):=by
 intro m
 induction m with
 |zero=>
  intro i n v hi hn
  obtain ⟨n,rfl⟩:∃k,n=k+1:=⟨n - 1,by omega⟩
  exact ⟨i,by simp only [H4,Hy,Ao,Au,Al,Am,Ar,Ap,Ak,Av,Aw,Aq,Ax,Qr,L2 (show a.size≤i by omega),cond_true,cond_false]⟩
 |succ m ih=>
  intro i n v hi hn
  obtain ⟨n,rfl⟩:∃k,n=k+1:=⟨n - 1,by omega⟩
  have hlt:i < a.size:=by omega
  obtain ⟨j,hj⟩:=ih (i+1) n v (by omega) (by omega)
  have hb:=A74 hlt
  cases hc:okZ (w9 a i) with
  |true=>
   refine ⟨j,?_⟩
   have e:Qr a i (m+1)=Qr a (i+1) m:=by simp only [Qr,hc,Bool.true_and]
   simp only [H4,Hy,Ao,Au,Al,Am,Ar,Ap,Ak,Av,Aw,Aq,Ax,Kq hlt,nn,Sr,if_true,hb,cond_true,Xb,Option.bind_some,Ch hlt hs,hj,e,Dz,O8]
   rw [show ((!Aaf (C6 a[i]?) && (decide (C6 a[i]? < 48) || decide (C6 a[i]? > 57))) && C6 a[i]? != 95)=false from ?_]
   ·rfl
   ·revert hc;unfold okZ w9
    generalize C6 a[i]? =z
    cases Aaf z<;>simp<;>omega
  |false=>
   refine ⟨i,?_⟩
   have e:Qr a i (m+1)=false:=by simp only [Qr,hc,Bool.false_and]
   simp only [H4,Hy,Ao,Au,Al,Am,Ar,Ap,Ak,Av,Aw,Aq,Ax,Kq hlt,nn,Sr,if_true,hb,cond_true,Xb,Option.bind_some,Ch hlt hs,hj,e,Dz,O8]
   rw [show ((!Aaf (C6 a[i]?) && (decide (C6 a[i]? < 48) || decide (C6 a[i]? > 57))) && C6 a[i]? != 95)=true from ?_]
   ·rfl
   ·revert hc;unfold okZ w9
    generalize C6 a[i]? =z
    cases Aaf z<;>simp<;>omega
theorem Yu(L:Nat)(s:ByteArray)(hs:okS s)(hL:s.size < L):Hi L s=some (S6 s):=by
 obtain ⟨j,hj⟩:=Boz L s hs s.size 0 L 0 (by omega) hL
 have e0:decide ((s.size:Int) > 24)= !decide (s.size≤24):=by
  by_cases h:s.size≤24
  ·rw [decide_eq_false (by omega),decide_eq_true h];rfl
  ·rw [decide_eq_true (by omega),decide_eq_false h];rfl
 simp only [Tn,Hi,Ao,Au,Al,Am,Ar,Ap,Ak,Av,Aw,Aq,Ax,G8,Baj,Xb,Aha,Option.bind_some,D7,O8,e0]
 by_cases h0:s.size=0
 ·have:Z6 s=false:=by unfold Z6;rw [decide_eq_false (show¬1≤s.size by omega)];rfl
  simp [h0,S6,this]
 ·have hb:=A74 (show 0 < s.size by omega)
  have e1:Z6 s=(decide (s.size≤24) && Aaf (w9 s 0) && !Xu s && Qr s 0 s.size):=by unfold Z6;rw [decide_eq_true (show 1≤s.size by omega)];rfl
  simp only [Int.ofNat_zero,Int.natCast_zero] at hj
  simp only [h0,decide_false,Bool.false_or,Int.le_refl,Nat.le_refl,if_true,Int.toNat_zero,hb,cond_true,hj,Option.bind_some,S6,e1,w9]
  cases decide (s.size≤24)<;>cases Aaf (C6 s[0]?)<;>cases Xu s<;>cases Qr s 0 s.size<;>rfl
end Go.Proofs.YtcbandfdmbkokaaGreat.Ev
