/- Laws for the walk. -/
import Derived.Test.YtmimficdpfmfgaaGreatZbl
import Derived.Test.YtmimficdpfmfgaaGreatZbn
set_option linter.unusedVariables false
set_option maxHeartbeats 4000000
namespace Go.Proofs.YtmimficdpfmfgaaGreat
open Go.RowKit Tr
open Classical
section
variable(t:Bool)(a b c d:QC)(hm:Qbn (a,b,c,d))
def CR(t:Bool)(a b c d:QC):Prop:=den t c d ⟨0,0⟩=⟨0,0⟩∨(((1:Rat) - nm (snd t a b c d ⟨0,0⟩)).num.sign)≤0
include hm
theorem pK1:∃ v:Bool,Qae Tryz.prog true 12 [.c (gl (.int .i64 1)),.row ((Qac a).cells++(Qac b).cells++(Qac c).cells++(Qac d).cells++[gx (.bool t)])] (.tup [.c (gl (.bool v)),.c (gl (.int .i64 0))]) ∧
  (v=true↔(¬C0 t a b c d∧PE t a b c d ⟨1,0⟩∧PE t a b c d ⟨-1,0⟩∧PE t a b c d ⟨0,0⟩)):=by
 have k:=pKp1 a b c d t hm.1.1 hm.1.2.1 hm.1.2.2.1 hm.1.2.2.2 hm
 by_cases h0:C0 t a b c d
 ·exact⟨false,k.t h0,by simp[h0]⟩
 have k:=k.f h0
 by_cases d1:den t c d ⟨1,0⟩=⟨0,0⟩
 ·have k:=k.t d1
  have e1:PE t a b c d ⟨1,0⟩:=.inl d1
  by_cases d2:den t c d ⟨-1,0⟩=⟨0,0⟩
  ·have k:=k.t d2
   have e2:PE t a b c d ⟨-1,0⟩:=.inl d2
   by_cases h3:PE t a b c d ⟨0,0⟩
   ·exact⟨true,k.t h3,by simp[h0,e1,e2,h3]⟩
   ·exact⟨false,k.f h3,by simp[h3]⟩
  ·have k:=k.f d2
   by_cases s2:((snd t a b c d ⟨-1,0⟩).im).num.sign=0
   ·have k:=k.t s2
    have e2:PE t a b c d ⟨-1,0⟩:=.inr s2
    by_cases h3:PE t a b c d ⟨0,0⟩
    ·exact⟨true,k.t h3,by simp[h0,e1,e2,h3]⟩
    ·exact⟨false,k.f h3,by simp[h3]⟩
   ·have n2:¬PE t a b c d ⟨-1,0⟩:=fun h=>h.elim d2 s2
    exact⟨false,k.f s2,by simp[n2]⟩
 ·have k:=k.f d1
  by_cases s1:((snd t a b c d ⟨1,0⟩).im).num.sign=0
  ·have k:=k.t s1
   have e1:PE t a b c d ⟨1,0⟩:=.inr s1
   by_cases d2:den t c d ⟨-1,0⟩=⟨0,0⟩
   ·have k:=k.t d2
    have e2:PE t a b c d ⟨-1,0⟩:=.inl d2
    by_cases h3:PE t a b c d ⟨0,0⟩
    ·exact⟨true,k.t h3,by simp[h0,e1,e2,h3]⟩
    ·exact⟨false,k.f h3,by simp[h3]⟩
   ·have k:=k.f d2
    by_cases s2:((snd t a b c d ⟨-1,0⟩).im).num.sign=0
    ·have k:=k.t s2
     have e2:PE t a b c d ⟨-1,0⟩:=.inr s2
     by_cases h3:PE t a b c d ⟨0,0⟩
     ·exact⟨true,k.t h3,by simp[h0,e1,e2,h3]⟩
     ·exact⟨false,k.f h3,by simp[h3]⟩
    ·have n2:¬PE t a b c d ⟨-1,0⟩:=fun h=>h.elim d2 s2
     exact⟨false,k.f s2,by simp[n2]⟩
  ·have n1:¬PE t a b c d ⟨1,0⟩:=fun h=>h.elim d1 s1
   exact⟨false,k.f s1,by simp[n1]⟩
theorem pK2:∃ v:Bool,Qae Tryz.prog true 12 [.c (gl (.int .i64 2)),.row ((Qac a).cells++(Qac b).cells++(Qac c).cells++(Qac d).cells++[gx (.bool t)])] (.tup [.c (gl (.bool v)),.c (gl (.int .i64 0))]) ∧
  (v=true↔(¬CR t a b c d∧PR t a b c d ⟨1,0⟩∧PR t a b c d ⟨-1,0⟩∧PR t a b c d ⟨0,1⟩)):=by
 have k:=pKp2 a b c d t hm.1.1 hm.1.2.1 hm.1.2.2.1 hm.1.2.2.2 hm
 by_cases h:¬CR t a b c d∧PR t a b c d ⟨1,0⟩∧PR t a b c d ⟨-1,0⟩∧PR t a b c d ⟨0,1⟩
 ·exact⟨true,k.t ⟨fun e=>h.1 (.inl e),fun e=>h.1 (.inr e),h.2.1.1,h.2.1.2,h.2.2.1.1,h.2.2.1.2,h.2.2.2.1,h.2.2.2.2⟩,by simp[h]⟩
 ·exact⟨false,k.f (fun q=>h ⟨fun e=>e.elim q.1 q.2.1,⟨q.2.2.1,q.2.2.2.1⟩,⟨q.2.2.2.2.1,q.2.2.2.2.2.1⟩,⟨q.2.2.2.2.2.2.1,q.2.2.2.2.2.2.2⟩⟩),by simp[h]⟩
theorem dK1:∃ v:Bool,Qae Tryz.prog true 19 [.c (gl (.int .i64 1)),.row (rG a++rG b++rG c++rG d++[gx (.bool t)])] (.r (.c (gl (.bool v))))∧(v=true↔(¬C0 t a b c d∧eqU t a b c d)):=by
 have za:=Qaa hm.1.1
 have zb:=Qaa hm.1.2.1
 have zc:=Qaa hm.1.2.2.1
 have zd:=Qaa hm.1.2.2.2
 cases t
 ·have k:=dKp1f a b c d za zb zc zd hm
  by_cases h:¬C0 false a b c d∧eqU false a b c d
  ·exact⟨true,k.t ⟨fun e=>h.1 (.inl e),h.2,Int.not_le.1 (fun e=>h.1 (.inr e))⟩,by simp[h]⟩
  ·exact⟨false,k.f (fun q=>h ⟨fun e=>e.elim q.1 (fun l=>absurd q.2.2 (Int.not_lt.2 l)),q.2.1⟩),by simp[h]⟩
 ·have k:=dKp1t a b c d za zb zc zd hm
  by_cases h:¬C0 true a b c d∧eqU true a b c d
  ·exact⟨true,k.t ⟨fun e=>h.1 (.inl e),h.2,Int.not_le.1 (fun e=>h.1 (.inr e))⟩,by simp[h]⟩
  ·exact⟨false,k.f (fun q=>h ⟨fun e=>e.elim q.1 (fun l=>absurd q.2.2 (Int.not_lt.2 l)),q.2.1⟩),by simp[h]⟩
theorem dK2:∃ v:Bool,Qae Tryz.prog true 19 [.c (gl (.int .i64 2)),.row (rG a++rG b++rG c++rG d++[gx (.bool t)])] (.r (.c (gl (.bool v))))∧(v=true↔(¬CR t a b c d∧eqR t a b c d)):=by
 have za:=Qaa hm.1.1
 have zb:=Qaa hm.1.2.1
 have zc:=Qaa hm.1.2.2.1
 have zd:=Qaa hm.1.2.2.2
 cases t
 ·have k:=dKp2f a b c d za zb zc zd hm
  by_cases h:¬CR false a b c d∧eqR false a b c d
  ·exact⟨true,k.t ⟨fun e=>h.1 (.inl e),h.2,Int.not_le.1 (fun e=>h.1 (.inr e))⟩,by simp[h]⟩
  ·exact⟨false,k.f (fun q=>h ⟨fun e=>e.elim q.1 (fun l=>absurd q.2.2 (Int.not_lt.2 l)),q.2.1⟩),by simp[h]⟩
 ·have k:=dKp2t a b c d za zb zc zd hm
  by_cases h:¬CR true a b c d∧eqR true a b c d
  ·exact⟨true,k.t ⟨fun e=>h.1 (.inl e),h.2,Int.not_le.1 (fun e=>h.1 (.inr e))⟩,by simp[h]⟩
  ·exact⟨false,k.f (fun q=>h ⟨fun e=>e.elim q.1 (fun l=>absurd q.2.2 (Int.not_lt.2 l)),q.2.1⟩),by simp[h]⟩
theorem keeps1:∃ v:Bool,Qae Tryz.prog true 12 [.c (gl (.int .i64 1)),.row ((Qac a).cells++(Qac b).cells++(Qac c).cells++(Qac d).cells++[gx (.bool t)])] (.tup [.c (gl (.bool v)),.c (gl (.int .i64 0))]) ∧
  Qae Tryz.prog true 19 [.c (gl (.int .i64 1)),.row ((Qac a).cells++(Qac b).cells++(Qac c).cells++(Qac d).cells++[gx (.bool t)])] (.r (.c (gl (.bool v)))):=by
 obtain⟨v,k,e⟩:=pK1 t a b c d hm
 obtain⟨v',k',e'⟩:=dK1 t a b c d hm
 rw[eqU_iff hm.2.2,←e] at e'
 have q:v=v':=by cases v<;>cases v'<;>simp_all
 subst q
 exact⟨v,k,k'⟩
theorem keeps2:∃ v:Bool,Qae Tryz.prog true 12 [.c (gl (.int .i64 2)),.row ((Qac a).cells++(Qac b).cells++(Qac c).cells++(Qac d).cells++[gx (.bool t)])] (.tup [.c (gl (.bool v)),.c (gl (.int .i64 0))]) ∧
  Qae Tryz.prog true 19 [.c (gl (.int .i64 2)),.row ((Qac a).cells++(Qac b).cells++(Qac c).cells++(Qac d).cells++[gx (.bool t)])] (.r (.c (gl (.bool v)))):=by
 obtain⟨v,k,e⟩:=pK2 t a b c d hm
 obtain⟨v',k',e'⟩:=dK2 t a b c d hm
 rw[eqR_iff hm.2.2,←e] at e'
 have q:v=v':=by cases v<;>cases v'<;>simp_all
 subst q
 exact⟨v,k,k'⟩
end
end Go.Proofs.YtmimficdpfmfgaaGreat
