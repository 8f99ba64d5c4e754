/- Laws for the walk. -/
import Derived.Test.YtmimficdpfmfgaaGreatVbt
import Derived.Test.YtmimficdpfmfgaaGreatVbv
set_option linter.unusedVariables false
set_option linter.unusedSimpArgs false
set_option maxHeartbeats 4000000
set_option maxRecDepth 100000
namespace Go.Proofs.YtmimficdpfmfgaaGreat
open Go.RowKit Tr
open Classical
theorem kept_p1(l1 l2 l3 l4:Qdc):SCt 6 [.c (gxi 1),.row (l1.cells++l2.cells++l3.cells++l4.cells)] (.r gTt):=by
 by_cases k1:GOk l1.val
 ·obtain⟨z,rfl,sz⟩:=gOk_raw k1
  by_cases k2:GOk l2.val
  ·obtain⟨w,rfl,sw⟩:=gOk_raw k2
   by_cases k3:GOk l3.val
   ·obtain⟨u,rfl,su⟩:=gOk_raw k3
    by_cases k4:GOk l4.val
    ·obtain⟨v,rfl,sv⟩:=gOk_raw k4
     by_cases hz:z.im.num.sign≤0
     ·exact Qjj 1 _ _ _ _ (few_350 1 _ _ _ _ (n4_1_o0 z w u v sz sw su sv hz))
     by_cases hw:w.im.num.sign≤0
     ·exact Qjj 1 _ _ _ _ (few_350 1 _ _ _ _ (n4_1_o1 z w u v sz sw su sv hz hw))
     by_cases hu:u.im.num.sign≤0
     ·exact Qjj 1 _ _ _ _ (few_350 1 _ _ _ _ (n4_1_o2 z w u v sz sw su sv hz hw hu))
     by_cases hv:v.im.num.sign≤0
     ·exact Qjj 1 _ _ _ _ (few_350 1 _ _ _ _ (n4_1_o3 z w u v sz sw su sv hz hw hu hv))
     have q0:=n4_1_in z w u v sz sw su sv hz hw hu hv
     by_cases hs:smKC (Qad z) (Qad w) (Qad u) (Qad v)
     ·exact Qjj 1 _ _ _ _ (few1o _ _ _ _ hs q0)
     ·obtain⟨a1,a2,a3,a4⟩:=sm_sz4 hs
      exact kept_in1 z w u v (bt_of a1) (bt_of a2) (bt_of a3) (bt_of a4) sz sw su sv (Qen hz) (Qen hw) (Qen hu) (Qen hv) (few1k _ _ _ _ hs q0)
    ·exact Qjj 1 _ _ _ _ (few_2 1 _ _ _ _ (n4_1_3 z w u l4 sz sw su k4))
   ·exact Qjj 1 _ _ _ _ (few_2 1 _ _ _ _ (n4_1_2 z w l3 l4 sz sw k3))
  ·exact Qjj 1 _ _ _ _ (few_2 1 _ _ _ _ (n4_1_1 z l2 l3 l4 sz k2))
 ·exact Qjj 1 _ _ _ _ (few_2 1 _ _ _ _ (n4_1_0 l1 l2 l3 l4 k1))
theorem kept_p2(l1 l2 l3 l4:Qdc):SCt 6 [.c (gxi 2),.row (l1.cells++l2.cells++l3.cells++l4.cells)] (.r gTt):=by
 by_cases k1:GOk l1.val
 ·obtain⟨z,rfl,sz⟩:=gOk_raw k1
  by_cases k2:GOk l2.val
  ·obtain⟨w,rfl,sw⟩:=gOk_raw k2
   by_cases k3:GOk l3.val
   ·obtain⟨u,rfl,su⟩:=gOk_raw k3
    by_cases k4:GOk l4.val
    ·obtain⟨v,rfl,sv⟩:=gOk_raw k4
     by_cases hz:(((1:Rat) - (nm z)).num.sign)≤0
     ·exact Qjj 2 _ _ _ _ (few_350 2 _ _ _ _ (n4_2_o0 z w u v sz sw su sv hz))
     by_cases hw:(((1:Rat) - (nm w)).num.sign)≤0
     ·exact Qjj 2 _ _ _ _ (few_350 2 _ _ _ _ (n4_2_o1 z w u v sz sw su sv hz hw))
     by_cases hu:(((1:Rat) - (nm u)).num.sign)≤0
     ·exact Qjj 2 _ _ _ _ (few_350 2 _ _ _ _ (n4_2_o2 z w u v sz sw su sv hz hw hu))
     by_cases hv:(((1:Rat) - (nm v)).num.sign)≤0
     ·exact Qjj 2 _ _ _ _ (few_350 2 _ _ _ _ (n4_2_o3 z w u v sz sw su sv hz hw hu hv))
     have q0:=n4_2_in z w u v sz sw su sv hz hw hu hv
     by_cases hs:smKC (Qad z) (Qad w) (Qad u) (Qad v)
     ·exact Qjj 2 _ _ _ _ (few2o _ _ _ _ hs q0)
     ·obtain⟨a1,a2,a3,a4⟩:=sm_sz4 hs
      exact kept_in2 z w u v (bt_of a1) (bt_of a2) (bt_of a3) (bt_of a4) sz sw su sv (Qen hz) (Qen hw) (Qen hu) (Qen hv) (few2k _ _ _ _ hs q0)
    ·exact Qjj 2 _ _ _ _ (few_2 2 _ _ _ _ (n4_2_3 z w u l4 sz sw su k4))
   ·exact Qjj 2 _ _ _ _ (few_2 2 _ _ _ _ (n4_2_2 z w l3 l4 sz sw k3))
  ·exact Qjj 2 _ _ _ _ (few_2 2 _ _ _ _ (n4_2_1 z l2 l3 l4 sz k2))
 ·exact Qjj 2 _ _ _ _ (few_2 2 _ _ _ _ (n4_2_0 l1 l2 l3 l4 k1))
theorem kept_true(p:Int)(l1 l2 l3 l4:Qdc):SCt 6 [.c (gxi p),.row (l1.cells++l2.cells++l3.cells++l4.cells)] (.r gTt):=by
 by_cases hp1:p=1
 ·subst hp1; exact kept_p1 l1 l2 l3 l4
 by_cases hp2:p=2
 ·subst hp2; exact kept_p2 l1 l2 l3 l4
 exact Qjj p _ _ _ _ (few_2 p _ _ _ _ (n4_N p l1 l2 l3 l4 hp1 hp2))
end Go.Proofs.YtmimficdpfmfgaaGreat
