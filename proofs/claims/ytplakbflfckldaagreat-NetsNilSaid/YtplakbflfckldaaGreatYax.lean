/- Laws for the walk. -/
import Derived.Test.YtplakbflfckldaaGreatYaw
set_option linter.unusedVariables false
set_option maxHeartbeats 4000000
namespace Go.Proofs.YtplakbflfckldaaGreat
open Go.RowKit Tr
def encG(a b:Rat):Value:=.agg #[.bool (decide (a.num<0)),.string (strN a.num.natAbs),.bool false,.string (strN a.den),.bool (decide (b.num<0)),.string (strN b.num.natAbs),.bool false,.string (strN b.den)]
theorem new_eight(w:World)(x0 x1 x2 x3 x4 x5 x6 x7:Value)(T:TypeId){w1:World}(h:Below (w.alloc (.cells #[x0,x1,x2,x3,x4,x5,x6,x7] T)).heap.size (w.alloc (.cells #[x0,x1,x2,x3,x4,x5,x6,x7] T)) w1) :
  w1.cell? ⟨w.heap.size,0,none⟩=some x0∧w1.cell? ⟨w.heap.size,1,none⟩=some x1∧w1.cell? ⟨w.heap.size,2,none⟩=some x2∧w1.cell? ⟨w.heap.size,3,none⟩=some x3∧w1.cell? ⟨w.heap.size,4,none⟩=some x4∧w1.cell? ⟨w.heap.size,5,none⟩=some x5∧w1.cell? ⟨w.heap.size,6,none⟩=some x6∧w1.cell? ⟨w.heap.size,7,none⟩=some x7:=by
 have e:=(h.block w.heap.size (by simp)).trans (heap_alloc_new w _)
 simp[World.cell?,e]
theorem frozen_eight(w:World)(x0 x1 x2 x3 x4 x5 x6 x7:Value)(T:TypeId){w1:World}(h:Below (w.alloc (.cells #[x0,x1,x2,x3,x4,x5,x6,x7] T)).heap.size (w.alloc (.cells #[x0,x1,x2,x3,x4,x5,x6,x7] T)) w1) :
  w1.frozen? ⟨w.heap.size,0,none⟩=false∧w1.frozen? ⟨w.heap.size,1,none⟩=false∧w1.frozen? ⟨w.heap.size,2,none⟩=false∧w1.frozen? ⟨w.heap.size,3,none⟩=false∧w1.frozen? ⟨w.heap.size,4,none⟩=false∧w1.frozen? ⟨w.heap.size,5,none⟩=false∧w1.frozen? ⟨w.heap.size,6,none⟩=false∧w1.frozen? ⟨w.heap.size,7,none⟩=false:=by
 have e:=(h.block w.heap.size (by simp)).trans (heap_alloc_new w _)
 simp[World.frozen?,e]
set_option maxRecDepth 100000 in
theorem GInt_any(i j:Int)(hi0:-9223372036854775808≤i)(hi1:i<9223372036854775808)(hj0:-9223372036854775808≤j)(hj1:j<9223372036854775808)(w:World) :
  Calls Tryz.prog 24 #[.int .i64 i,.int .i64 j] w fun e w'=>e=.returned (encG i j)∧Below w.heap.size w w':=by
 have hal:Below w.heap.size w (w.alloc (.cells #[.bool false,.string ⟨#[]⟩,.bool false,.string ⟨#[]⟩,.bool false,.string ⟨#[]⟩,.bool false,.string ⟨#[]⟩] 36)):=br.alloc (Nat.le_refl _) _
 have H1:=Lib.hid (fun w=>FInt_any i hi0 hi1 w)
 have H2:=Lib.hid (fun w=>FInt_any j hj0 hj1 w)
 obtain⟨b1,t1,t2,he1⟩:=encF_two (i:Rat)
 obtain⟨b2,t3,t4,he2⟩:=encF_two (j:Rat)
 have HE:=Lib.hid (show encG i j=.agg #[.bool b1,.string t1,.bool false,.string t2,.bool b2,.string t3,.bool false,.string t4] by
  unfold encF at he1 he2
  simp only[Value.agg.injEq,Array.mk.injEq,List.cons.injEq,Value.bool.injEq,Value.string.injEq,and_true] at he1 he2
  unfold encG
  rw[he1.1,he1.2.1,he1.2.2.2,he2.1,he2.2.1,he2.2.2.2])
 rw[he1] at H1
 rw[he2] at H2
 have HA:=Lib.hid hal
 clear he1 he2 hal
 go_enter Tryz.func24,Tryz.ntmps24
 go_wp2_with fail
 refine(H1.out _).mono ?_
 rintro e w1 ⟨rfl,hb1⟩
 go_wp2_with fail
 refine(H2.out _).mono ?_
 rintro e w2 ⟨rfl,hb2⟩
 have hb12:=hb1.trans (hb2.mono hb1.size)
 obtain⟨c0,c1,c2,c3,c4,c5,c6,c7⟩:=new_eight w _ _ _ _ _ _ _ _ _ hb12
 obtain⟨f0,f1,f2,f3,f4,f5,f6,f7⟩:=frozen_eight w _ _ _ _ _ _ _ _ _ hb12
 have HB:=Lib.hid (HA.out.trans (hb12.mono (by simp)))
 clear hb1 hb2 hb12
 go_wp2_with fail
 refine bodyPost_ret (v:=.agg #[.bool b1,.string t1,.bool false,.string t2,.bool b2,.string t3,.bool false,.string t4]) (by simp[results,Tryz.results24,go_sem,c0,c1,c2,c3,c4,c5,c6,c7]) rfl ⟨by rw[HE.out],?_⟩
 exact((((((((HB.out.setCell (p:=⟨w.heap.size,0,none⟩) (Nat.le_refl _) _).setCell (p:=⟨w.heap.size,1,none⟩) (Nat.le_refl _) _).setCell (p:=⟨w.heap.size,2,none⟩) (Nat.le_refl _) _).setCell (p:=⟨w.heap.size,3,none⟩) (Nat.le_refl _) _).setCell (p:=⟨w.heap.size,4,none⟩) (Nat.le_refl _) _).setCell (p:=⟨w.heap.size,5,none⟩) (Nat.le_refl _) _).setCell (p:=⟨w.heap.size,6,none⟩) (Nat.le_refl _) _).setCell (p:=⟨w.heap.size,7,none⟩) (Nat.le_refl _) _)
open Classical in
noncomputable def okB(n1 n2:Bool)(s1 s2:ByteArray):Bool:=decide (FracOk (.agg #[.bool n1,.string s1,.bool n2,.string s2]))
theorem okB_iff{n1 n2:Bool}{s1 s2:ByteArray}:okB n1 n2 s1 s2=true↔FracOk (.agg #[.bool n1,.string s1,.bool n2,.string s2]):=by unfold okB; simp
set_option maxRecDepth 100000 in
theorem GMay_any(n1 n2 n3 n4:Bool)(s1 s2 s3 s4:ByteArray)(l1:s1.size<274877906944)(l2:s2.size<274877906944)(l3:s3.size<274877906944)(l4:s4.size<274877906944)(w:World) :
  Calls Tryz.prog 49 #[.agg #[.bool n1,.string s1,.bool n2,.string s2,.bool n3,.string s3,.bool n4,.string s4]] w fun e w'=>e=.returned (.bool (okB n1 n2 s1 s2 && okB n3 n4 s3 s4))∧Below w.heap.size w w':=by
 have H1:=Lib.hid (fun w=>May_any n1 n2 s1 s2 l1 l2 _ okB_iff w)
 have H2:=Lib.hid (fun w=>May_any n3 n4 s3 s4 l3 l4 _ okB_iff w)
 have HA:=Lib.hid (show Below w.heap.size w (w.alloc (.cells #[.bool n1,.string s1,.bool n2,.string s2,.bool n3,.string s3,.bool n4,.string s4] 36)) from br.alloc (Nat.le_refl _) _)
 go_enter Tryz.func49,Tryz.ntmps49
 go_wp2_with fail
 refine(H1.out _).mono ?_
 rintro e w1 ⟨rfl,hb1⟩
 obtain⟨e0,e1,e2,e3,e4,e5,e6,e7⟩:=new_eight w _ _ _ _ _ _ _ _ _ hb1
 cases c1:okB n1 n2 s1 s2
 ·have HB:=Lib.hid (HA.out.trans (hb1.mono (by simp)))
  clear hb1
  go_wp2
  all_goals go_ret
  all_goals exact⟨by rw[c1]; rfl,HB.out⟩
 ·go_wp2_with fail
  refine(H2.out _).mono ?_
  rintro e w2 ⟨rfl,hb2⟩
  have HB:=Lib.hid (HA.out.trans ((hb1.trans (hb2.mono hb1.size)).mono (by simp)))
  clear hb1 hb2
  obtain⟨c2,hc2⟩:∃ c2,c2=okB n3 n4 s3 s4:=⟨_,rfl⟩
  rw[←hc2]
  have HC:=Lib.hid hc2
  clear hc2
  go_wp2
  all_goals go_ret
  all_goals exact⟨by rw[c1,←HC.out]; cases c2<;>rfl,HB.out⟩
set_option maxRecDepth 100000 in
theorem GZero_any (n1 n2 n3 n4 : Bool) (s1 s2 s3 s4 : ByteArray) (r : Bool) (hr : r = true ↔ .agg #[.bool n1,.string s1,.bool n2,.string s2,.bool n3,.string s3,.bool n4,.string s4] = encG 0 0) (w : World) :
    Calls Tryz.prog 50 #[.agg #[.bool n1,.string s1,.bool n2,.string s2,.bool n3,.string s3,.bool n4,.string s4]] w fun e w'=>e=.returned (.bool r)∧Below w.heap.size w w':=by
  have H1:=Lib.hid (fun w=>GInt_any 0 0 (by decide) (by decide) (by decide) (by decide) w)
  obtain⟨b1,t1,t2,b2,t3,t4,he⟩:∃ b1 t1 t2 b2 t3 t4,encG 0 0=.agg #[.bool b1,.string t1,.bool false,.string t2,.bool b2,.string t3,.bool false,.string t4]:=⟨_,_,_,_,_,_,rfl⟩
  rw[show encG ((0:Int):Rat) ((0:Int):Rat)=encG 0 0 from rfl,he] at H1
  rw[he] at hr
  obtain⟨W,hW⟩:∃ W,W=w.alloc (.cells #[.bool n1,.string s1,.bool n2,.string s2,.bool n3,.string s3,.bool n4,.string s4] 36):=⟨_,rfl⟩
  obtain⟨e0,e1,e2,e3,e4,e5,e6,e7⟩:=new_eight w (.bool n1) (.string s1) (.bool n2) (.string s2) (.bool n3) (.string s3) (.bool n4) (.string s4) 36 br
  rw[←hW] at e0 e1 e2 e3 e4 e5 e6 e7
  have hs:w.heap.size<W.heap.size:=by rw[hW]; simp
  have hb:Below w.heap.size w W:=by rw[hW]; exact br.alloc (Nat.le_refl _) _
  have HV:=Lib.hid (And.intro hW (And.intro hb hr))
  clear hW hb hr he
  go_enter Tryz.func50,Tryz.ntmps50
  go_wp2_with fail
  rw[←HV.out.1]
  refine wp_region_inv [(.lit,[]),(.val,[])]
    (pickF [(1,fun v _ _=>v=.agg #[.bool b1,.string t1,.bool false,.string t2,.bool b2,.string t3,.bool false,.string t4])]) (by kernel_rfl) ?_ ?_ (by simp) (by simp) (by kernel_rfl)
  · exact keeps_pick (by simp only[List.mem_cons,List.not_mem_nil,or_false]; rintro p rfl; exact fun _ _ _ _ _ _ _ h=>h)
  · refine⟨_,fun f w1 h1=>by(have d0:=ct h1 hs e0; have d1:=ct h1 hs e1; have d2:=ct h1 hs e2; have d3:=ct h1 hs e3; have d4:=ct h1 hs e4; have d5:=ct h1 hs e5; have d6:=ct h1 hs e6; have d7:=ct h1 hs e7; go_simp; rfl),?_⟩
    simp only[Act.put,nrA,nrB,nrC,Nat.reduceAdd]
    refine⟨fun f w1 A1 k1 hA hN hd K hK=>by
      go_simp
      refine(H1.out w1).mono ?_
      rintro e w' ⟨rfl,hb⟩
      exact hK _ _ hb rfl,?_⟩
    intro f w1 k1 hF
    have i2:f 1=.agg #[.bool b1,.string t1,.bool false,.string t2,.bool b2,.string t3,.bool false,.string t4]:=hF.2
    clear hF
    simp only[Act.put,nrA,nrB,nrC]
    rw[i2]
    clear i2
    have HB:=Lib.hid (HV.out.2.1.trans ((br.drew.trans k1).mono HV.out.2.1.size))
    clear k1 e0 e1 e2 e3 e4 e5 e6 e7
    go_wp2
    all_goals (
      go_ret
      refine⟨?_,HB.out⟩
      have hre:=HV.out.2.2
      simp only[Value.agg.injEq,Array.mk.injEq,List.cons.injEq,Value.bool.injEq,Value.string.injEq,and_true] at hre
      simp only[toL_iff] at *
      first
        | (have hr : r = true := hre.2 (by simp [*])
           rw[hr]; rfl)
        | (have hr : r = false := by
             cases h:r
             · rfl
             · obtain⟨a,b,c,d,e,f,g,h⟩:=hre.1 h
               exfalso
               subst_vars
               contradiction
           rw[hr]; rfl))
end Go.Proofs.YtplakbflfckldaaGreat
namespace Go.Proofs.YtplakbflfckldaaGreat
open Go.RowKit Tr
def zG:Value:=.agg #[.bool false,.string ⟨#[]⟩,.bool false,.string ⟨#[]⟩,.bool false,.string ⟨#[]⟩,.bool false,.string ⟨#[]⟩]
def outG(a b:Rat):Value:=if ShortF a∧ShortF b then encG a b else zG
def outGC(a b:Rat):Int:=if ShortF a∧ShortF b then 0 else 4
theorem outF_four(q:Rat):∃ b1 t1 b2 t2,outF q=.agg #[.bool b1,.string t1,.bool b2,.string t2]:=by
 unfold outF
 split
 ·exact⟨_,_,_,_,rfl⟩
 ·exact⟨_,_,_,_,rfl⟩
theorem outC_zero{q:Rat}:outC q=0↔ShortF q:=by unfold outC; split<;>simp[*]
theorem outG_of{a b:Rat}(ha:ShortF a)(hb:ShortF b){b1 b2 b3 b4:Bool}{t1 t2 t3 t4:ByteArray}(e1:outF a=.agg #[.bool b1,.string t1,.bool b2,.string t2])(e2:outF b=.agg #[.bool b3,.string t3,.bool b4,.string t4]):outG a b=.agg #[.bool b1,.string t1,.bool b2,.string t2,.bool b3,.string t3,.bool b4,.string t4]:=by
 unfold outF at e1 e2
 rw[if_pos ha] at e1
 rw[if_pos hb] at e2
 unfold encF at e1 e2
 simp only[Value.agg.injEq,Array.mk.injEq,List.cons.injEq,Value.bool.injEq,Value.string.injEq,and_true] at e1 e2
 unfold outG
 rw[if_pos ⟨ha,hb⟩]
 unfold encG
 rw[e1.1,e1.2.1,e1.2.2.1,e1.2.2.2,e2.1,e2.2.1,e2.2.2.2]
 rw[e1.2.2.1] at e2
 rw[e2.2.2.1]
set_option maxRecDepth 100000 in
theorem XGauss_any(a b:Rat)(v:Value)(A:Nat→Prop)(w:World)(hv:CP a b v w A)(hla:RL a 137438953472)(hlb:RL b 137438953472) :
  Calls Tryz.prog 169 #[v] w fun e w'=>e=.returned (.tuple #[outG a b,.int .i64 (outGC a b)])∧Below w.heap.size w w':=by
 obtain⟨u1,u2,rfl,h1,h2⟩:=hv
 obtain⟨b1,t1,b2,t2,ea⟩:=outF_four a
 obtain⟨b3,t3,b4,t4,eb⟩:=outF_four b
 obtain⟨k1,hk1⟩:∃ k1,k1=outC a:=⟨_,rfl⟩
 obtain⟨k2,hk2⟩:∃ k2,k2=outC b:=⟨_,rfl⟩
 obtain⟨W0,hW0⟩:∃ W0,W0=w.alloc (.cells #[u1,u2] 175):=⟨_,rfl⟩
 have hz0:W0.heap.size=w.heap.size+1:=by rw[hW0]; simp
 obtain⟨W,hW⟩:∃ W,W=W0.alloc (.cells #[.bool false,.string ⟨#[]⟩,.bool false,.string ⟨#[]⟩,.bool false,.string ⟨#[]⟩,.bool false,.string ⟨#[]⟩] 36):=⟨_,rfl⟩
 have hb0:Below w.heap.size w W0:=by rw[hW0]; exact br.alloc (Nat.le_refl _) _
 have hb1:Below W0.heap.size W0 W:=by rw[hW]; exact br.alloc (Nat.le_refl _) _
 have hb:=hb0.trans (hb1.mono hb0.size)
 obtain⟨e0,e1,_⟩:=new_two w u1 u2 175 (w1:=W) (by rw[←hW0]; exact hb1)
 have hlt:w.heap.size<W.heap.size:=by have:=hb1.size; omega
 have H1:=Lib.hid (XFrac_any a u1 A W (h1.below hb) hla)
 have H2:=Lib.hid (fun w' (h:Below W.heap.size W w')=>XFrac_any b u2 A w' ((h2.below hb).below h) hlb)
 rw[ea,←hk1] at H1
 rw[eb,←hk2] at H2
 have HK:=Lib.hid (And.intro (show k1=0↔ShortF a by rw[hk1]; exact outC_zero) (And.intro (show k2=0↔ShortF b by rw[hk2]; exact outC_zero) (And.intro ea eb)))
 have HV:=Lib.hid (And.intro (hW.trans (by rw[hW0])) (And.intro hb (fun w1 (h:Below W.heap.size W w1)=>And.intro (new_eight W0 _ _ _ _ _ _ _ _ _ (w1:=w1) (by rw[←hW]; exact h)) (frozen_eight W0 _ _ _ _ _ _ _ _ _ (w1:=w1) (by rw[←hW]; exact h)))))
 rw[hz0] at HV
 clear hk1 hk2 ea eb hW hW0 hz0 hb hb0 hb1 h1 h2
 go_enter Tryz.func169,Tryz.ntmps169
 go_wp2_with fail
 rw[←HV.out.1]
 refine H1.out.mono ?_
 rintro e w1 ⟨rfl,hb1⟩
 have e0:=(hb1.cell (p:=⟨w.heap.size,0,none⟩) hlt).trans e0
 have e1:=(hb1.cell (p:=⟨w.heap.size,1,none⟩) hlt).trans e1
 have hlt1:w.heap.size<w1.heap.size:=Nat.lt_of_lt_of_le hlt hb1.size
 have HB1:=Lib.hid hb1
 clear hb1
 go_wp2_with fail
 have hal:=(Below.refl w1.heap.size w1).alloc (Nat.le_refl _) (.cells #[.bool b1,.string t1,.bool b2,.string t2] 34)
 refine(H2.out _ (HB1.out.trans (hal.mono HB1.out.size))).mono ?_
 rintro e w3 ⟨rfl,hb3⟩
 obtain⟨g0,g1,g2,g3,_⟩:=new_four w1 _ _ _ _ _ hb3
 have hb13:=hal.trans (hb3.mono hal.size)
 have hbW3:=HB1.out.trans (hb13.mono HB1.out.size)
 obtain⟨⟨c0,c1,c2,c3,c4,c5,c6,c7⟩,f0,f1,f2,f3,f4,f5,f6,f7⟩:=HV.out.2.2 w3 hbW3
 have hne:w1.heap.size<w3.heap.size:=by have:=hb3.size; simp at this; omega
 have hn2:w.heap.size+1<w3.heap.size:=by omega
 have hF:=HV.out.2.1.trans (hbW3.mono HV.out.2.1.size)
 have HF:=Lib.hid hF
 have HO:=Lib.hid (fun(h:¬(ShortF a∧ShortF b))=>show zG=outG a b∧(4:Int)=outGC a b by unfold outG outGC; rw[if_neg h,if_neg h]; exact⟨rfl,rfl⟩)
 clear e0 e1 hb3 hal hb13 hbW3 hF H1 H2
 by_cases x1:k1=0
 ·by_cases x2:k2=0
  ·have HG:=Lib.hid (And.intro (outG_of (HK.out.1.1 x1) (HK.out.2.1.1 x2) HK.out.2.2.1 HK.out.2.2.2) (show outGC a b=0 by unfold outGC; rw[if_pos ⟨HK.out.1.1 x1,HK.out.2.1.1 x2⟩]))
   subst x1 x2
   go_wp2_with fail
   refine bodyPost_ret (v:=.tuple #[.agg #[.bool b1,.string t1,.bool b2,.string t2,.bool b3,.string t3,.bool b4,.string t4],.int .i64 0]) (by simp[results,Tryz.results169,go_sem,c0,c1,c2,c3,c4,c5,c6,c7,hn2,cell_alloc_lt]) rfl ⟨by rw[HG.out.1,HG.out.2],?_⟩
   exact Below.alloc ((((((((HF.out.setCell (p:=⟨w.heap.size+1,0,none⟩) (Nat.le_succ _) _).setCell (p:=⟨w.heap.size+1,1,none⟩) (Nat.le_succ _) _).setCell (p:=⟨w.heap.size+1,2,none⟩) (Nat.le_succ _) _).setCell (p:=⟨w.heap.size+1,3,none⟩) (Nat.le_succ _) _).setCell (p:=⟨w.heap.size+1,4,none⟩) (Nat.le_succ _) _).setCell (p:=⟨w.heap.size+1,5,none⟩) (Nat.le_succ _) _).setCell (p:=⟨w.heap.size+1,6,none⟩) (Nat.le_succ _) _).setCell (p:=⟨w.heap.size+1,7,none⟩) (Nat.le_succ _) _) (by simp only[setCell_size]; exact(HF.out.size)) _
  ·have hx2:(k2 != 0)=true:=by simpa using x2
   have HN:=Lib.hid (HO.out (fun h=>x2 (HK.out.2.1.2 h.2)))
   subst x1
   go_wp2_with fail
   refine bodyPost_ret (v:=.tuple #[zG,.int .i64 4]) (by unfold zG; simp[results,Tryz.results169,go_sem,c0,c1,c2,c3,c4,c5,c6,c7,hn2,cell_alloc_lt]) rfl ⟨by rw[HN.out.1,HN.out.2],?_⟩
   exact Below.alloc ((((((((HF.out.setCell (p:=⟨w.heap.size+1,0,none⟩) (Nat.le_succ _) _).setCell (p:=⟨w.heap.size+1,1,none⟩) (Nat.le_succ _) _).setCell (p:=⟨w.heap.size+1,2,none⟩) (Nat.le_succ _) _).setCell (p:=⟨w.heap.size+1,3,none⟩) (Nat.le_succ _) _).setCell (p:=⟨w.heap.size+1,4,none⟩) (Nat.le_succ _) _).setCell (p:=⟨w.heap.size+1,5,none⟩) (Nat.le_succ _) _).setCell (p:=⟨w.heap.size+1,6,none⟩) (Nat.le_succ _) _).setCell (p:=⟨w.heap.size+1,7,none⟩) (Nat.le_succ _) _) (by simp only[setCell_size]; exact(HF.out.size)) _
 ·have hx1:(k1 != 0)=true:=by simpa using x1
  have HN:=Lib.hid (HO.out (fun h=>x1 (HK.out.1.2 h.1)))
  go_wp2_with fail
  refine bodyPost_ret (v:=.tuple #[zG,.int .i64 4]) (by unfold zG; simp[results,Tryz.results169,go_sem,c0,c1,c2,c3,c4,c5,c6,c7,hn2,cell_alloc_lt]) rfl ⟨by rw[HN.out.1,HN.out.2],?_⟩
  exact Below.alloc ((((((((HF.out.setCell (p:=⟨w.heap.size+1,0,none⟩) (Nat.le_succ _) _).setCell (p:=⟨w.heap.size+1,1,none⟩) (Nat.le_succ _) _).setCell (p:=⟨w.heap.size+1,2,none⟩) (Nat.le_succ _) _).setCell (p:=⟨w.heap.size+1,3,none⟩) (Nat.le_succ _) _).setCell (p:=⟨w.heap.size+1,4,none⟩) (Nat.le_succ _) _).setCell (p:=⟨w.heap.size+1,5,none⟩) (Nat.le_succ _) _).setCell (p:=⟨w.heap.size+1,6,none⟩) (Nat.le_succ _) _).setCell (p:=⟨w.heap.size+1,7,none⟩) (Nat.le_succ _) _) (by simp only[setCell_size]; exact(HF.out.size)) _
end Go.Proofs.YtplakbflfckldaaGreat
namespace Go.Proofs.YtplakbflfckldaaGreat
open Go.RowKit Tr
def PP(a b c d:Rat):Fact:=fun v w A=>∃ u1 u2 u3 u4,v=.agg #[u1,u2,u3,u4]∧RatP a u1 w A∧RatP b u2 w A∧RatP c u3 w A∧RatP d u4 w A
theorem PP.keeps(a b c d:Rat):(PP a b c d).Keeps:=fun v w w' A A' hs hk ⟨u1,u2,u3,u4,h0,h1,h2,h3,h4⟩=>⟨u1,u2,u3,u4,h0,RatP.keeps a _ _ _ _ _ hs hk h1,RatP.keeps b _ _ _ _ _ hs hk h2,RatP.keeps c _ _ _ _ _ hs hk h3,RatP.keeps d _ _ _ _ _ hs hk h4⟩
theorem put_p{a b c d:Rat}{v1 v2 v3 v4:Value}{w w1:World}{A:Nat→Prop}{n:Nat}(hb:Below w.heap.size w w1)(h1:RatP a v1 w1 (Mo A n))(h2:RatP b v2 w1 (Mo A n))(h3:RatP c v3 w1 (Mo A n))(h4:RatP d v4 w1 (Mo A n))(hn:w.heap.size≤n) :
  ∃ u,Ending.returned (.agg #[v1,v2,v3,v4])=.returned u∧Below w.heap.size w ((((w1.setCell ⟨n,0,none⟩ v1).setCell ⟨n,1,none⟩ v2).setCell ⟨n,2,none⟩ v3).setCell ⟨n,3,none⟩ v4)∧PP a b c d u ((((w1.setCell ⟨n,0,none⟩ v1).setCell ⟨n,1,none⟩ v2).setCell ⟨n,2,none⟩ v3).setCell ⟨n,3,none⟩ v4) A:=by
 refine⟨_,rfl,(((hb.setCell (p:=⟨n,0,none⟩) hn _).setCell (p:=⟨n,1,none⟩) hn _).setCell (p:=⟨n,2,none⟩) hn _).setCell (p:=⟨n,3,none⟩) hn _,v1,v2,v3,v4,rfl,?_,?_,?_,?_⟩
 ·exact more_less _ (RatP.keeps a) (keep_set _ (RatP.keeps a) (keep_set _ (RatP.keeps a) (keep_set _ (RatP.keeps a) (keep_set _ (RatP.keeps a) h1))))
 ·exact more_less _ (RatP.keeps b) (keep_set _ (RatP.keeps b) (keep_set _ (RatP.keeps b) (keep_set _ (RatP.keeps b) (keep_set _ (RatP.keeps b) h2))))
 ·exact more_less _ (RatP.keeps c) (keep_set _ (RatP.keeps c) (keep_set _ (RatP.keeps c) (keep_set _ (RatP.keeps c) (keep_set _ (RatP.keeps c) h3))))
 ·exact more_less _ (RatP.keeps d) (keep_set _ (RatP.keeps d) (keep_set _ (RatP.keeps d) (keep_set _ (RatP.keeps d) (keep_set _ (RatP.keeps d) h4))))
theorem noW_p(T:TypeId):NoW (.cells #[.pointer none,.pointer none,.pointer none,.pointer none] T (0,0)):=by
 intro cs T fr e i k x
 cases e
 rcases i with _|_|_|_|i<;>simp
set_option maxRecDepth 100000 in
theorem XPoint_any(inf n1 n2 n3 n4:Bool)(s1 s2 s3 s4:ByteArray)(hd1:inf=false→numS s2≠0)(hd2:inf=false→numS s4≠0)(l1:s1.size<274877906944)(l2:s2.size<274877906944)(l3:s3.size<274877906944)(l4:s4.size<274877906944)(A:Nat→Prop)(w:World)(hA:Rcv A w)
  (a b c:Rat) (ha:a=if inf then 1 else Rat.divInt (sgn n1 (numS s1)) (sgn n2 (numS s2))) (hb:b=if inf then 0 else Rat.divInt (sgn n3 (numS s3)) (sgn n4 (numS s4))) (hc:c=if inf then 0 else 1) :
  Calls Tryz.prog 104 #[.agg #[.bool inf,.bool n1,.string s1,.bool n2,.string s2,.bool n3,.string s3,.bool n4,.string s4]] w fun e w'=>∃ u,e=.returned u∧Below w.heap.size w w'∧PP a b c 0 u w' A:=by
 obtain⟨W0,hW0⟩:∃ W0,W0=w.alloc (.cells #[.bool inf,.bool n1,.string s1,.bool n2,.string s2,.bool n3,.string s3,.bool n4,.string s4] 38):=⟨_,rfl⟩
 have hz0:W0.heap.size=w.heap.size+1:=by rw[hW0]; simp
 obtain⟨W,hW⟩:∃ W,W=W0.alloc (.cells #[.pointer none,.pointer none,.pointer none,.pointer none] 177):=⟨_,rfl⟩
 have hb0:Below w.heap.size w W0:=by rw[hW0]; exact br.alloc (Nat.le_refl _) _
 have hb1:Below W0.heap.size W0 W:=by rw[hW]; exact br.alloc (Nat.le_refl _) _
 have hbW:=hb0.trans (hb1.mono hb0.size)
 have hn:=heap_alloc_new W0 (.cells #[.pointer none,.pointer none,.pointer none,.pointer none] 177 (0,0))
 have hR:Rcv (Mo A (w.heap.size+1)) W:=fun b h=>h.elim (fun h=>(hA.below hbW) b h) (fun h=>by subst h; rw[hz0,←hW] at hn; exact⟨_,hn,noW_p _⟩)
 have hcell:∀ i,W.cell? ⟨w.heap.size,i,none⟩=W0.cell? ⟨w.heap.size,i,none⟩:=fun i=>hb1.cell (p:=⟨w.heap.size,i,none⟩) (by show w.heap.size<_; omega)
 have e0:W.cell? ⟨w.heap.size,0,none⟩=some (.bool inf):=(hcell 0).trans (by rw[hW0]; simp[go_sem])
 have e1:W.cell? ⟨w.heap.size,1,none⟩=some (.bool n1):=(hcell 1).trans (by rw[hW0]; simp[go_sem])
 have e2:W.cell? ⟨w.heap.size,2,none⟩=some (.string s1):=(hcell 2).trans (by rw[hW0]; simp[go_sem])
 have e3:W.cell? ⟨w.heap.size,3,none⟩=some (.bool n2):=(hcell 3).trans (by rw[hW0]; simp[go_sem])
 have e4:W.cell? ⟨w.heap.size,4,none⟩=some (.string s2):=(hcell 4).trans (by rw[hW0]; simp[go_sem])
 have e5:W.cell? ⟨w.heap.size,5,none⟩=some (.bool n3):=(hcell 5).trans (by rw[hW0]; simp[go_sem])
 have e6:W.cell? ⟨w.heap.size,6,none⟩=some (.string s3):=(hcell 6).trans (by rw[hW0]; simp[go_sem])
 have e7:W.cell? ⟨w.heap.size,7,none⟩=some (.bool n4):=(hcell 7).trans (by rw[hW0]; simp[go_sem])
 have e8:W.cell? ⟨w.heap.size,8,none⟩=some (.string s4):=(hcell 8).trans (by rw[hW0]; simp[go_sem])
 have HV:=Lib.hid (And.intro (hW.trans (by rw[hW0])) (And.intro hbW (And.intro hR (fun w1 (h:Below W.heap.size W w1)=>new_four W0 (.pointer none) (.pointer none) (.pointer none) (.pointer none) 177 (w1:=w1) (by rw[←hW]; exact h)))))
 rw[hz0] at HV
 clear hcell hn hbW hb0 hb1 hR hW hW0 hA hz0
 cases inf
 ·have H1:=Lib.hid (XOf_any n1 n2 n3 n4 s1 s2 s3 s4 (hd1 rfl) (hd2 rfl) l1 l2 l3 l4 (Mo A (w.heap.size+1)) W HV.out.2.2.1)
  simp only[Bool.false_eq_true,if_false] at ha hb hc
  rw[←ha,←hb] at H1
  subst hc
  clear ha hb hd1 hd2
  go_enter Tryz.func104,Tryz.ntmps104
  go_wp2_with fail
  rw[←HV.out.1]
  go_wp2_with fail
  refine H1.out.mono ?_
  rintro e w1 ⟨v1,rfl,hb1,⟨y1,y2,rfl,j1,j2⟩⟩
  have H2:=Lib.hid (XInt_any 1 0 (by decide) (by decide) (by decide) (by decide) (Mo A (w.heap.size+1)) w1 (HV.out.2.2.1.below hb1))
  have HJ:=Lib.hid (And.intro j1 (And.intro j2 hb1))
  clear hb1 j1 j2 e0 e1 e2 e3 e4 e5 e6 e7 e8
  go_wp2_with fail
  refine H2.out.mono ?_
  rintro e w2 ⟨v2,rfl,hb2,⟨y3,y4,rfl,j3,j4⟩⟩
  have hbw:=HJ.out.2.2.trans (hb2.mono HJ.out.2.2.size)
  obtain⟨c0,c1,c2,c3,f0,f1,f2,f3⟩:=HV.out.2.2.2 w2 hbw
  have j1:=HJ.out.1.below hb2
  have j2:=HJ.out.2.1.below hb2
  have HE:=Lib.hid (And.intro j1 (And.intro j2 (And.intro j3 (And.intro j4 (HV.out.2.1.trans (hbw.mono HV.out.2.1.size))))))
  obtain⟨m1,rfl⟩:=j1.shape
  obtain⟨m2,rfl⟩:=j2.shape
  obtain⟨m3,rfl⟩:=j3.shape
  obtain⟨m4,rfl⟩:=j4.shape
  clear j1 j2 j3 j4 hbw hb2 H1 H2
  go_wp2_with fail
  refine bodyPost_ret (v:=.agg #[.pointer (some ⟨m1,0,none⟩),.pointer (some ⟨m2,0,none⟩),.pointer (some ⟨m3,0,none⟩),.pointer (some ⟨m4,0,none⟩)]) (by simp[results,Tryz.results104,go_sem,c0,c1,c2,c3]) rfl ?_
  exact put_p HE.out.2.2.2.2 HE.out.1 HE.out.2.1 HE.out.2.2.1 HE.out.2.2.2.1 (by omega)
 ·have H1:=Lib.hid (XInt_any 1 0 (by decide) (by decide) (by decide) (by decide) (Mo A (w.heap.size+1)) W HV.out.2.2.1)
  simp only[if_true] at ha hb hc
  subst ha hb hc
  clear hd1 hd2
  go_enter Tryz.func104,Tryz.ntmps104
  go_wp2_with fail
  rw[←HV.out.1]
  go_wp2_with fail
  refine H1.out.mono ?_
  rintro e w1 ⟨v1,rfl,hb1,⟨y1,y2,rfl,j1,j2⟩⟩
  have H2:=Lib.hid (XInt_any 0 0 (by decide) (by decide) (by decide) (by decide) (Mo A (w.heap.size+1)) w1 (HV.out.2.2.1.below hb1))
  have HJ:=Lib.hid (And.intro j1 (And.intro j2 hb1))
  clear hb1 j1 j2 e0 e1 e2 e3 e4 e5 e6 e7 e8
  go_wp2_with fail
  refine H2.out.mono ?_
  rintro e w2 ⟨v2,rfl,hb2,⟨y3,y4,rfl,j3,j4⟩⟩
  have hbw:=HJ.out.2.2.trans (hb2.mono HJ.out.2.2.size)
  obtain⟨c0,c1,c2,c3,f0,f1,f2,f3⟩:=HV.out.2.2.2 w2 hbw
  have j1:=HJ.out.1.below hb2
  have j2:=HJ.out.2.1.below hb2
  have HE:=Lib.hid (And.intro j1 (And.intro j2 (And.intro j3 (And.intro j4 (HV.out.2.1.trans (hbw.mono HV.out.2.1.size))))))
  obtain⟨m1,rfl⟩:=j1.shape
  obtain⟨m2,rfl⟩:=j2.shape
  obtain⟨m3,rfl⟩:=j3.shape
  obtain⟨m4,rfl⟩:=j4.shape
  clear j1 j2 j3 j4 hbw hb2 H1 H2
  go_wp2_with fail
  refine bodyPost_ret (v:=.agg #[.pointer (some ⟨m1,0,none⟩),.pointer (some ⟨m2,0,none⟩),.pointer (some ⟨m3,0,none⟩),.pointer (some ⟨m4,0,none⟩)]) (by simp[results,Tryz.results104,go_sem,c0,c1,c2,c3]) rfl ?_
  exact put_p HE.out.2.2.2.2 HE.out.1 HE.out.2.1 HE.out.2.2.1 HE.out.2.2.2.1 (by omega)
end Go.Proofs.YtplakbflfckldaaGreat
namespace Go.Proofs.YtplakbflfckldaaGreat
open Go.RowKit Tr
structure QC where
 re:Rat
 im:Rat
 deriving DecidableEq
namespace QC
instance:Mul QC:=⟨fun x y=>⟨x.re*y.re - x.im*y.im,x.re*y.im+x.im*y.re⟩⟩
instance:Add QC:=⟨fun x y=>⟨x.re+y.re,x.im+y.im⟩⟩
instance:Sub QC:=⟨fun x y=>⟨x.re - y.re,x.im - y.im⟩⟩
end QC
def ZL(z:QC)(k:Nat):Prop:=RL z.re k∧RL z.im k
theorem ZL.mono{z:QC}{k l:Nat}(h:ZL z k)(hl:k≤l):ZL z l:=⟨h.1.mono hl,h.2.mono hl⟩
theorem ZL_mul{x y:QC}{k l:Nat}(hx:ZL x k)(hy:ZL y l):ZL (x*y) (k+l+(k+l)+1):=⟨RL_sub (RL_mul hx.1 hy.1) (RL_mul hx.2 hy.2),RL_add (RL_mul hx.1 hy.2) (RL_mul hx.2 hy.1)⟩
theorem ZL_add{x y:QC}{k l:Nat}(hx:ZL x k)(hy:ZL y l):ZL (x+y) (k+l+1):=⟨RL_add hx.1 hy.1,RL_add hx.2 hy.2⟩
theorem ZL_sub{x y:QC}{k l:Nat}(hx:ZL x k)(hy:ZL y l):ZL (x - y) (k+l+1):=⟨RL_sub hx.1 hy.1,RL_sub hx.2 hy.2⟩
def CQ(z:QC):Fact:=CP z.re z.im
theorem CQ.keeps(z:QC):(CQ z).Keeps:=CP.keeps _ _
def PQ(x y:QC):Fact:=PP x.re x.im y.re y.im
theorem PQ.keeps(x y:QC):(PQ x y).Keeps:=PP.keeps _ _ _ _
theorem QMul_any(x y:QC)(v v':Value)(A:Nat→Prop)(w:World)(hv:CQ x v w A)(hv':CQ y v' w A)(hA:Rcv A w)(k l:Nat)(hx:ZL x k)(hy:ZL y l)(hkl:k+l+(k+l)<137438953472) :
  Calls Tryz.prog 163 #[v,v'] w fun e w'=>∃ u,e=.returned u∧Below w.heap.size w w'∧CQ (x*y) u w' A:=XMul_any _ _ _ _ v v' A w hv hv' hA k l hx.1 hx.2 hy.1 hy.2 hkl
theorem QAdd_any(x y:QC)(v v':Value)(A:Nat→Prop)(w:World)(hv:CQ x v w A)(hv':CQ y v' w A)(hA:Rcv A w)(k l:Nat)(hx:ZL x k)(hy:ZL y l)(hkl:k+l<137438953472) :
  Calls Tryz.prog 164 #[v,v'] w fun e w'=>∃ u,e=.returned u∧Below w.heap.size w w'∧CQ (x+y) u w' A:=XAdd_any _ _ _ _ v v' A w hv hv' hA k l hx.1 hx.2 hy.1 hy.2 hkl
theorem QSub_any(x y:QC)(v v':Value)(A:Nat→Prop)(w:World)(hv:CQ x v w A)(hv':CQ y v' w A)(hA:Rcv A w)(k l:Nat)(hx:ZL x k)(hy:ZL y l)(hkl:k+l<137438953472) :
  Calls Tryz.prog 201 #[v,v'] w fun e w'=>∃ u,e=.returned u∧Below w.heap.size w w'∧CQ (x - y) u w' A:=XSub_any _ _ _ _ v v' A w hv hv' hA k l hx.1 hx.2 hy.1 hy.2 hkl
end Go.Proofs.YtplakbflfckldaaGreat
namespace Go.Proofs.YtplakbflfckldaaGreat
open Go.RowKit Tr
set_option maxRecDepth 100000 in
theorem PSame_any(x1 y1 x2 y2:QC)(v v':Value)(A:Nat→Prop)(w:World)(hv:PQ x1 y1 v w A)(hv':PQ x2 y2 v' w A)(k l:Nat)(hx1:ZL x1 k)(hy1:ZL y1 k)(hx2:ZL x2 l)(hy2:ZL y2 l)(hkl:k+l+(k+l)+1+(l+k+(l+k)+1)<137438953472)(r:Bool)(hr:r=true↔x1*y2=x2*y1) :
  Calls Tryz.prog 161 #[v,v'] w fun e w'=>e=.returned (.bool r)∧Below w.heap.size w w':=by
 have hv:=Fact.Keeps.noA (PQ.keeps _ _) hv
 have hv':=Fact.Keeps.noA (PQ.keeps _ _) hv'
 obtain⟨u1,u2,u3,u4,rfl,g1,g2,g3,g4⟩:=id hv
 obtain⟨u5,u6,u7,u8,rfl,g5,g6,g7,g8⟩:=id hv'
 obtain⟨W0,hW0⟩:∃ W0,W0=w.alloc (.cells #[u1,u2,u3,u4] 177):=⟨_,rfl⟩
 have hz0:W0.heap.size=w.heap.size+1:=by rw[hW0]; simp
 obtain⟨W,hW⟩:∃ W,W=W0.alloc (.cells #[u5,u6,u7,u8] 177):=⟨_,rfl⟩
 have hb0:Below w.heap.size w W0:=by rw[hW0]; exact br.alloc (Nat.le_refl _) _
 have hb1:Below W0.heap.size W0 W:=by rw[hW]; exact br.alloc (Nat.le_refl _) _
 have hb:=hb0.trans (hb1.mono hb0.size)
 obtain⟨e0,e1,e2,e3,_⟩:=new_four w u1 u2 u3 u4 177 (w1:=W) (by rw[←hW0]; exact hb1)
 obtain⟨e4,e5,e6,e7,_⟩:=new_four W0 u5 u6 u7 u8 177 (w1:=W) (by rw[←hW]; exact Below.refl _ _)
 rw[hz0] at e4 e5 e6 e7
 have hs2:w.heap.size+1<W.heap.size:=by rw[hW]; simp; omega
 have hs1:w.heap.size<W.heap.size:=by omega
 have px1:=Fact.Keeps.below (CQ.keeps x1) hb (show(CQ x1) (.agg #[u1,u2]) w NoA from⟨_,_,rfl,g1,g2⟩)
 have py1:=Fact.Keeps.below (CQ.keeps y1) hb (show(CQ y1) (.agg #[u3,u4]) w NoA from⟨_,_,rfl,g3,g4⟩)
 have px2:=Fact.Keeps.below (CQ.keeps x2) hb (show(CQ x2) (.agg #[u5,u6]) w NoA from⟨_,_,rfl,g5,g6⟩)
 have py2:=Fact.Keeps.below (CQ.keeps y2) hb (show(CQ y2) (.agg #[u7,u8]) w NoA from⟨_,_,rfl,g7,g8⟩)
 have HV:=Lib.hid (And.intro (hW.trans (by rw[hW0])) (And.intro hb hr))
 clear hv hv' hr hb hb0 hb1 hW hW0 hz0 g1 g2 g3 g4 g5 g6 g7 g8
 go_enter Tryz.func161,Tryz.ntmps161
 go_wp2_with fail
 rw[←HV.out.1]
 refine wp_region_inv [(.lit,[]),(.lit,[]),(.lit,[]),(.lit,[]),(.val,[]),(.lit,[]),(.lit,[]),(.lit,[]),(.lit,[]),(.val,[]),(.val,[4,9])]
  (pickF [(4,CQ (x1*y2)),(9,CQ (x2*y1)),(10,fun v _ _=>v=.bool r)]) (by kernel_rfl) ?_ ?_ (by simp) (by simp) (by kernel_rfl)
 ·exact keeps_pick (by simp only[List.mem_cons,List.not_mem_nil,or_false]; rintro p (rfl|rfl|rfl); exact CQ.keeps _; exact CQ.keeps _; exact fun _ _ _ _ _ _ _ h=>h)
 ·repeat (refine⟨_,fun f w1 h1=>by(have d0:=ct h1 hs1 e0; have d1:=ct h1 hs1 e1; have d2:=ct h1 hs1 e2; have d3:=ct h1 hs1 e3; have d4:=ct h1 hs2 e4; have d5:=ct h1 hs2 e5; have d6:=ct h1 hs2 e6; have d7:=ct h1 hs2 e7; go_simp; rfl),?_⟩)
  simp only[Act.put,nrA,nrB,nrC,Nat.reduceAdd]
  refine⟨fun f w1 A1 k1 hA hN hd K hK=>by
   go_simp
   refine(QMul_any x1 y2 _ _ A1 w1 (later (CQ.keeps _) px1 k1 hN) (later (CQ.keeps _) py2 k1 hN) hA k l hx1 hy2 (by omega)).mono ?_
   rintro e w' ⟨v,rfl,hb,hr⟩
   exact hK _ _ hb hr,?_⟩
  repeat (refine⟨_,fun f w1 h1=>by(have d0:=ct h1 hs1 e0; have d1:=ct h1 hs1 e1; have d2:=ct h1 hs1 e2; have d3:=ct h1 hs1 e3; have d4:=ct h1 hs2 e4; have d5:=ct h1 hs2 e5; have d6:=ct h1 hs2 e6; have d7:=ct h1 hs2 e7; go_simp; rfl),?_⟩)
  simp only[Act.put,nrA,nrB,nrC,Nat.reduceAdd]
  refine⟨fun f w1 A1 k1 hA hN hd K hK=>by
   go_simp
   refine(QMul_any x2 y1 _ _ A1 w1 (later (CQ.keeps _) px2 k1 hN) (later (CQ.keeps _) py1 k1 hN) hA l k hx2 hy1 (by omega)).mono ?_
   rintro e w' ⟨v,rfl,hb,hr⟩
   exact hK _ _ hb hr,?_⟩
  simp only[Act.put,nrA,nrB,nrC,Nat.reduceAdd]
  refine⟨fun f w1 A1 k1 hA hN hd K hK=>by
   have i4:CQ (x1*y2) (f 4) w1 A1:=hd 4 (by simp)
   have i9:CQ (x2*y1) (f 9) w1 A1:=hd 9 (by simp)
   go_simp
   refine(XSame_any _ _ _ _ _ _ A1 w1 i4 i9 _ _ (ZL_mul hx1 hy2).1 (ZL_mul hx1 hy2).2 (ZL_mul hx2 hy1).1 (ZL_mul hx2 hy1).2 hkl r (by rw[HV.out.2.2]; constructor; intro h; rw[h]; exact⟨rfl,rfl⟩; rintro⟨h,h'⟩; generalize x1*y2=p at *; generalize x2*y1=q at *; cases p; cases q; simp_all)).mono ?_
   rintro e w' ⟨rfl,hb⟩
   exact hK _ _ hb rfl,?_⟩
  intro f w1 k1 hF
  have i8:f 10=.bool r:=hF.2
  clear hF
  simp only[Act.put,nrA,nrB,nrC]
  rw[i8]
  generalize f 4=z4
  generalize f 9=z9
  have HB:=Lib.hid (HV.out.2.1.trans ((br.drew.trans k1).mono HV.out.2.1.size))
  clear e0 e1 e2 e3 e4 e5 e6 e7 k1 px1 px2 py1 py2 i8
  go_wp2
  go_ret
  exact⟨rfl,HB.out⟩
set_option maxRecDepth 100000 in
theorem Infinity_any(w:World):Calls Tryz.prog 101 #[] w fun e w'=>e=.returned (.agg #[.bool true,.bool false,.string ⟨#[]⟩,.bool false,.string ⟨#[]⟩,.bool false,.string ⟨#[]⟩,.bool false,.string ⟨#[]⟩])∧Below w.heap.size w w':=by
 have HB:=Lib.hid (show Below w.heap.size w (w.alloc (.cells #[.bool true,.bool false,.string ⟨#[]⟩,.bool false,.string ⟨#[]⟩,.bool false,.string ⟨#[]⟩,.bool false,.string ⟨#[]⟩] 38)) from br.alloc (Nat.le_refl _) _)
 go_enter Tryz.func101,Tryz.ntmps101
 go_wp2_with fail
 refine bodyPost_ret (v:=.agg #[.bool true,.bool false,.string ⟨#[]⟩,.bool false,.string ⟨#[]⟩,.bool false,.string ⟨#[]⟩,.bool false,.string ⟨#[]⟩]) (by simp[results,Tryz.results101,go_sem]) rfl ⟨rfl,?_⟩
 exact HB.out
end Go.Proofs.YtplakbflfckldaaGreat
