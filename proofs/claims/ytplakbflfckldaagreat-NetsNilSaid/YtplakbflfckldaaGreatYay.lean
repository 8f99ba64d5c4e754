/- Laws for the walk. -/
import Derived.Test.YtplakbflfckldaaGreatYax
import Derived.ChangeKeysEq
set_option linter.unusedVariables false
set_option maxHeartbeats 4000000
namespace Go.Proofs.YtplakbflfckldaaGreat
open Go.RowKit Tr
theorem sq_nonneg(a:Rat):0≤a*a:=by
 rcases Rat.nonneg_total a with h|h
 ·exact Rat.mul_nonneg h h
 ·have:=Rat.mul_nonneg h h
  rwa[Rat.neg_mul,Rat.mul_neg,Rat.neg_neg] at this
theorem sq_zero{a b:Rat}(h:a*a+b*b=0):a=0:=by
 have h1:-(a*a)=b*b:=by
  have:-(a*a)+(a*a+b*b)=-(a*a)+0:=by rw[h]
  rw[←Rat.add_assoc,Rat.neg_add_cancel,Rat.zero_add,Rat.add_zero] at this
  exact this.symm
 have h2:=Rat.nonneg_antisymm (sq_nonneg a) (by rw[h1]; exact sq_nonneg b)
 rcases Rat.mul_eq_zero.1 h2 with h|h<;>exact h
theorem norm_zero{a b:Rat}:a*a+b*b=0↔a=0∧b=0:=by
 constructor
 ·intro h; exact⟨sq_zero h,sq_zero (by rw[Rat.add_comm]; exact h)⟩
 ·rintro⟨rfl,rfl⟩; decide +kernel
instance:Div QC:=⟨fun x y=>⟨(x.re*y.re - x.im*(-y.im))*(y.re*y.re+y.im*y.im)⁻¹,(x.re*(-y.im)+x.im*y.re)*(y.re*y.re+y.im*y.im)⁻¹⟩⟩
theorem ZL_div{x y:QC}{k l:Nat}(h0:y.re*y.re+y.im*y.im≠0)(hx:ZL x k)(hy:ZL y l):ZL (x / y) (k+l+(k+l)+1+(l+l+(l+l)+1)):=by
 have li:RL (y.re*y.re+y.im*y.im)⁻¹ (l+l+(l+l)+1):=RL_inv h0 (RL_add (RL_mul hy.1 hy.1) (RL_mul hy.2 hy.2))
 exact⟨RL_mul (RL_sub (RL_mul hx.1 hy.1) (RL_mul hx.2 (RL_neg hy.2))) li,RL_mul (RL_add (RL_mul hx.1 (RL_neg hy.2)) (RL_mul hx.2 hy.1)) li⟩
def infP:Value:=.agg #[.bool true,.bool false,.string ⟨#[]⟩,.bool false,.string ⟨#[]⟩,.bool false,.string ⟨#[]⟩,.bool false,.string ⟨#[]⟩]
def zP:Value:=.agg #[.bool false,.bool false,.string ⟨#[]⟩,.bool false,.string ⟨#[]⟩,.bool false,.string ⟨#[]⟩,.bool false,.string ⟨#[]⟩]
def encPt(z:QC):Value:=.agg #[.bool false,.bool (decide (z.re.num<0)),.string (strN z.re.num.natAbs),.bool false,.string (strN z.re.den),.bool (decide (z.im.num<0)),.string (strN z.im.num.natAbs),.bool false,.string (strN z.im.den)]
def outP(x y:QC):Value:=if y=⟨0,0⟩ then infP else if ShortF (x / y).re∧ShortF (x / y).im then encPt (x / y) else zP
def outPC(x y:QC):Int:=if y=⟨0,0⟩ then 0 else if ShortF (x / y).re∧ShortF (x / y).im then 0 else 4
theorem new_nine(w:World)(x0 x1 x2 x3 x4 x5 x6 x7 x8:Value)(T:TypeId){w1:World}(h:Below (w.alloc (.cells #[x0,x1,x2,x3,x4,x5,x6,x7,x8] T)).heap.size (w.alloc (.cells #[x0,x1,x2,x3,x4,x5,x6,x7,x8] T)) w1) :
  (w1.cell? ⟨w.heap.size,0,none⟩=some x0∧w1.cell? ⟨w.heap.size,1,none⟩=some x1∧w1.cell? ⟨w.heap.size,2,none⟩=some x2∧w1.cell? ⟨w.heap.size,3,none⟩=some x3∧w1.cell? ⟨w.heap.size,4,none⟩=some x4∧w1.cell? ⟨w.heap.size,5,none⟩=some x5∧w1.cell? ⟨w.heap.size,6,none⟩=some x6∧w1.cell? ⟨w.heap.size,7,none⟩=some x7∧w1.cell? ⟨w.heap.size,8,none⟩=some x8) ∧
  w1.frozen? ⟨w.heap.size,0,none⟩=false∧w1.frozen? ⟨w.heap.size,1,none⟩=false∧w1.frozen? ⟨w.heap.size,2,none⟩=false∧w1.frozen? ⟨w.heap.size,3,none⟩=false∧w1.frozen? ⟨w.heap.size,4,none⟩=false∧w1.frozen? ⟨w.heap.size,5,none⟩=false∧w1.frozen? ⟨w.heap.size,6,none⟩=false∧w1.frozen? ⟨w.heap.size,7,none⟩=false∧w1.frozen? ⟨w.heap.size,8,none⟩=false:=by
 have e:=(h.block w.heap.size (by simp)).trans (heap_alloc_new w _)
 simp[World.cell?,World.frozen?,e]
theorem outG_eight(a b:Rat):∃ b1 t1 b2 t2 b3 t3 b4 t4,outG a b=.agg #[.bool b1,.string t1,.bool b2,.string t2,.bool b3,.string t3,.bool b4,.string t4]:=by
 unfold outG
 split
 ·exact⟨_,_,_,_,_,_,_,_,rfl⟩
 ·exact⟨_,_,_,_,_,_,_,_,rfl⟩
theorem outP_short{x y:QC}(h0:y≠⟨0,0⟩)(hc:outGC (x / y).re (x / y).im=0){b1 b2 b3 b4:Bool}{t1 t2 t3 t4:ByteArray}(e:outG (x / y).re (x / y).im=.agg #[.bool b1,.string t1,.bool b2,.string t2,.bool b3,.string t3,.bool b4,.string t4]) :
  outP x y=.agg #[.bool false,.bool b1,.string t1,.bool b2,.string t2,.bool b3,.string t3,.bool b4,.string t4]∧outPC x y=0:=by
 have hs:ShortF (x / y).re∧ShortF (x / y).im:=by
  unfold outGC at hc
  split at hc
  ·assumption
  ·cases hc
 unfold outP outPC
 rw[if_neg h0,if_neg h0,if_pos hs,if_pos hs]
 refine⟨?_,rfl⟩
 unfold outG encG at e
 rw[if_pos hs] at e
 unfold encPt
 simp only[Value.agg.injEq,Array.mk.injEq,List.cons.injEq,Value.bool.injEq,Value.string.injEq,and_true,true_and] at e ⊢
 exact e
theorem outP_long{x y:QC}(h0:y≠⟨0,0⟩)(hc:outGC (x / y).re (x / y).im≠0):outP x y=zP∧outPC x y=4∧outGC (x / y).re (x / y).im=4:=by
 have hs:¬(ShortF (x / y).re∧ShortF (x / y).im):=fun h=>hc (by unfold outGC; rw[if_pos h])
 unfold outP outPC outGC
 rw[if_neg h0,if_neg h0,if_neg hs,if_neg hs]
 exact⟨rfl,rfl,rfl⟩
set_option maxRecDepth 100000 in
theorem PPoint_any(x y:QC)(v:Value)(A:Nat→Prop)(w:World)(hv:PQ x y v w A)(k l:Nat)(hx:ZL x k)(hy:ZL y l)(hkl:(k+l+(k+l)+1)+(l+l+(l+l)+1)<137438953472) :
  Calls Tryz.prog 106 #[v] w fun e w'=>e=.returned (.tuple #[outP x y,.int .i64 (outPC x y)])∧Below w.heap.size w w':=by
 have hv:=Fact.Keeps.noA (PQ.keeps _ _) hv
 obtain⟨u1,u2,u3,u4,rfl,g1,g2,g3,g4⟩:=id hv
 obtain⟨W0,hW0⟩:∃ W0,W0=w.alloc (.cells #[u1,u2,u3,u4] 177):=⟨_,rfl⟩
 have hz0:W0.heap.size=w.heap.size+1:=by rw[hW0]; simp
 obtain⟨W,hW⟩:∃ W,W=W0.alloc (.cells #[.bool false,.bool false,.string ⟨#[]⟩,.bool false,.string ⟨#[]⟩,.bool false,.string ⟨#[]⟩,.bool false,.string ⟨#[]⟩] 38):=⟨_,rfl⟩
 have hb0:Below w.heap.size w W0:=by rw[hW0]; exact br.alloc (Nat.le_refl _) _
 have hb1:Below W0.heap.size W0 W:=by rw[hW]; exact br.alloc (Nat.le_refl _) _
 have hb:=hb0.trans (hb1.mono hb0.size)
 have hlt:w.heap.size<W.heap.size:=by have:=hb1.size; omega
 have hcs:=fun w1 (h:Below W.heap.size W w1)=>new_four w u1 u2 u3 u4 177 (w1:=w1) (by rw[←hW0]; exact hb1.trans (h.mono hb1.size))
 have px:=Fact.Keeps.below (CQ.keeps x) hb (show(CQ x) (.agg #[u1,u2]) w NoA from⟨_,_,rfl,g1,g2⟩)
 have py:=Fact.Keeps.below (CQ.keeps y) hb (show(CQ y) (.agg #[u3,u4]) w NoA from⟨_,_,rfl,g3,g4⟩)
 obtain⟨rz,hrz⟩:∃ rz,rz=decide (y.re=0∧y.im=0):=⟨_,rfl⟩
 have HZ:=Lib.hid (XZero_any y.re y.im (.agg #[u3,u4]) NoA W py rz (by rw[hrz]; simp))
 have HV:=Lib.hid (And.intro (hW.trans (by rw[hW0])) (And.intro hb (And.intro (fun w1 (h:Below W.heap.size W w1)=>new_nine W0 _ _ _ _ _ _ _ _ _ _ (w1:=w1) (by rw[←hW]; exact h)) (And.intro hcs (And.intro px py)))))
 rw[hz0] at HV
 obtain⟨e0,e1,e2,e3,_⟩:=hcs W br
 have HR:=Lib.hid hrz
 clear hv hb hb0 hb1 hW hW0 hz0 g1 g2 g3 g4 px py hcs hrz
 go_enter Tryz.func106,Tryz.ntmps106
 go_wp2_with fail
 rw[←HV.out.1]
 go_wp2_with fail
 refine HZ.out.mono ?_
 rintro e w1 ⟨rfl,hb1⟩
 obtain⟨e0,e1,e2,e3,_⟩:=HV.out.2.2.2.1 w1 hb1
 cases rz
 ·have hne:¬(y.re=0∧y.im=0):=of_decide_eq_false HR.out.symm
  have hn0:y.re*y.re+y.im*y.im≠0:=fun h=>hne (norm_zero.1 h)
  have hy0:y≠⟨0,0⟩:=fun h=>hne (by rw[h]; exact⟨rfl,rfl⟩)
  have HD:=Lib.hid (XDiv_any x.re x.im y.re y.im _ rfl hn0 (.agg #[u1,u2]) (.agg #[u3,u4]) NoA w1 (CP.below HV.out.2.2.2.2.1 hb1) (CP.below HV.out.2.2.2.2.2 hb1) (rcv_noA _) k l hx.1 hx.2 hy.1 hy.2 hkl)
  have HN:=Lib.hid (And.intro hn0 (And.intro hy0 hb1))
  clear hne hn0 hy0 hb1 HZ
  go_wp2_with fail
  refine HD.out.mono ?_
  rintro e w2 ⟨v2,rfl,hb2,hc2⟩
  have hb02:=HN.out.2.2.trans (hb2.mono HN.out.2.2.size)
  have HG:=Lib.hid (XGauss_any (x / y).re (x / y).im v2 NoA w2 hc2 ((ZL_div HN.out.1 hx hy).1.mono (by omega)) ((ZL_div HN.out.1 hx hy).2.mono (by omega)))
  obtain⟨b1,t1,b2,t2,b3,t3,b4,t4,eg⟩:=outG_eight (x / y).re (x / y).im
  obtain⟨kc,hkc⟩:∃ kc,kc=outGC (x / y).re (x / y).im:=⟨_,rfl⟩
  rw[eg,←hkc] at HG
  have HK:=Lib.hid (And.intro eg hkc)
  have HB2:=Lib.hid hb02
  clear hc2 hb2 hb02 eg hkc HD e0 e1 e2 e3
  go_wp2_with fail
  refine HG.out.mono ?_
  rintro e w3 ⟨rfl,hb3⟩
  have hbw:=HB2.out.trans (hb3.mono HB2.out.size)
  obtain⟨⟨c0,c1,c2,c3,c4,c5,c6,c7,c8⟩,f0,f1,f2,f3,f4,f5,f6,f7,f8⟩:=HV.out.2.2.1 w3 hbw
  have hn2:w.heap.size+1<w3.heap.size:=by
   have h1:=hbw.size
   have h2:W.heap.size=w.heap.size+2:=by rw[HV.out.1]; simp
   omega
  have HF:=Lib.hid (HV.out.2.1.trans (hbw.mono HV.out.2.1.size))
  clear hb3 hbw HG
  by_cases ck:kc=0
  ·have HP:=Lib.hid (outP_short HN.out.2.1 (HK.out.2.symm.trans ck) HK.out.1)
   subst ck
   go_wp2_with fail
   refine bodyPost_ret (v:=.tuple #[.agg #[.bool false,.bool b1,.string t1,.bool b2,.string t2,.bool b3,.string t3,.bool b4,.string t4],.int .i64 0]) (by simp[results,Tryz.results106,go_sem,c0,c1,c2,c3,c4,c5,c6,c7,c8,hn2,cell_alloc_lt]) rfl ⟨by rw[HP.out.1,HP.out.2],?_⟩
   exact Below.alloc (((((((((HF.out.setCell (p:=⟨w.heap.size+1,0,none⟩) (Nat.le_succ _) _).setCell (p:=⟨w.heap.size+1,1,none⟩) (Nat.le_succ _) _).setCell (p:=⟨w.heap.size+1,2,none⟩) (Nat.le_succ _) _).setCell (p:=⟨w.heap.size+1,3,none⟩) (Nat.le_succ _) _).setCell (p:=⟨w.heap.size+1,4,none⟩) (Nat.le_succ _) _).setCell (p:=⟨w.heap.size+1,5,none⟩) (Nat.le_succ _) _).setCell (p:=⟨w.heap.size+1,6,none⟩) (Nat.le_succ _) _).setCell (p:=⟨w.heap.size+1,7,none⟩) (Nat.le_succ _) _).setCell (p:=⟨w.heap.size+1,8,none⟩) (Nat.le_succ _) _) (by simp only[setCell_size]; exact HF.out.size) _
  ·have HP:=Lib.hid (outP_long HN.out.2.1 (fun h=>ck (HK.out.2.trans h)))
   have hk4:kc=4:=HK.out.2.trans HP.out.2.2
   subst hk4
   go_wp2_with fail
   refine bodyPost_ret (v:=.tuple #[zP,.int .i64 4]) (by unfold zP; simp[results,Tryz.results106,go_sem,c0,c1,c2,c3,c4,c5,c6,c7,c8,hn2,cell_alloc_lt]) rfl ⟨by rw[HP.out.1,HP.out.2.1],?_⟩
   exact Below.alloc (((((((((HF.out.setCell (p:=⟨w.heap.size+1,0,none⟩) (Nat.le_succ _) _).setCell (p:=⟨w.heap.size+1,1,none⟩) (Nat.le_succ _) _).setCell (p:=⟨w.heap.size+1,2,none⟩) (Nat.le_succ _) _).setCell (p:=⟨w.heap.size+1,3,none⟩) (Nat.le_succ _) _).setCell (p:=⟨w.heap.size+1,4,none⟩) (Nat.le_succ _) _).setCell (p:=⟨w.heap.size+1,5,none⟩) (Nat.le_succ _) _).setCell (p:=⟨w.heap.size+1,6,none⟩) (Nat.le_succ _) _).setCell (p:=⟨w.heap.size+1,7,none⟩) (Nat.le_succ _) _).setCell (p:=⟨w.heap.size+1,8,none⟩) (Nat.le_succ _) _) (by simp only[setCell_size]; exact HF.out.size) _
 ·have hB1:=Lib.hid hb1
  have H1:=Lib.hid (Infinity_any w1)
  clear hb1
  go_wp2_with fail
  refine H1.out.mono ?_
  rintro e w2 ⟨rfl,hb2⟩
  have hbw:=hB1.out.trans (hb2.mono hB1.out.size)
  obtain⟨⟨c0,c1,c2,c3,c4,c5,c6,c7,c8⟩,f0,f1,f2,f3,f4,f5,f6,f7,f8⟩:=HV.out.2.2.1 w2 hbw
  have HF:=Lib.hid (HV.out.2.1.trans (hbw.mono HV.out.2.1.size))
  clear hb2 hbw e0 e1 e2 e3
  go_wp2_with fail
  refine bodyPost_ret (v:=.tuple #[infP,.int .i64 0]) (by unfold infP; simp[results,Tryz.results106,go_sem,c0,c1,c2,c3,c4,c5,c6,c7,c8]) rfl ⟨?_,?_⟩
  ·have hy0:y=⟨0,0⟩:=by
    have:=of_decide_eq_true HR.out.symm
    obtain⟨re,im⟩:=y
    obtain⟨h1,h2⟩:=this
    simp only at h1 h2
    rw[h1,h2]
   unfold outP outPC
   rw[if_pos hy0,if_pos hy0]
  ·exact(((((((((HF.out.setCell (p:=⟨w.heap.size+1,0,none⟩) (Nat.le_succ _) _).setCell (p:=⟨w.heap.size+1,1,none⟩) (Nat.le_succ _) _).setCell (p:=⟨w.heap.size+1,2,none⟩) (Nat.le_succ _) _).setCell (p:=⟨w.heap.size+1,3,none⟩) (Nat.le_succ _) _).setCell (p:=⟨w.heap.size+1,4,none⟩) (Nat.le_succ _) _).setCell (p:=⟨w.heap.size+1,5,none⟩) (Nat.le_succ _) _).setCell (p:=⟨w.heap.size+1,6,none⟩) (Nat.le_succ _) _).setCell (p:=⟨w.heap.size+1,7,none⟩) (Nat.le_succ _) _).setCell (p:=⟨w.heap.size+1,8,none⟩) (Nat.le_succ _) _)
end Go.Proofs.YtplakbflfckldaaGreat
namespace Go.Proofs.YtplakbflfckldaaGreat
open Go.RowKit Tr
def encQ(z:QC):Value:=encG z.re z.im
abbrev Pt:=Option QC
def encP:Pt→Value
 | none=>infP
 | some z=>encPt z
def ptX:Pt→QC
 | none=>⟨1,0⟩
 | some z=>z
def ptY:Pt→QC
 | none=>⟨0,0⟩
 | some _=>⟨1,0⟩
def ShortZ(z:QC):Prop:=ShortF z.re∧ShortF z.im
def ShortP:Pt→Prop
 | none=>True
 | some z=>ShortZ z
theorem RL_short{q:Rat}(h:ShortF q):RL q 1024:=by
 refine⟨?_,?_⟩
 ·exact Nat.le_trans (wl_size (numS_strN _)) h.1
 ·exact Nat.le_trans (wl_size (numS_strN _)) h.2
theorem RL_zero:RL 0 1024:=(RL_i64 0 (by decide) (by decide)).mono (by decide)
theorem RL_one:RL 1 1024:=(RL_i64 1 (by decide) (by decide)).mono (by decide)
theorem ZL_short{z:QC}(h:ShortZ z):ZL z 1024:=⟨RL_short h.1,RL_short h.2⟩
theorem ZL_ptX{p:Pt}(h:ShortP p):ZL (ptX p) 1024:=by
 cases p with
 | none=>exact⟨RL_one,RL_zero⟩
 | some z=>exact ZL_short h
theorem ZL_ptY(p:Pt):ZL (ptY p) 1024:=by
 cases p with
 | none=>exact⟨RL_zero,RL_zero⟩
 | some z=>exact⟨RL_one,RL_zero⟩
end Go.Proofs.YtplakbflfckldaaGreat
namespace Go.Proofs.YtplakbflfckldaaGreat
open Go.RowKit Tr
structure RawG where
 (n1 n2 n3 n4:Bool)
 (s1 s2 s3 s4:ByteArray)
def RawG.val(g:RawG):Value:=.agg #[.bool g.n1,.string g.s1,.bool g.n2,.string g.s2,.bool g.n3,.string g.s3,.bool g.n4,.string g.s4]
def RawG.cells(g:RawG):List GF:=[gx (.bool g.n1),gx (.string g.s1),gx (.bool g.n2),gx (.string g.s2),gx (.bool g.n3),gx (.string g.s3),gx (.bool g.n4),gx (.string g.s4)]
structure RawP where
 i:Bool
 g:RawG
def RawP.val(p:RawP):Value:=.agg #[.bool p.i,.bool p.g.n1,.string p.g.s1,.bool p.g.n2,.string p.g.s2,.bool p.g.n3,.string p.g.s3,.bool p.g.n4,.string p.g.s4]
def RawP.cells(p:RawP):List GF:=gx (.bool p.i) :: p.g.cells
def pA(i:Nat):List AC:=[.sym i,.sym (i+1),.sym (i+2),.sym (i+3),.sym (i+4),.sym (i+5),.sym (i+6),.sym (i+7),.sym (i+8)]
def GOk(v:Value):Prop:=∃ z:QC,v=encQ z∧ShortZ z
def POk(v:Value):Prop:=∃ p:Pt,v=encP p∧ShortP p
theorem gOk_iff(g:RawG):GOk g.val↔FracOk (.agg #[.bool g.n1,.string g.s1,.bool g.n2,.string g.s2])∧FracOk (.agg #[.bool g.n3,.string g.s3,.bool g.n4,.string g.s4]):=by
 constructor
 ·rintro⟨z,e,h1,h2⟩
  unfold RawG.val encQ encG at e
  simp only[Value.agg.injEq,Array.mk.injEq,List.cons.injEq,Value.bool.injEq,Value.string.injEq,and_true] at e
  obtain⟨e1,e2,e3,e4,e5,e6,e7,e8⟩:=e
  exact⟨⟨z.re,by unfold encF; rw[e1,e2,e3,e4],h1⟩,⟨z.im,by unfold encF; rw[e5,e6,e7,e8],h2⟩⟩
 ·rintro⟨⟨a,e,h1⟩,⟨b,f,h2⟩⟩
  obtain⟨e1,e2,e3,e4⟩:=encF_parts e
  obtain⟨f1,f2,f3,f4⟩:=encF_parts f
  refine⟨⟨a,b⟩,?_,h1,h2⟩
  unfold RawG.val encQ encG
  rw[e1,e2,e3,e4,f1,f2,f3,f4]
theorem pOk_num{p:RawP}(h:p.i=false):POk p.val↔GOk p.g.val:=by
 constructor
 ·rintro⟨q,e,hs⟩
  cases q with
  | none =>
   have e':p.val=infP:=e
   unfold RawP.val infP at e'
   simp[h] at e'
  | some z =>
   have e':p.val=encPt z:=e
   refine⟨z,?_,hs⟩
   unfold RawP.val encPt at e'
   unfold RawG.val encQ encG
   simp only[Value.agg.injEq,Array.mk.injEq,List.cons.injEq,Value.bool.injEq,Value.string.injEq,and_true] at e' ⊢
   exact e'.2
 ·rintro⟨z,e,hs⟩
  refine⟨some z,?_,hs⟩
  show p.val=encPt z
  unfold RawP.val encPt
  unfold RawG.val encQ encG at e
  simp only[Value.agg.injEq,Array.mk.injEq,List.cons.injEq,Value.bool.injEq,Value.string.injEq,and_true] at e ⊢
  exact⟨h,e⟩
theorem pOk_inf{p:RawP}(h:p.i=true):POk p.val↔p.val=infP:=by
 constructor
 ·rintro⟨q,e,hs⟩
  cases q with
  | none=>exact e
  | some z =>
   have e':p.val=encPt z:=e
   unfold RawP.val encPt at e'
   simp[h] at e'
 ·intro e; exact⟨none,e,trivial⟩
set_option maxRecDepth 100000 in
theorem run_eql_rp(w:World)(p q:RawP)(r:Bool)(hr:r=true↔p.val=q.val):(binOp .eql 38 p.val q.val).run Tryz.prog w=.ok (.bool r) w:=by
 obtain⟨i,n1,n2,n3,n4,s1,s2,s3,s4⟩:=p
 obtain⟨j,m1,m2,m3,m4,t1,t2,t3,t4⟩:=q
 simp only[RawP.val] at hr ⊢
 simp only[Value.agg.injEq,Array.mk.injEq,List.cons.injEq,Value.bool.injEq,Value.string.injEq,and_true] at hr
 go_simp
 simp only[toL_iff]
 cases r
 ·have hn:¬(i=j∧n1=m1∧s1=t1∧n2=m2∧s2=t2∧n3=m3∧s3=t3∧n4=m4∧s4=t4):=fun h=>by cases hr.2 h
  repeat' split
  all_goals first
   | rfl
   | (exfalso; apply hn; refine⟨?_,?_,?_,?_,?_,?_,?_,?_,?_⟩<;>assumption)
 ·obtain⟨rfl,rfl,rfl,rfl,rfl,rfl,rfl,rfl,rfl⟩:=hr.1 rfl
  simp
set_option maxRecDepth 100000 in
theorem run_eql_rg(w:World)(p q:RawG)(r:Bool)(hr:r=true↔p.val=q.val):(binOp .eql 36 p.val q.val).run Tryz.prog w=.ok (.bool r) w:=by
 obtain⟨n1,n2,n3,n4,s1,s2,s3,s4⟩:=p
 obtain⟨m1,m2,m3,m4,t1,t2,t3,t4⟩:=q
 simp only[RawG.val] at hr ⊢
 simp only[Value.agg.injEq,Array.mk.injEq,List.cons.injEq,Value.bool.injEq,Value.string.injEq,and_true] at hr
 go_simp
 simp only[toL_iff]
 cases r
 ·have hn:¬(n1=m1∧s1=t1∧n2=m2∧s2=t2∧n3=m3∧s3=t3∧n4=m4∧s4=t4):=fun h=>by cases hr.2 h
  repeat' split
  all_goals first
   | rfl
   | (exfalso; apply hn; refine⟨?_,?_,?_,?_,?_,?_,?_,?_⟩<;>assumption)
 ·obtain⟨rfl,rfl,rfl,rfl,rfl,rfl,rfl,rfl⟩:=hr.1 rfl
  simp
def rawQ(z:QC):RawG:=⟨decide (z.re.num<0),false,decide (z.im.num<0),false,strN z.re.num.natAbs,strN z.re.den,strN z.im.num.natAbs,strN z.im.den⟩
theorem rawQ_val(z:QC):(rawQ z).val=encQ z:=rfl
def rawPt:Pt→RawP
 | none=>⟨true,⟨false,false,false,false,⟨#[]⟩,⟨#[]⟩,⟨#[]⟩,⟨#[]⟩⟩⟩
 | some z=>⟨false,rawQ z⟩
theorem rawPt_val(p:Pt):(rawPt p).val=encP p:=by cases p<;>rfl
theorem encF_inj'{x y:Rat}(h:encF x=encF y):x=y:=by
 have:=h
 unfold encF at h
 simp only[Value.agg.injEq,Array.mk.injEq,List.cons.injEq,Value.bool.injEq,Value.string.injEq,and_true,true_and] at h
 obtain⟨h1,h2,h3⟩:=h
 have e2:=strN_inj h2
 have e3:=strN_inj h3
 refine Rat.ext ?_ e3
 by_cases hx:x.num<0<;>by_cases hy:y.num<0<;>simp[hx,hy] at h1<;>omega
theorem encQ_inj'{x y:QC}(h:encQ x=encQ y):x=y:=by
 unfold encQ encG at h
 simp only[Value.agg.injEq,Array.mk.injEq,List.cons.injEq,Value.bool.injEq,Value.string.injEq,and_true,true_and] at h
 obtain⟨h1,h2,h3,h4,h5,h6⟩:=h
 have e1:x.re=y.re:=encF_inj' (by unfold encF; rw[h1,h2,h3])
 have e2:x.im=y.im:=encF_inj' (by unfold encF; rw[h4,h5,h6])
 cases x; cases y; simp_all
end Go.Proofs.YtplakbflfckldaaGreat
namespace Tr
open Go Go.RowKit Go.Proofs.YtplakbflfckldaaGreat
theorem ZL.r{z:QC}{k:Nat}(h:ZL z k):RL z.re k:=h.1
theorem ZL.i{z:QC}{k:Nat}(h:ZL z k):RL z.im k:=h.2
end Tr
namespace Go.Proofs.YtplakbflfckldaaGreat
open Go.RowKit Tr
end Go.Proofs.YtplakbflfckldaaGreat
namespace Go.Proofs.YtplakbflfckldaaGreat
open Go.RowKit Tr
structure RawS where
 x:RawG
 y:RawG
def RawS.val(s:RawS):Value:=.agg #[.bool s.x.n1,.string s.x.s1,.bool s.x.n2,.string s.x.s2,.bool s.x.n3,.string s.x.s3,.bool s.x.n4,.string s.x.s4,.bool s.y.n1,.string s.y.s1,.bool s.y.n2,.string s.y.s2,.bool s.y.n3,.string s.y.s3,.bool s.y.n4,.string s.y.s4]
def RawS.cells(s:RawS):List GF:=s.x.cells++s.y.cells
def zeroG:RawG:=⟨false,false,false,false,⟨#[]⟩,⟨#[]⟩,⟨#[]⟩,⟨#[]⟩⟩
def kBad(x0 y0 x1 y1 x2 y2:QC):Prop:=x0*y1=x1*y0∨x1*y2=x2*y1∨x2*y0=x0*y2
end Go.Proofs.YtplakbflfckldaaGreat
namespace Go.Proofs.YtplakbflfckldaaGreat
open Go.RowKit Tr
def RawG.vals(g:RawG):List Value:=[.bool g.n1,.string g.s1,.bool g.n2,.string g.s2,.bool g.n3,.string g.s3,.bool g.n4,.string g.s4]
def RawP.vals(p:RawP):List Value:=.bool p.i :: p.g.vals
def syms(i n:Nat):List AC:=(List.range n).map fun k=>.sym (i+k)
theorem rawG_inj{g h:RawG}(e:g.val=h.val):g=h:=by
 obtain⟨n1,n2,n3,n4,s1,s2,s3,s4⟩:=g
 obtain⟨m1,m2,m3,m4,t1,t2,t3,t4⟩:=h
 simp only[RawG.val,Value.agg.injEq,Array.mk.injEq,List.cons.injEq,Value.bool.injEq,Value.string.injEq,and_true] at e
 obtain⟨rfl,rfl,rfl,rfl,rfl,rfl,rfl,rfl⟩:=e
 rfl
theorem rawP_inj{p q:RawP}(e:p.val=q.val):p=q:=by
 obtain⟨i,n1,n2,n3,n4,s1,s2,s3,s4⟩:=p
 obtain⟨j,m1,m2,m3,m4,t1,t2,t3,t4⟩:=q
 simp only[RawP.val,Value.agg.injEq,Array.mk.injEq,List.cons.injEq,Value.bool.injEq,Value.string.injEq,and_true] at e
 obtain⟨rfl,rfl,rfl,rfl,rfl,rfl,rfl,rfl,rfl⟩:=e
 rfl
theorem rawQ_ok{z:QC}(h:ShortZ z):GOk (rawQ z).val:=⟨z,rawQ_val z,h⟩
theorem rawPt_ok{p:Pt}(h:ShortP p):POk (rawPt p).val:=⟨p,rawPt_val p,h⟩
end Go.Proofs.YtplakbflfckldaaGreat
namespace Go.Proofs.YtplakbflfckldaaGreat
open Go.RowKit Tr
set_option maxRecDepth 100000 in
theorem SMay_num(n1 n2 n3 n4:Bool)(s1 s2 s3 s4:ByteArray)(l1:s1.size<274877906944)(l2:s2.size<274877906944)(l3:s3.size<274877906944)(l4:s4.size<274877906944)(w:World) :
  Calls Tryz.prog 48 #[.agg #[.bool false,.bool n1,.string s1,.bool n2,.string s2,.bool n3,.string s3,.bool n4,.string s4]] w fun e w'=>e=.returned (.bool (okB n1 n2 s1 s2 && okB n3 n4 s3 s4))∧Below w.heap.size w w':=by
 have H1:=Lib.hid (GMay_any n1 n2 n3 n4 s1 s2 s3 s4 l1 l2 l3 l4 (w.alloc (.cells #[.bool false,.bool n1,.string s1,.bool n2,.string s2,.bool n3,.string s3,.bool n4,.string s4] 38)))
 have HA:=Lib.hid (show Below w.heap.size w (w.alloc (.cells #[.bool false,.bool n1,.string s1,.bool n2,.string s2,.bool n3,.string s3,.bool n4,.string s4] 38)) from br.alloc (Nat.le_refl _) _)
 obtain⟨r,hr⟩:∃ r,r=(okB n1 n2 s1 s2 && okB n3 n4 s3 s4):=⟨_,rfl⟩
 rw[←hr] at H1 ⊢
 clear hr
 go_enter Tryz.func48,Tryz.ntmps48
 go_wp2_with fail
 refine H1.out.mono ?_
 rintro e w1 ⟨rfl,hb1⟩
 have HB:=Lib.hid (HA.out.trans (hb1.mono (by simp)))
 clear hb1
 go_wp2
 go_ret
 exact⟨rfl,HB.out⟩
set_option maxRecDepth 100000 in
theorem SMay_inf (n1 n2 n3 n4 : Bool) (s1 s2 s3 s4 : ByteArray) (r : Bool) (hr : r = true ↔ .agg #[.bool true,.bool n1,.string s1,.bool n2,.string s2,.bool n3,.string s3,.bool n4,.string s4] = infP) (w : World) :
    Calls Tryz.prog 48 #[.agg #[.bool true,.bool n1,.string s1,.bool n2,.string s2,.bool n3,.string s3,.bool n4,.string s4]] w fun e w'=>e=.returned (.bool r)∧Below w.heap.size w w':=by
  obtain⟨W,hW⟩:∃ W,W=w.alloc (.cells #[.bool true,.bool n1,.string s1,.bool n2,.string s2,.bool n3,.string s3,.bool n4,.string s4] 38):=⟨_,rfl⟩
  obtain⟨⟨e0,e1,e2,e3,e4,e5,e6,e7,e8⟩,_⟩:=new_nine w (.bool true) (.bool n1) (.string s1) (.bool n2) (.string s2) (.bool n3) (.string s3) (.bool n4) (.string s4) 38 br
  rw[←hW] at e0 e1 e2 e3 e4 e5 e6 e7 e8
  have hs:w.heap.size<W.heap.size:=by rw[hW]; simp
  have hb:Below w.heap.size w W:=by rw[hW]; exact br.alloc (Nat.le_refl _) _
  have HV:=Lib.hid (And.intro hW (And.intro hb hr))
  clear hW hb hr
  go_enter Tryz.func48,Tryz.ntmps48
  go_wp2_with fail
  rw[←HV.out.1]
  try go_wp2_with fail
  refine wp_region_inv [(.lit,[]),(.val,[])]
    (pickF [(1,fun v _ _=>v=.agg #[.bool true,.bool false,.string ⟨#[]⟩,.bool false,.string ⟨#[]⟩,.bool false,.string ⟨#[]⟩,.bool false,.string ⟨#[]⟩])]) (by kernel_rfl) ?_ ?_ (by simp) (by simp) (by kernel_rfl)
  · exact keeps_pick (by simp only[List.mem_cons,List.not_mem_nil,or_false]; rintro p rfl; exact fun _ _ _ _ _ _ _ h=>h)
  · refine⟨_,fun f w1 h1=>by(have d0:=ct h1 hs e0; have d1:=ct h1 hs e1; have d2:=ct h1 hs e2; have d3:=ct h1 hs e3; have d4:=ct h1 hs e4; have d5:=ct h1 hs e5; have d6:=ct h1 hs e6; have d7:=ct h1 hs e7; have d8:=ct h1 hs e8; go_simp; rfl),?_⟩
    simp only[Act.put,nrA,nrB,nrC,Nat.reduceAdd]
    refine⟨fun f w1 A1 k1 hA hN hd K hK=>by
      go_simp
      refine(Infinity_any w1).mono ?_
      rintro e w' ⟨rfl,hb⟩
      exact hK _ _ hb rfl,?_⟩
    intro f w1 k1 hF
    have i2:f 1=.agg #[.bool true,.bool false,.string ⟨#[]⟩,.bool false,.string ⟨#[]⟩,.bool false,.string ⟨#[]⟩,.bool false,.string ⟨#[]⟩]:=hF.2
    clear hF
    simp only[Act.put,nrA,nrB,nrC]
    obtain⟨t0,ht0⟩:∃ t0:ByteArray,t0=⟨#[]⟩:=⟨_,rfl⟩
    rw[←ht0] at i2
    rw[i2]
    clear i2
    have HT:=Lib.hid ht0
    clear ht0
    have HB:=Lib.hid (HV.out.2.1.trans ((br.drew.trans k1).mono HV.out.2.1.size))
    clear k1 e0 e1 e2 e3 e4 e5 e6 e7 e8
    go_wp2
    all_goals (
      go_ret
      refine⟨?_,HB.out⟩
      have hre:=HV.out.2.2
      unfold infP at hre
      rw[←HT.out] at hre
      simp only[Value.agg.injEq,Array.mk.injEq,List.cons.injEq,Value.bool.injEq,Value.string.injEq,and_true,true_and] at hre
      simp only[toL_iff] at *
      first
        | (have hr : r = true := hre.2 (by simp [*])
           rw[hr]; rfl)
        | (have hr : r = false := by
             cases h:r
             · rfl
             · obtain⟨a,b,c,d,e,f,g,h⟩:=hre.1 h
               exfalso
               subst_vars
               contradiction
           rw[hr]; rfl))
end Go.Proofs.YtplakbflfckldaaGreat
namespace Go.Proofs.YtplakbflfckldaaGreat
open Go.RowKit Tr
theorem tI{p:Prop}(h:p):true=true↔p:=⟨fun _=>h,fun _=>rfl⟩
theorem fI{p:Prop}(h:¬p):false=true↔p:=⟨fun e=>(by cases e),fun e=>absurd e h⟩
def gr(q:Rat):GF where
 R:=RatP q
 int:=false
 keeps:=RatP.keeps q
 cell:=fun v w A h=>by obtain⟨b,rfl,_⟩:=h; rfl
 noint:=fun _ v w A h k x=>by obtain⟨b,rfl,_⟩:=h; simp
 ex:=none
 exact:=fun u e=>by cases e
def gro(q:Rat):GF where
 R:=RatO q
 int:=false
 keeps:=RatO.keeps q
 cell:=fun v w A h=>by rcases h with⟨rfl,_⟩|⟨b,rfl,_⟩<;>rfl
 noint:=fun _ v w A h k x=>by rcases h with⟨rfl,_⟩|⟨b,rfl,_⟩<;>simp
 ex:=none
 exact:=fun u e=>by cases e
def cq(z:QC):List GF:=[gr z.re,gr z.im]
def cn(z:QC):List GF:=[gro z.re,gro z.im]
section
variable{w:World}{A:Nat→Prop}{v:Value}
theorem okg_cons{g:GF}{l:List GF}{vs:List Value}:okg (g :: l) vs w A↔∃ u us,vs=u :: us∧g.R u w A∧okg l us w A:=by
 cases vs with
 | nil=>exact⟨fun h=>h.elim,fun⟨_,_,e,_⟩=>by cases e⟩
 | cons u us=>exact⟨fun h=>⟨u,us,rfl,h.1,h.2⟩,fun⟨_,_,e,h⟩=>by cases e; exact h⟩
theorem okg_nil{vs:List Value}:okg [] vs w A↔vs=[]:=by
 cases vs with
 | nil=>exact⟨fun _=>rfl,fun _=>trivial⟩
 | cons u us=>exact⟨fun h=>h.elim,fun e=>by cases e⟩
theorem cq_iff{z:QC}:(FR.row (cq z)).R v w A↔CQ z v w A:=by
 constructor
 ·rintro⟨vs,rfl,h⟩
  obtain⟨u1,_,rfl,h1,h⟩:=okg_cons.1 h
  obtain⟨u2,_,rfl,h2,h⟩:=okg_cons.1 h
  cases okg_nil.1 h
  exact⟨u1,u2,rfl,h1,h2⟩
 ·rintro⟨u1,u2,rfl,h1,h2⟩
  exact⟨[u1,u2],rfl,h1,h2,trivial⟩
theorem cn_iff{z:QC}:(FR.row (cn z)).R v w A↔NumO z.re z.im v w A:=by
 constructor
 ·rintro⟨vs,rfl,h⟩
  obtain⟨u1,_,rfl,h1,h⟩:=okg_cons.1 h
  obtain⟨u2,_,rfl,h2,h⟩:=okg_cons.1 h
  cases okg_nil.1 h
  exact⟨u1,u2,rfl,h1,h2⟩
 ·rintro⟨u1,u2,rfl,h1,h2⟩
  exact⟨[u1,u2],rfl,h1,h2,trivial⟩
theorem pq_iff{x y:QC}:(FR.row (cq x++cq y)).R v w A↔PQ x y v w A:=by
 constructor
 ·rintro⟨vs,rfl,h⟩
  obtain⟨u1,_,rfl,h1,h⟩:=okg_cons.1 h
  obtain⟨u2,_,rfl,h2,h⟩:=okg_cons.1 h
  obtain⟨u3,_,rfl,h3,h⟩:=okg_cons.1 h
  obtain⟨u4,_,rfl,h4,h⟩:=okg_cons.1 h
  cases okg_nil.1 h
  exact⟨u1,u2,u3,u4,rfl,h1,h2,h3,h4⟩
 ·rintro⟨u1,u2,u3,u4,rfl,h1,h2,h3,h4⟩
  exact⟨[u1,u2,u3,u4],rfl,h1,h2,h3,h4,trivial⟩
end
def RawG.Sz(g:RawG):Prop:=g.s1.size≤1000000000∧g.s2.size≤1000000000∧g.s3.size≤1000000000∧g.s4.size≤1000000000
def RawP.Sz(p:RawP):Prop:=p.g.Sz
def flA(l:List (List AC)):List AC:=l.flatten
def zFA:List AC:=[.lit (.bool false),.lit .str0,.lit (.bool false),.lit .str0]
def zGA:List AC:=zFA++zFA
def zPA:List AC:=.lit (.bool false) :: zGA
def zFG:List GF:=[gl (.bool false),gl .str0,gl (.bool false),gl .str0]
def zGG:List GF:=zFG++zFG
def zPG:List GF:=gl (.bool false) :: zGG
def Q1(z:QC):FR:=.row (cq z)
def B1(b:Bool):FV:=.r (.c (gx (.bool b)))
theorem pGMay(g:RawG)(hs:g.Sz)(r:Bool)(hr:r=true↔GOk g.val):SpecC Tryz.prog true 49 [.row g.cells] (B1 r) :=
 spec1 eo49 fun w A u _ _ hu=>by
  obtain⟨l1,l2,l3,l4⟩:=hs
  rw[(FR.val_ok (u:=g.val) (x:=.row g.cells) (by kernel_rfl)).1 hu]
  refine(GMay_any g.n1 g.n2 g.n3 g.n4 g.s1 g.s2 g.s3 g.s4 (by omega) (by omega) (by omega) (by omega) w).mono fun r' w' h=>⟨_,h.1,?_,h.2⟩
  show Value.bool _=Value.bool r
  congr 1
  rw[Bool.eq_iff_iff,hr,gOk_iff,Bool.and_eq_true,okB_iff,okB_iff]
theorem pGZero(g:RawG)(r:Bool)(hr:r=true↔g=rawQ ⟨0,0⟩):SpecC Tryz.prog true 50 [.row g.cells] (B1 r) :=
 spec1 eo50 fun w A u _ _ hu=>by
  rw[(FR.val_ok (u:=g.val) (x:=.row g.cells) (by kernel_rfl)).1 hu]
  refine(GZero_any g.n1 g.n2 g.n3 g.n4 g.s1 g.s2 g.s3 g.s4 r ?_ w).mono fun r' w' h=>⟨_,h.1,rfl,h.2⟩
  rw[hr]
  exact⟨fun h=>by rw[h]; rfl,fun h=>rawG_inj (by rw[rawQ_val]; exact h)⟩
theorem pGInt(i j:Int)(a1:-9223372036854775808≤i)(a2:i<9223372036854775808)(b1:-9223372036854775808≤j)(b2:j<9223372036854775808):SpecC Tryz.prog false 24 [.c (gx (.int .i64 i)),.c (gx (.int .i64 j))] (.r (.row (rawQ ⟨(i:Rat),(j:Rat)⟩).cells)) :=
 spec_pure eo24 (vs:=[.int .i64 i,.int .i64 j]) (v:=encG (i:Rat) (j:Rat)) (fun w=>GInt_any i j a1 a2 b1 b2 w) (by kernel_rfl) (by kernel_rfl)
theorem pSMay(p:RawP)(hs:p.Sz)(r:Bool)(hr:r=true↔POk p.val):SpecC Tryz.prog true 48 [.row p.cells] (B1 r) :=
 spec1 eo48 fun w A u _ _ hu=>by
  obtain⟨l1,l2,l3,l4⟩:=hs
  rw[(FR.val_ok (u:=p.val) (x:=.row p.cells) (by kernel_rfl)).1 hu]
  obtain⟨i,g⟩:=p
  cases i
  ·refine(SMay_num g.n1 g.n2 g.n3 g.n4 g.s1 g.s2 g.s3 g.s4 (by simp only at l1; omega) (by simp only at l2; omega) (by simp only at l3; omega) (by simp only at l4; omega) w).mono fun r' w' h=>⟨_,h.1,?_,h.2⟩
   show Value.bool _=Value.bool r
   congr 1
   rw[Bool.eq_iff_iff,hr,pOk_num (p:=⟨false,g⟩) rfl,gOk_iff,Bool.and_eq_true,okB_iff,okB_iff]
  ·refine(SMay_inf g.n1 g.n2 g.n3 g.n4 g.s1 g.s2 g.s3 g.s4 r ?_ w).mono fun r' w' h=>⟨_,h.1,rfl,h.2⟩
   rw[hr]; exact pOk_inf (p:=⟨true,g⟩) rfl
theorem pMul(x y:QC){m l:Nat}(hx:ZL x m)(hy:ZL y l)(hb:m+l+(m+l)<137438953472):SpecC Tryz.prog true 163 [Q1 x,Q1 y] (.r (Q1 (x*y))) :=
 spec2 eo163 fun w A u v hR _ hu hv=>(QMul_any x y u v A w (cq_iff.1 hu) (cq_iff.1 hv) (hR rfl) m l hx hy hb).mono fun e w' ⟨z,h1,h2,h3⟩=>⟨z,h1,cq_iff.2 h3,h2⟩
theorem pAdd(x y:QC){m l:Nat}(hx:ZL x m)(hy:ZL y l)(hb:m+l<137438953472):SpecC Tryz.prog true 164 [Q1 x,Q1 y] (.r (Q1 (x+y))) :=
 spec2 eo164 fun w A u v hR _ hu hv=>(QAdd_any x y u v A w (cq_iff.1 hu) (cq_iff.1 hv) (hR rfl) m l hx hy hb).mono fun e w' ⟨z,h1,h2,h3⟩=>⟨z,h1,cq_iff.2 h3,h2⟩
theorem pSub(x y:QC){m l:Nat}(hx:ZL x m)(hy:ZL y l)(hb:m+l<137438953472):SpecC Tryz.prog true 201 [Q1 x,Q1 y] (.r (Q1 (x - y))) :=
 spec2 eo201 fun w A u v hR _ hu hv=>(QSub_any x y u v A w (cq_iff.1 hu) (cq_iff.1 hv) (hR rfl) m l hx hy hb).mono fun e w' ⟨z,h1,h2,h3⟩=>⟨z,h1,cq_iff.2 h3,h2⟩
theorem pPSame(x1 y1 x2 y2:QC){m l:Nat}(l1:ZL x1 m)(l2:ZL y1 m)(l3:ZL x2 l)(l4:ZL y2 l)(hb:m+l+(m+l)+1+(l+m+(l+m)+1)<137438953472)(r:Bool)(hr:r=true↔x1*y2=x2*y1):SpecC Tryz.prog true 161 [.row (cq x1++cq y1),.row (cq x2++cq y2)] (B1 r) :=
 spec2 eo161 fun w A u v hR _ hu hv=>(PSame_any x1 y1 x2 y2 u v A w (pq_iff.1 hu) (pq_iff.1 hv) m l l1 l2 l3 l4 hb r hr).mono fun e w' h=>⟨_,h.1,rfl,h.2⟩
def outR(x y:QC):RawP:=if y=⟨0,0⟩ then rawPt none else if ShortF (x / y).re∧ShortF (x / y).im then rawPt (some (x / y)) else⟨false,zeroG⟩
theorem outR_val(x y:QC):(outR x y).val=outP x y:=by
 unfold outR outP
 split
 ·rfl
 ·split
  ·rfl
  ·rfl
theorem pPPoint(x y:QC){m l:Nat}(lx:ZL x m)(ly:ZL y l)(hb:(m+l+(m+l)+1)+(l+l+(l+l)+1)<137438953472):SpecC Tryz.prog true 106 [.row (cq x++cq y)] (.tup [.row (outR x y).cells,.c (gx (.int .i64 (outPC x y)))]) :=
 spec1 eo106 fun w A u _ _ hu=>(PPoint_any x y u A w (pq_iff.1 hu) m l lx ly hb).mono fun e w' h=>⟨_,h.1,(FV.val_ok (u:=.tuple #[(outR x y).val,.int .i64 (outPC x y)]) (x:=.tup [.row (outR x y).cells,.c (gx (.int .i64 (outPC x y)))]) (by kernel_rfl)).2 (by rw[outR_val]),h.2⟩
theorem strN_den(q:Rat):numS (strN q.den)≠0:=by rw[numS_strN]; exact q.den_nz
theorem divInt_str(q:Rat):Rat.divInt (sgn (decide (q.num<0)) (numS (strN q.num.natAbs))) (sgn false (numS (strN q.den)))=q:=by
 rw[numS_strN,numS_strN,sgn_self]
 exact Rat.num_divInt_den q
theorem size_short{n:Nat}(h:(strN n).size≤1024):(strN n).size<274877906944:=by omega
theorem pOf(z:QC)(h:ShortZ z):SpecC Tryz.prog true 105 [.row (rawQ z).cells] (.r (Q1 z)) :=
 spec1 eo105 fun w A u hR _ hu=>by
  rw[(FR.val_ok (u:=(rawQ z).val) (x:=.row (rawQ z).cells) (by kernel_rfl)).1 hu]
  have:=XOf_any (decide (z.re.num<0)) false (decide (z.im.num<0)) false (strN z.re.num.natAbs) (strN z.re.den) (strN z.im.num.natAbs) (strN z.im.den) (strN_den _) (strN_den _) (size_short h.1.1) (size_short h.1.2) (size_short h.2.1) (size_short h.2.2) A w (hR rfl)
  rw[divInt_str,divInt_str] at this
  exact this.mono fun e w' ⟨u,h1,h2,h3⟩=>⟨u,h1,cq_iff.2 h3,h2⟩
theorem point_of(p:Pt)(h:ShortP p)(A:Nat→Prop)(w:World)(hA:Rcv A w):Calls Tryz.prog 104 #[(rawPt p).val] w fun e w'=>∃ u,e=.returned u∧Below w.heap.size w w'∧PQ (ptX p) (ptY p) u w' A:=by
 cases p with
 | none=>exact XPoint_any true false false false false ⟨#[]⟩ ⟨#[]⟩ ⟨#[]⟩ ⟨#[]⟩ (fun h=>by cases h) (fun h=>by cases h) (by decide) (by decide) (by decide) (by decide) A w hA 1 0 0 rfl rfl rfl
 | some z=>exact XPoint_any false (decide (z.re.num<0)) false (decide (z.im.num<0)) false (strN z.re.num.natAbs) (strN z.re.den) (strN z.im.num.natAbs) (strN z.im.den) (fun _=>strN_den _) (fun _=>strN_den _) (size_short h.1.1) (size_short h.1.2) (size_short h.2.1) (size_short h.2.2) A w hA z.re z.im 1 (by rw[divInt_str]; rfl) (by rw[divInt_str]; rfl) rfl
theorem pPoint(p:Pt)(h:ShortP p):SpecC Tryz.prog true 104 [.row (rawPt p).cells] (.r (.row (cq (ptX p)++cq (ptY p)))) :=
 spec1 eo104 fun w A u hR _ hu=>by
  rw[(FR.val_ok (u:=(rawPt p).val) (x:=.row (rawPt p).cells) (by kernel_rfl)).1 hu]
  exact(point_of p h A w (hR rfl)).mono fun e w' ⟨u,h1,h2,h3⟩=>⟨u,h1,pq_iff.2 h3,h2⟩
def bI{P:Program}{L:List GF}(op:BinOp)(t:TypeId)(x y:AC)(a b:Int)(c:Bool)(h:cmpB op a b=some c)(hx:x.gv L=some (.int .i64 a):=by kernel_rfl)(hy:y.gv L=some (.int .i64 b):=by kernel_rfl):GB P L:=gbInt op t .i64 x y a b c h hx hy
section
variable{L:List GF}
def bG(x y:AR)(g h:RawG)(r:Bool)(hr:r=true↔g=h)(hx:x.gv L=some g.val:=by kernel_rfl)(hy:y.gv L=some h.val:=by kernel_rfl):GB Tryz.prog L :=
 gb .eql 36 x y (.lit (.bool r)) (agg_eql (by kernel_rfl) (fun w=>run_eql_rg w g h r (by rw[hr]; exact⟨fun e=>by rw[e],rawG_inj⟩))) hx hy rfl
def bP(x y:AR)(p q:RawP)(r:Bool)(hr:r=true↔p=q)(hx:x.gv L=some p.val:=by kernel_rfl)(hy:y.gv L=some q.val:=by kernel_rfl):GB Tryz.prog L :=
 gb .eql 38 x y (.lit (.bool r)) (agg_eql (by kernel_rfl) (fun w=>run_eql_rp w p q r (by rw[hr]; exact⟨fun e=>by rw[e],rawP_inj⟩))) hx hy rfl
end
theorem shortF_lt{q:Rat}(h1:q.num.natAbs<256 ^ 1024)(h2:q.den<256 ^ 1024):ShortF q:=⟨by rw[size_strN]; exact byteLE_le h1,by rw[size_strN]; exact byteLE_le h2⟩
theorem short_c{z:QC}(h:(z.re.num.natAbs<256 ^ 1024∧z.re.den<256 ^ 1024)∧z.im.num.natAbs<256 ^ 1024∧z.im.den<256 ^ 1024):ShortZ z:=⟨shortF_lt h.1.1 h.1.2,shortF_lt h.2.1 h.2.2⟩
theorem sz_short{z:QC}(h:ShortZ z):(rawQ z).Sz:=by
 obtain⟨⟨h1,h2⟩,h3,h4⟩:=h
 exact⟨Nat.le_trans h1 (by decide),Nat.le_trans h2 (by decide),Nat.le_trans h3 (by decide),Nat.le_trans h4 (by decide)⟩
theorem sz_shortP{p:Pt}(h:ShortP p):(rawPt p).Sz:=by
 cases p with
 | none=>exact⟨by decide,by decide,by decide,by decide⟩
 | some z=>exact sz_short h
theorem rawQ_inj{z w:QC}:rawQ z=rawQ w↔z=w:=⟨fun h=>encQ_inj' (by rw[←rawQ_val,←rawQ_val,h]),fun h=>by rw[h]⟩
end Go.Proofs.YtplakbflfckldaaGreat
namespace Go.Proofs.YtplakbflfckldaaGreat
open Go.RowKit Tr
end Go.Proofs.YtplakbflfckldaaGreat
namespace Go.Proofs.YtplakbflfckldaaGreat
open Go.RowKit Tr
def Sz(s:ByteArray):Int:=(s.size:Nat)
theorem outR_is{x y z:QC}(h0:y≠⟨0,0⟩)(hz:x / y=z)(hs:ShortZ z):outR x y=rawPt (some z):=by
 subst hz
 unfold outR
 rw[if_neg h0]
 exact if_pos hs
theorem outPC_is{x y z:QC}(h0:y≠⟨0,0⟩)(hz:x / y=z)(hs:ShortZ z):outPC x y=0:=by
 subst hz
 unfold outPC
 rw[if_neg h0]
 exact if_pos hs
end Go.Proofs.YtplakbflfckldaaGreat
