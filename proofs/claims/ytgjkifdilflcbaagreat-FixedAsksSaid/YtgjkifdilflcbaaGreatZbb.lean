/- Laws for the walk. -/
import Derived.Test.YtgjkifdilflcbaaGreatZba
set_option linter.unusedVariables false
set_option maxHeartbeats 4000000
namespace Go.Proofs.YtgjkifdilflcbaaGreat
open Go.RowKit Tr
structure RawG where
 (n1 n2 n3 n4:Bool)
 (s1 s2 s3 s4:ByteArray)
def RawG.val(g:RawG):Value:=.agg #[.bool g.n1,.string g.s1,.bool g.n2,.string g.s2,.bool g.n3,.string g.s3,.bool g.n4,.string g.s4]
def RawG.cells(g:RawG):List GF:=[gx (.bool g.n1),gx (.string g.s1),gx (.bool g.n2),gx (.string g.s2),gx (.bool g.n3),gx (.string g.s3),gx (.bool g.n4),gx (.string g.s4)]
structure RawP where
 i:Bool
 g:RawG
def RawP.val(p:RawP):Value:=.agg #[.bool p.i,.bool p.g.n1,.string p.g.s1,.bool p.g.n2,.string p.g.s2,.bool p.g.n3,.string p.g.s3,.bool p.g.n4,.string p.g.s4]
def RawP.cells(p:RawP):List GF:=gx (.bool p.i) :: p.g.cells
def gA(i:Nat):List AC:=[.sym i,.sym (i+1),.sym (i+2),.sym (i+3),.sym (i+4),.sym (i+5),.sym (i+6),.sym (i+7)]
def pA(i:Nat):List AC:=[.sym i,.sym (i+1),.sym (i+2),.sym (i+3),.sym (i+4),.sym (i+5),.sym (i+6),.sym (i+7),.sym (i+8)]
def cG(z:QC):List GF:=cF z.re++cF z.im
def GOk(v:Value):Prop:=∃ z:QC,v=encQ z∧ShortZ z
theorem gOk_iff(g:RawG):GOk g.val↔FracOk (.agg #[.bool g.n1,.string g.s1,.bool g.n2,.string g.s2])∧FracOk (.agg #[.bool g.n3,.string g.s3,.bool g.n4,.string g.s4]):=by
 constructor
 ·rintro⟨z,e,h1,h2⟩
  unfold RawG.val encQ encG at e
  simp only[Value.agg.injEq,Array.mk.injEq,List.cons.injEq,Value.bool.injEq,Value.string.injEq,and_true] at e
  obtain⟨e1,e2,e3,e4,e5,e6,e7,e8⟩:=e
  exact⟨⟨z.re,by unfold encF; rw[e1,e2,e3,e4],h1⟩,⟨z.im,by unfold encF; rw[e5,e6,e7,e8],h2⟩⟩
 ·rintro⟨⟨a,e,h1⟩,⟨b,f,h2⟩⟩
  obtain⟨e1,e2,e3,e4⟩:=encF_parts e
  obtain⟨f1,f2,f3,f4⟩:=encF_parts f
  refine⟨⟨a,b⟩,?_,h1,h2⟩
  unfold RawG.val encQ encG
  rw[e1,e2,e3,e4,f1,f2,f3,f4]
set_option maxRecDepth 100000 in
theorem run_eql_rg(w:World)(p q:RawG)(r:Bool)(hr:r=true↔p.val=q.val):(binOp .eql 27 p.val q.val).run Tryz.prog w=.ok (.bool r) w:=by
 obtain⟨n1,n2,n3,n4,s1,s2,s3,s4⟩:=p
 obtain⟨m1,m2,m3,m4,t1,t2,t3,t4⟩:=q
 simp only[RawG.val] at hr ⊢
 simp only[Value.agg.injEq,Array.mk.injEq,List.cons.injEq,Value.bool.injEq,Value.string.injEq,and_true] at hr
 go_simp
 simp only[toL_iff]
 cases r
 ·have hn:¬(n1=m1∧s1=t1∧n2=m2∧s2=t2∧n3=m3∧s3=t3∧n4=m4∧s4=t4):=fun h=>by cases hr.2 h
  repeat' split
  all_goals first
   | rfl
   | (exfalso; apply hn; refine⟨?_,?_,?_,?_,?_,?_,?_,?_⟩<;>assumption)
 ·obtain⟨rfl,rfl,rfl,rfl,rfl,rfl,rfl,rfl⟩:=hr.1 rfl
  simp
def rawQ(z:QC):RawG:=⟨decide (z.re.num<0),false,decide (z.im.num<0),false,strN z.re.num.natAbs,strN z.re.den,strN z.im.num.natAbs,strN z.im.den⟩
theorem rawQ_val(z:QC):(rawQ z).val=encQ z:=rfl
def rawPt:Pt→RawP
 | none=>⟨true,⟨false,false,false,false,⟨#[]⟩,⟨#[]⟩,⟨#[]⟩,⟨#[]⟩⟩⟩
 | some z=>⟨false,rawQ z⟩
theorem encF_inj'{x y:Rat}(h:encF x=encF y):x=y:=by
 have:=h
 unfold encF at h
 simp only[Value.agg.injEq,Array.mk.injEq,List.cons.injEq,Value.bool.injEq,Value.string.injEq,and_true,true_and] at h
 obtain⟨h1,h2,h3⟩:=h
 have e2:=strN_inj h2
 have e3:=strN_inj h3
 refine Rat.ext ?_ e3
 by_cases hx:x.num<0<;>by_cases hy:y.num<0<;>simp[hx,hy] at h1<;>omega
theorem encQ_inj'{x y:QC}(h:encQ x=encQ y):x=y:=by
 unfold encQ encG at h
 simp only[Value.agg.injEq,Array.mk.injEq,List.cons.injEq,Value.bool.injEq,Value.string.injEq,and_true,true_and] at h
 obtain⟨h1,h2,h3,h4,h5,h6⟩:=h
 have e1:x.re=y.re:=encF_inj' (by unfold encF; rw[h1,h2,h3])
 have e2:x.im=y.im:=encF_inj' (by unfold encF; rw[h4,h5,h6])
 cases x; cases y; simp_all
def encS(x y:QC):Value:=.agg #[.bool (decide (x.re.num<0)),.string (strN x.re.num.natAbs),.bool false,.string (strN x.re.den),.bool (decide (x.im.num<0)),.string (strN x.im.num.natAbs),.bool false,.string (strN x.im.den),
 .bool (decide (y.re.num<0)),.string (strN y.re.num.natAbs),.bool false,.string (strN y.re.den),.bool (decide (y.im.num<0)),.string (strN y.im.num.natAbs),.bool false,.string (strN y.im.den)]
theorem gint(a b:Int)(a1:-9223372036854775808≤a)(a2:a<9223372036854775808)(b1:-9223372036854775808≤b)(b2:b<9223372036854775808):PureC Tryz.prog 49 [.int .i64 (a),.int .i64 (b)] ((encQ (⟨(a:Rat),(b:Rat)⟩))):=by
  exact ev_pure (hp:=false) (L:=[gx (.int .i64 (a))]++[gx (.int .i64 (b))]++cG (⟨(a:Rat),(b:Rat)⟩)) tys_ok mixed
    [gp 35 [.c (.sym 0)] (.r (.row [.sym 2,.sym 3,.lit (.bool false),.sym 4])) eo35 (fint a a1 a2) rfl rfl,gp 35 [.c (.sym 1)] (.r (.row [.sym 5,.sym 6,.lit (.bool false),.sym 7])) eo35 (fint b b1 b2) rfl rfl]
    [] []
    Tryz.func49 100 [.c (.sym 0),.c (.sym 1)] (.r (.row [.sym 2,.sym 3,.lit (.bool false),.sym 4,.sym 5,.sym 6,.lit (.bool false),.sym 7])) (by kernel_rfl) rfl rfl
theorem gzero(z:QC)(r:Bool)(hr:r=true↔z=⟨0,0⟩):PureC Tryz.prog 50 [encQ z] (.bool r):=by
  have hs:∀ q:Rat,q.num.sign=0↔q=0:=fun q=>by rw[Int.sign_eq_zero_iff_zero,Rat.num_eq_zero]
  by_cases h1:z.re=0
  · exact ev_pure (hp := false) (L := cG z ++ [gx (.int .i64 z.re.num.sign),gx (.int .i64 z.im.num.sign),gx (.bool r)]) tys_ok mixed
      [gp 36 [.row [.sym 0,.sym 1,.lit (.bool false),.sym 2]] (.r (.c (.sym 6))) eo36 (fsign z.re) rfl rfl,gp 36 [.row [.sym 3,.sym 4,.lit (.bool false),.sym 5]] (.r (.c (.sym 7))) eo36 (fsign z.im) rfl rfl]
      [gbInt .eql 3 .i64 (.sym 6) (.lit (.int .i64 0)) _ _ true (by simp only[cmpB]; rw[(hs _).2 h1]; rfl) rfl rfl,gb .eql 3 (.c (.sym 7)) (.c (.lit (.int .i64 0))) (.sym 8) (int_cmp .eql _ .i64 _ _ r (by
         simp only[cmpB]; congr 1; rw[Bool.eq_iff_iff,hr,beq_iff_eq,hs]; cases z; simp at h1; subst h1; simp)) rfl rfl rfl] []
      Tryz.func50 100 [.row [.sym 0,.sym 1,.lit (.bool false),.sym 2,.sym 3,.sym 4,.lit (.bool false),.sym 5]] (.r (.c (.sym 8))) (by kernel_rfl) rfl rfl
  · have hr':r=false:=by cases r; rfl; exact absurd (by rw[hr.1 rfl]) h1
    subst hr'
    exact ev_pure (hp:=false) (L:=cG z++[gx (.int .i64 z.re.num.sign)]) tys_ok mixed
      [gp 36 [.row [.sym 0,.sym 1,.lit (.bool false),.sym 2]] (.r (.c (.sym 6))) eo36 (fsign z.re) rfl rfl]
      [gbInt .eql 3 .i64 (.sym 6) (.lit (.int .i64 0)) _ _ false (by simp only[cmpB]; congr 1; rw[beq_eq_false_iff_ne]; exact fun h=>h1 ((hs _).1 h)) rfl rfl] []
      Tryz.func50 100 [.row [.sym 0,.sym 1,.lit (.bool false),.sym 2,.sym 3,.sym 4,.lit (.bool false),.sym 5]] (.r (.c (.lit (.bool false)))) (by kernel_rfl) rfl rfl
theorem gmay(g:RawG)(r:Bool)(hr:r=true↔GOk g.val):PureC Tryz.prog 58 [g.val] (.bool r):=by
  rw[gOk_iff] at hr
  obtain⟨a,ha⟩:∃ a:Bool,a=true↔FracOk (.agg #[.bool g.n1,.string g.s1,.bool g.n2,.string g.s2]):=by
    by_cases h:FracOk (.agg #[.bool g.n1,.string g.s1,.bool g.n2,.string g.s2])
    · exact⟨true,by simp[h]⟩
    · exact⟨false,by simp[h]⟩
  have h1:=fmay g.n1 g.n2 g.s1 g.s2 a ha
  cases a
  · have hr':r=false:=by cases r; rfl; have:=ha.2 (hr.1 rfl).1; cases this
    subst hr'
    exact ev_pure (hp:=false) (L:=g.cells) tys_ok mixed
      [gp 105 [.row (zA 0++zA 2)] (.r (.c (.lit (.bool false)))) eo105 h1 rfl rfl] [] []
      Tryz.func58 100 [.row (gA 0)] (.r (.c (.lit (.bool false)))) (by kernel_rfl) rfl rfl
  · have h2:=fmay g.n3 g.n4 g.s3 g.s4 r (by rw[hr]; exact⟨fun h=>h.2,fun h=>⟨ha.1 rfl,h⟩⟩)
    exact ev_pure (hp:=false) (L:=g.cells++[gx (.bool r)]) tys_ok mixed
      [gp 105 [.row (zA 0++zA 2)] (.r (.c (.lit (.bool true)))) eo105 h1 rfl rfl,gp 105 [.row (zA 4++zA 6)] (.r (.c (.sym 8))) eo105 h2 rfl rfl] [] []
      Tryz.func58 100 [.row (gA 0)] (.r (.c (.sym 8))) (by kernel_rfl) rfl rfl
theorem gfits(z:QC)(r:Bool)(hr:r=true↔ShortZ z):PureC Tryz.prog 26 [encQ z] (.bool r):=by
  have h1:=ffits (decide (z.re.num<0)) false (strN z.re.num.natAbs) (strN z.re.den) _ rfl
  have h2:=ffits (decide (z.im.num<0)) false (strN z.im.num.natAbs) (strN z.im.den) _ rfl
  by_cases ha:ShortF z.re
  · rw[show decide ((strN z.re.num.natAbs).size≤1024∧(strN z.re.den).size≤1024)=true from decide_eq_true ha] at h1
    rw[show decide ((strN z.im.num.natAbs).size≤1024∧(strN z.im.den).size≤1024)=r by rw[Bool.eq_iff_iff,decide_eq_true_iff,hr]; exact⟨fun h=>⟨ha,h⟩,fun h=>h.2⟩] at h2
    exact ev_pure (hp:=false) (L:=cG z++[gx (.bool r)]) tys_ok mixed
      [gp 65 [.row [.sym 0,.sym 1,.lit (.bool false),.sym 2]] (.r (.c (.lit (.bool true)))) eo65 h1 rfl rfl,gp 65 [.row [.sym 3,.sym 4,.lit (.bool false),.sym 5]] (.r (.c (.sym 6))) eo65 h2 rfl rfl] [] []
      Tryz.func26 100 [.row [.sym 0,.sym 1,.lit (.bool false),.sym 2,.sym 3,.sym 4,.lit (.bool false),.sym 5]] (.r (.c (.sym 6))) (by kernel_rfl) rfl rfl
  · rw[show decide ((strN z.re.num.natAbs).size≤1024∧(strN z.re.den).size≤1024)=false from decide_eq_false ha] at h1
    have hr':r=false:=by cases r; rfl; exact absurd (hr.1 rfl).1 ha
    subst hr'
    exact ev_pure (hp:=false) (L:=cG z) tys_ok mixed
      [gp 65 [.row [.sym 0,.sym 1,.lit (.bool false),.sym 2]] (.r (.c (.lit (.bool false)))) eo65 h1 rfl rfl] [] []
      Tryz.func26 100 [.row [.sym 0,.sym 1,.lit (.bool false),.sym 2,.sym 3,.sym 4,.lit (.bool false),.sym 5]] (.r (.c (.lit (.bool false)))) (by kernel_rfl) rfl rfl
end Go.Proofs.YtgjkifdilflcbaaGreat
namespace Tr
open Go Go.RowKit Go.Proofs.YtgjkifdilflcbaaGreat
theorem ZL.r{z:QC}{k:Nat}(h:ZL z k):RL z.re k:=h.1
theorem ZL.i{z:QC}{k:Nat}(h:ZL z k):RL z.im k:=h.2
end Tr
namespace Go.Proofs.YtgjkifdilflcbaaGreat
open Go.RowKit Tr
theorem gplus(x y:QC)(hx:ZL x 134217728)(hy:ZL y 134217728):PureC Tryz.prog 62 [encQ (x),encQ (y)] ((encQ (x+y))):=by
  exact ev_pure (hp:=false) (L:=cG (x)++cG (y)++cG (x+y)) tys_ok mixed
    [gp 106 [.row [.sym 0,.sym 1,.lit (.bool false),.sym 2],.row [.sym 6,.sym 7,.lit (.bool false),.sym 8]] (.r (.row [.sym 12,.sym 13,.lit (.bool false),.sym 14])) eo106 (fplus _ _ hx.1 hy.1) rfl rfl,gp 106 [.row [.sym 3,.sym 4,.lit (.bool false),.sym 5],.row [.sym 9,.sym 10,.lit (.bool false),.sym 11]] (.r (.row [.sym 15,.sym 16,.lit (.bool false),.sym 17])) eo106 (fplus _ _ hx.2 hy.2) rfl rfl]
    [] []
    Tryz.func62 100 [.row [.sym 0,.sym 1,.lit (.bool false),.sym 2,.sym 3,.sym 4,.lit (.bool false),.sym 5],.row [.sym 6,.sym 7,.lit (.bool false),.sym 8,.sym 9,.sym 10,.lit (.bool false),.sym 11]] (.r (.row [.sym 12,.sym 13,.lit (.bool false),.sym 14,.sym 15,.sym 16,.lit (.bool false),.sym 17])) (by kernel_rfl) rfl rfl
theorem gneg(z:QC):PureC Tryz.prog 96 [encQ z] (encQ ⟨-z.re,-z.im⟩) :=
  ev_pure (hp:=false) (L:=cG z++cG ⟨-z.re,-z.im⟩) tys_ok mixed
    [gp 133 [.row [.sym 0,.sym 1,.lit (.bool false),.sym 2]] (.r (.row [.sym 6,.sym 7,.lit (.bool false),.sym 8])) eo133 (fneg z.re) rfl rfl,gp 133 [.row [.sym 3,.sym 4,.lit (.bool false),.sym 5]] (.r (.row [.sym 9,.sym 10,.lit (.bool false),.sym 11])) eo133 (fneg z.im) rfl rfl] [] []
    Tryz.func96 100 [.row [.sym 0,.sym 1,.lit (.bool false),.sym 2,.sym 3,.sym 4,.lit (.bool false),.sym 5]] (.r (.row [.sym 6,.sym 7,.lit (.bool false),.sym 8,.sym 9,.sym 10,.lit (.bool false),.sym 11])) (by kernel_rfl) rfl rfl
theorem gconj(z:QC):PureC Tryz.prog 93 [encQ z] (encQ ⟨z.re,-z.im⟩) :=
 ev_pure (hp:=false) (L:=cG z++cF (-z.im)) tys_ok mixed
  [gp 133 [.row [.sym 3,.sym 4,.lit (.bool false),.sym 5]] (.r (.row [.sym 6,.sym 7,.lit (.bool false),.sym 8])) eo133 (fneg z.im) rfl rfl] [] []
  Tryz.func93 100 [.row [.sym 0,.sym 1,.lit (.bool false),.sym 2,.sym 3,.sym 4,.lit (.bool false),.sym 5]] (.r (.row [.sym 0,.sym 1,.lit (.bool false),.sym 2,.sym 6,.sym 7,.lit (.bool false),.sym 8])) (by kernel_rfl) rfl rfl
theorem sub_plus(x y:QC):x+⟨-y.re,-y.im⟩=x - y:=by
 show(⟨x.re+-y.re,x.im+-y.im⟩:QC)=⟨x.re - y.re,x.im - y.im⟩
 rw[Rat.sub_eq_add_neg,Rat.sub_eq_add_neg]
theorem ZL_negc{y:QC}{k:Nat}(h:ZL y k):ZL ⟨-y.re,-y.im⟩ k:=⟨RL_neg h.1,RL_neg h.2⟩
theorem ZL_conjc{y:QC}{k:Nat}(h:ZL y k):ZL ⟨y.re,-y.im⟩ k:=⟨h.1,RL_neg h.2⟩
theorem gminus(x y:QC)(hx:ZL x 134217728)(hy:ZL y 134217728):PureC Tryz.prog 52 [encQ (x),encQ (y)] ((encQ (x - y))):=by
  have hp:=gplus x ⟨-y.re,-y.im⟩ hx (ZL_negc hy)
  rw[sub_plus] at hp
  exact ev_pure (hp:=false) (L:=cG (x)++cG (y)++cG (⟨-y.re,-y.im⟩)++cG (x - y)) tys_ok mixed
    [gp 96 [.row [.sym 6,.sym 7,.lit (.bool false),.sym 8,.sym 9,.sym 10,.lit (.bool false),.sym 11]] (.r (.row [.sym 12,.sym 13,.lit (.bool false),.sym 14,.sym 15,.sym 16,.lit (.bool false),.sym 17])) eo96 (gneg y) rfl rfl,gp 62 [.row [.sym 0,.sym 1,.lit (.bool false),.sym 2,.sym 3,.sym 4,.lit (.bool false),.sym 5],.row [.sym 12,.sym 13,.lit (.bool false),.sym 14,.sym 15,.sym 16,.lit (.bool false),.sym 17]] (.r (.row [.sym 18,.sym 19,.lit (.bool false),.sym 20,.sym 21,.sym 22,.lit (.bool false),.sym 23])) eo62 (hp) rfl rfl]
    [] []
    Tryz.func52 100 [.row [.sym 0,.sym 1,.lit (.bool false),.sym 2,.sym 3,.sym 4,.lit (.bool false),.sym 5],.row [.sym 6,.sym 7,.lit (.bool false),.sym 8,.sym 9,.sym 10,.lit (.bool false),.sym 11]] (.r (.row [.sym 18,.sym 19,.lit (.bool false),.sym 20,.sym 21,.sym 22,.lit (.bool false),.sym 23])) (by kernel_rfl) rfl rfl
theorem gtimes(x y:QC)(hx:ZL x 33554432)(hy:ZL y 33554432):PureC Tryz.prog 63 [encQ (x),encQ (y)] ((encQ (x*y))):=by
  exact ev_pure (hp:=false) (L:=cG (x)++cG (y)++cF (x.re*y.re)++cF (x.im*y.im)++cF (x.re*y.im)++cF (x.im*y.re)++cG (x*y)) tys_ok mixed
    [gp 108 [.row [.sym 0,.sym 1,.lit (.bool false),.sym 2],.row [.sym 6,.sym 7,.lit (.bool false),.sym 8]] (.r (.row [.sym 12,.sym 13,.lit (.bool false),.sym 14])) eo108 (ftimes _ _ (hx.1.mono (by decide)) (hy.1.mono (by decide))) rfl rfl,gp 108 [.row [.sym 3,.sym 4,.lit (.bool false),.sym 5],.row [.sym 9,.sym 10,.lit (.bool false),.sym 11]] (.r (.row [.sym 15,.sym 16,.lit (.bool false),.sym 17])) eo108 (ftimes _ _ (hx.2.mono (by decide)) (hy.2.mono (by decide))) rfl rfl,gp 107 [.row [.sym 12,.sym 13,.lit (.bool false),.sym 14],.row [.sym 15,.sym 16,.lit (.bool false),.sym 17]] (.r (.row [.sym 24,.sym 25,.lit (.bool false),.sym 26])) eo107 (fminus _ _ ((RL_mul hx.1 hy.1).mono (by decide)) ((RL_mul hx.2 hy.2).mono (by decide))) rfl rfl,gp 108 [.row [.sym 0,.sym 1,.lit (.bool false),.sym 2],.row [.sym 9,.sym 10,.lit (.bool false),.sym 11]] (.r (.row [.sym 18,.sym 19,.lit (.bool false),.sym 20])) eo108 (ftimes _ _ (hx.1.mono (by decide)) (hy.2.mono (by decide))) rfl rfl,gp 108 [.row [.sym 3,.sym 4,.lit (.bool false),.sym 5],.row [.sym 6,.sym 7,.lit (.bool false),.sym 8]] (.r (.row [.sym 21,.sym 22,.lit (.bool false),.sym 23])) eo108 (ftimes _ _ (hx.2.mono (by decide)) (hy.1.mono (by decide))) rfl rfl,gp 106 [.row [.sym 18,.sym 19,.lit (.bool false),.sym 20],.row [.sym 21,.sym 22,.lit (.bool false),.sym 23]] (.r (.row [.sym 27,.sym 28,.lit (.bool false),.sym 29])) eo106 (fplus _ _ ((RL_mul hx.1 hy.2).mono (by decide)) ((RL_mul hx.2 hy.1).mono (by decide))) rfl rfl]
    [] []
    Tryz.func63 100 [.row [.sym 0,.sym 1,.lit (.bool false),.sym 2,.sym 3,.sym 4,.lit (.bool false),.sym 5],.row [.sym 6,.sym 7,.lit (.bool false),.sym 8,.sym 9,.sym 10,.lit (.bool false),.sym 11]] (.r (.row [.sym 24,.sym 25,.lit (.bool false),.sym 26,.sym 27,.sym 28,.lit (.bool false),.sym 29])) (by kernel_rfl) rfl rfl
theorem gscale(x:QC)(y:Rat)(hx:ZL x 134217728)(hy:RL y 134217728):PureC Tryz.prog 92 [encQ (x),encF (y)] ((encQ (⟨x.re*y,x.im*y⟩))):=by
  exact ev_pure (hp:=false) (L:=cG (x)++cF (y)++cG (⟨x.re*y,x.im*y⟩)) tys_ok mixed
    [gp 108 [.row [.sym 0,.sym 1,.lit (.bool false),.sym 2],.row [.sym 6,.sym 7,.lit (.bool false),.sym 8]] (.r (.row [.sym 9,.sym 10,.lit (.bool false),.sym 11])) eo108 (ftimes _ _ hx.1 hy) rfl rfl,gp 108 [.row [.sym 3,.sym 4,.lit (.bool false),.sym 5],.row [.sym 6,.sym 7,.lit (.bool false),.sym 8]] (.r (.row [.sym 12,.sym 13,.lit (.bool false),.sym 14])) eo108 (ftimes _ _ hx.2 hy) rfl rfl]
    [] []
    Tryz.func92 100 [.row [.sym 0,.sym 1,.lit (.bool false),.sym 2,.sym 3,.sym 4,.lit (.bool false),.sym 5],.row [.sym 6,.sym 7,.lit (.bool false),.sym 8]] (.r (.row [.sym 9,.sym 10,.lit (.bool false),.sym 11,.sym 12,.sym 13,.lit (.bool false),.sym 14])) (by kernel_rfl) rfl rfl
theorem gdot(x y:QC)(hx:ZL x 33554432)(hy:ZL y 33554432):PureC Tryz.prog 135 [encQ (x),encQ (y)] ((encF (x.re*y.re+x.im*y.im))):=by
  exact ev_pure (hp:=false) (L:=cG (x)++cG (y)++cF (x.re*y.re)++cF (x.im*y.im)++cF (x.re*y.re+x.im*y.im)) tys_ok mixed
    [gp 108 [.row [.sym 0,.sym 1,.lit (.bool false),.sym 2],.row [.sym 6,.sym 7,.lit (.bool false),.sym 8]] (.r (.row [.sym 12,.sym 13,.lit (.bool false),.sym 14])) eo108 (ftimes _ _ (hx.1.mono (by decide)) (hy.1.mono (by decide))) rfl rfl,gp 108 [.row [.sym 3,.sym 4,.lit (.bool false),.sym 5],.row [.sym 9,.sym 10,.lit (.bool false),.sym 11]] (.r (.row [.sym 15,.sym 16,.lit (.bool false),.sym 17])) eo108 (ftimes _ _ (hx.2.mono (by decide)) (hy.2.mono (by decide))) rfl rfl,gp 106 [.row [.sym 12,.sym 13,.lit (.bool false),.sym 14],.row [.sym 15,.sym 16,.lit (.bool false),.sym 17]] (.r (.row [.sym 18,.sym 19,.lit (.bool false),.sym 20])) eo106 (fplus _ _ ((RL_mul hx.1 hy.1).mono (by decide)) ((RL_mul hx.2 hy.2).mono (by decide))) rfl rfl]
    [] []
    Tryz.func135 100 [.row [.sym 0,.sym 1,.lit (.bool false),.sym 2,.sym 3,.sym 4,.lit (.bool false),.sym 5],.row [.sym 6,.sym 7,.lit (.bool false),.sym 8,.sym 9,.sym 10,.lit (.bool false),.sym 11]] (.r (.row [.sym 18,.sym 19,.lit (.bool false),.sym 20])) (by kernel_rfl) rfl rfl
theorem gnorm(x:QC)(hx:ZL x 33554432):PureC Tryz.prog 95 [encQ (x)] ((encF (x.re*x.re+x.im*x.im))):=by
 exact ev_pure (hp:=false) (L:=cG (x)++cF (x.re*x.re+x.im*x.im)) tys_ok mixed
  [gp 135 [.row [.sym 0,.sym 1,.lit (.bool false),.sym 2,.sym 3,.sym 4,.lit (.bool false),.sym 5],.row [.sym 0,.sym 1,.lit (.bool false),.sym 2,.sym 3,.sym 4,.lit (.bool false),.sym 5]] (.r (.row [.sym 6,.sym 7,.lit (.bool false),.sym 8])) eo135 (gdot x x hx hx) rfl rfl]
  [] []
  Tryz.func95 100 [.row [.sym 0,.sym 1,.lit (.bool false),.sym 2,.sym 3,.sym 4,.lit (.bool false),.sym 5]] (.r (.row [.sym 6,.sym 7,.lit (.bool false),.sym 8])) (by kernel_rfl) rfl rfl
theorem gover(x y:QC)(hx:ZL x 6000000)(hy:ZL y 6000000)(h0:y≠⟨0,0⟩):PureC Tryz.prog 51 [encQ x,encQ y] (encQ (x / y)):=by
  obtain⟨c,hcd⟩:∃ c:QC,c=⟨y.re,-y.im⟩:=⟨_,rfl⟩
  obtain⟨t,ht⟩:∃ t:QC,t=x*c:=⟨_,rfl⟩
  obtain⟨n,hn⟩:∃ n:Rat,n=y.re*y.re+y.im*y.im:=⟨_,rfl⟩
  have hcl:ZL c 6000000:=by rw[hcd]; exact ZL_conjc hy
  have hnl:RL n 24000004:=by rw[hn]; exact(RL_add (RL_mul hy.1 hy.1) (RL_mul hy.2 hy.2)).mono (by decide)
  have hn0:n≠0:=fun h=>h0 (by rw[hn] at h; obtain⟨h1,h2⟩:=norm_zero.1 h; cases y; simp at h1 h2; rw[h1,h2])
  have htl:ZL t 24000004:=by rw[ht]; exact(ZL_mul hx hcl).mono (by decide)
  have hq:x / y=⟨t.re*n⁻¹,t.im*n⁻¹⟩:=by rw[ht,hn,hcd]; rfl
  have hc:=gconj y
  rw[←hcd] at hc
  have h2:=gtimes x c (hx.mono (by decide)) (hcl.mono (by decide))
  rw[←ht] at h2
  have h3:=gnorm y (hy.mono (by decide))
  rw[←hn] at h3
  have h1:=fint 1 (by decide) (by decide)
  rw[show((1:Int):Rat)=1 from rfl] at h1
  have h4:=fover 1 n (RL_one.mono (by decide)) (hnl.mono (by decide)) hn0
  rw[show(1:Rat) / n=n⁻¹ by rw[Rat.div_def]; exact Rat.one_mul _] at h4
  have hs:=gscale t n⁻¹ (htl.mono (by decide)) ((RL_inv hn0 hnl).mono (by decide))
  rw[hq]
  clear hq ht hn hcd
  exact ev_pure (hp:=false) (L:=cG (x)++cG (y)++cG (c)++cG (t)++cF (1)++cF (n)++cF (n⁻¹)++cG (⟨t.re*n⁻¹,t.im*n⁻¹⟩)) tys_ok mixed
    [gp 93 [.row [.sym 6,.sym 7,.lit (.bool false),.sym 8,.sym 9,.sym 10,.lit (.bool false),.sym 11]] (.r (.row [.sym 12,.sym 13,.lit (.bool false),.sym 14,.sym 15,.sym 16,.lit (.bool false),.sym 17])) eo93 (hc) rfl rfl,gp 63 [.row [.sym 0,.sym 1,.lit (.bool false),.sym 2,.sym 3,.sym 4,.lit (.bool false),.sym 5],.row [.sym 12,.sym 13,.lit (.bool false),.sym 14,.sym 15,.sym 16,.lit (.bool false),.sym 17]] (.r (.row [.sym 18,.sym 19,.lit (.bool false),.sym 20,.sym 21,.sym 22,.lit (.bool false),.sym 23])) eo63 (h2) rfl rfl,gp 35 [.c (.lit (.int .i64 1))] (.r (.row [.sym 24,.sym 25,.lit (.bool false),.sym 26])) eo35 (h1) rfl rfl,gp 95 [.row [.sym 6,.sym 7,.lit (.bool false),.sym 8,.sym 9,.sym 10,.lit (.bool false),.sym 11]] (.r (.row [.sym 27,.sym 28,.lit (.bool false),.sym 29])) eo95 (h3) rfl rfl,gp 94 [.row [.sym 24,.sym 25,.lit (.bool false),.sym 26],.row [.sym 27,.sym 28,.lit (.bool false),.sym 29]] (.r (.row [.sym 30,.sym 31,.lit (.bool false),.sym 32])) eo94 (h4) rfl rfl,gp 92 [.row [.sym 18,.sym 19,.lit (.bool false),.sym 20,.sym 21,.sym 22,.lit (.bool false),.sym 23],.row [.sym 30,.sym 31,.lit (.bool false),.sym 32]] (.r (.row [.sym 33,.sym 34,.lit (.bool false),.sym 35,.sym 36,.sym 37,.lit (.bool false),.sym 38])) eo92 (hs) rfl rfl]
    [] []
    Tryz.func51 100 [.row [.sym 0,.sym 1,.lit (.bool false),.sym 2,.sym 3,.sym 4,.lit (.bool false),.sym 5],.row [.sym 6,.sym 7,.lit (.bool false),.sym 8,.sym 9,.sym 10,.lit (.bool false),.sym 11]] (.r (.row [.sym 33,.sym 34,.lit (.bool false),.sym 35,.sym 36,.sym 37,.lit (.bool false),.sym 38])) (by kernel_rfl) rfl rfl
end Go.Proofs.YtgjkifdilflcbaaGreat
namespace Go.Proofs.YtgjkifdilflcbaaGreat
open Go.RowKit Tr
structure RawS where
 x:RawG
 y:RawG
def RawS.val(s:RawS):Value:=.agg #[.bool s.x.n1,.string s.x.s1,.bool s.x.n2,.string s.x.s2,.bool s.x.n3,.string s.x.s3,.bool s.x.n4,.string s.x.s4,.bool s.y.n1,.string s.y.s1,.bool s.y.n2,.string s.y.s2,.bool s.y.n3,.string s.y.s3,.bool s.y.n4,.string s.y.s4]
def RawS.cells(s:RawS):List GF:=s.x.cells++s.y.cells
def zeroG:RawG:=⟨false,false,false,false,⟨#[]⟩,⟨#[]⟩,⟨#[]⟩,⟨#[]⟩⟩
def sA(i:Nat):List AC:=gA i++gA (i+8)
theorem spoint(x y:QC)(hx:ZL x 6000000)(hy:ZL y 6000000):PureC Tryz.prog 90 [encS x y] (.tuple #[outP x y,.int .i64 (outPC x y)]):=by
  by_cases h0:y=⟨0,0⟩
  · unfold outP outPC
    rw[if_pos h0,if_pos h0]
    exact ev_pure (hp:=false) (L:=(rawQ x).cells++(rawQ y).cells) tys_ok mixed
      [gp 50 [.row (gA 8)] (.r (.c (.lit (.bool true)))) eo50 (gzero y true (by simp[h0])) (by kernel_rfl) (by kernel_rfl)] [] []
      Tryz.func90 100 [.row (sA 0)] (.tup [.row [.lit (.bool true),.lit (.bool false),.lit .str0,.lit (.bool false),.lit .str0,.lit (.bool false),.lit .str0,.lit (.bool false),.lit .str0],.c (.lit (.int .i64 0))]) (by kernel_rfl) (by kernel_rfl) (by kernel_rfl)
  · have hz:=gzero y false (by simp[h0])
    have ho:=gover x y hx hy h0
    unfold outP outPC
    rw[if_neg h0,if_neg h0]
    obtain⟨q,hq⟩:∃ q,q=x / y:=⟨_,rfl⟩
    rw[←hq] at ho ⊢
    by_cases hs:ShortF q.re∧ShortF q.im
    · rw[if_pos hs,if_pos hs]
      exact ev_pure (hp:=false) (L:=(rawQ x).cells++(rawQ y).cells++(rawQ q).cells) tys_ok mixed
        [gp 50 [.row (gA 8)] (.r (.c (.lit (.bool false)))) eo50 hz (by kernel_rfl) (by kernel_rfl),gp 51 [.row (gA 0),.row (gA 8)] (.r (.row (gA 16))) eo51 ho (by kernel_rfl) (by kernel_rfl),gp 26 [.row (gA 16)] (.r (.c (.lit (.bool true)))) eo26 (gfits q true (by simp[ShortZ,hs])) (by kernel_rfl) (by kernel_rfl)] [] []
        Tryz.func90 100 [.row (sA 0)] (.tup [.row (.lit (.bool false) :: gA 16),.c (.lit (.int .i64 0))]) (by kernel_rfl) (by kernel_rfl) (by kernel_rfl)
    · rw[if_neg hs,if_neg hs]
      exact ev_pure (hp:=false) (L:=(rawQ x).cells++(rawQ y).cells++(rawQ q).cells) tys_ok mixed
        [gp 50 [.row (gA 8)] (.r (.c (.lit (.bool false)))) eo50 hz (by kernel_rfl) (by kernel_rfl),gp 51 [.row (gA 0),.row (gA 8)] (.r (.row (gA 16))) eo51 ho (by kernel_rfl) (by kernel_rfl),gp 26 [.row (gA 16)] (.r (.c (.lit (.bool false)))) eo26 (gfits q false (by simp only[ShortZ]; simp[hs])) (by kernel_rfl) (by kernel_rfl)] [] []
        Tryz.func90 100 [.row (sA 0)] (.tup [.row [.lit (.bool false),.lit (.bool false),.lit .str0,.lit (.bool false),.lit .str0,.lit (.bool false),.lit .str0,.lit (.bool false),.lit .str0],.c (.lit (.int .i64 4))]) (by kernel_rfl) (by kernel_rfl) (by kernel_rfl)
end Go.Proofs.YtgjkifdilflcbaaGreat
namespace Go.Proofs.YtgjkifdilflcbaaGreat
open Go.RowKit Tr
def RawG.vals(g:RawG):List Value:=[.bool g.n1,.string g.s1,.bool g.n2,.string g.s2,.bool g.n3,.string g.s3,.bool g.n4,.string g.s4]
def RawP.vals(p:RawP):List Value:=.bool p.i :: p.g.vals
def syms(i n:Nat):List AC:=(List.range n).map fun k=>.sym (i+k)
theorem rawG_inj{g h:RawG}(e:g.val=h.val):g=h:=by
 obtain⟨n1,n2,n3,n4,s1,s2,s3,s4⟩:=g
 obtain⟨m1,m2,m3,m4,t1,t2,t3,t4⟩:=h
 simp only[RawG.val,Value.agg.injEq,Array.mk.injEq,List.cons.injEq,Value.bool.injEq,Value.string.injEq,and_true] at e
 obtain⟨rfl,rfl,rfl,rfl,rfl,rfl,rfl,rfl⟩:=e
 rfl
theorem gOk_raw{g:RawG}(h:GOk g.val):∃ z,g=rawQ z∧ShortZ z:=by
 obtain⟨z,e,hs⟩:=h
 exact⟨z,rawG_inj (by rw[e,rawQ_val]),hs⟩
theorem rawQ_ok{z:QC}(h:ShortZ z):GOk (rawQ z).val:=⟨z,rawQ_val z,h⟩
end Go.Proofs.YtgjkifdilflcbaaGreat
namespace Go.Proofs.YtgjkifdilflcbaaGreat
open Go.RowKit Tr
end Go.Proofs.YtgjkifdilflcbaaGreat
