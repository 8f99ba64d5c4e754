/- Laws for the walk. -/
import Derived.Test.YtmimficdpfmfgaaGreatZax
set_option linter.unusedVariables false
set_option maxHeartbeats 4000000
namespace Go.Proofs.YtmimficdpfmfgaaGreat
open Go.RowKit Tr
structure Qcc where
 (n1 n2 n3 n4:Bool)
 (s1 s2 s3 s4:ByteArray)
def Qcc.val(g:Qcc):Value:=.agg #[.bool g.n1,.string g.s1,.bool g.n2,.string g.s2,.bool g.n3,.string g.s3,.bool g.n4,.string g.s4]
def Qcc.cells(g:Qcc):List GF:=[gx (.bool g.n1),gx (.string g.s1),gx (.bool g.n2),gx (.string g.s2),gx (.bool g.n3),gx (.string g.s3),gx (.bool g.n4),gx (.string g.s4)]
structure RawP where
 i:Bool
 g:Qcc
def RawP.val(p:RawP):Value:=.agg #[.bool p.i,.bool p.g.n1,.string p.g.s1,.bool p.g.n2,.string p.g.s2,.bool p.g.n3,.string p.g.s3,.bool p.g.n4,.string p.g.s4]
def RawP.cells(p:RawP):List GF:=gx (.bool p.i) :: p.g.cells
def gA(i:Nat):List AC:=[.sym i,.sym (i+1),.sym (i+2),.sym (i+3),.sym (i+4),.sym (i+5),.sym (i+6),.sym (i+7)]
def pA(i:Nat):List AC:=[.sym i,.sym (i+1),.sym (i+2),.sym (i+3),.sym (i+4),.sym (i+5),.sym (i+6),.sym (i+7),.sym (i+8)]
def cG(z:QC):List GF:=cF z.re++cF z.im
def GOk(v:Value):Prop:=∃ z:QC,v=encQ z∧Qaf z
theorem gOk_iff(g:Qcc):GOk g.val↔FracOk (.agg #[.bool g.n1,.string g.s1,.bool g.n2,.string g.s2])∧FracOk (.agg #[.bool g.n3,.string g.s3,.bool g.n4,.string g.s4]):=by
 constructor
 ·rintro⟨z,e,h1,h2⟩
  unfold Qcc.val encQ encG at e
  simp only[Value.agg.injEq,Array.mk.injEq,List.cons.injEq,Value.bool.injEq,Value.string.injEq,and_true] at e
  obtain⟨e1,e2,e3,e4,e5,e6,e7,e8⟩:=e
  exact⟨⟨z.re,by unfold encF; rw[e1,e2,e3,e4],h1⟩,⟨z.im,by unfold encF; rw[e5,e6,e7,e8],h2⟩⟩
 ·rintro⟨⟨a,e,h1⟩,⟨b,f,h2⟩⟩
  obtain⟨e1,e2,e3,e4⟩:=encF_parts e
  obtain⟨f1,f2,f3,f4⟩:=encF_parts f
  refine⟨⟨a,b⟩,?_,h1,h2⟩
  unfold Qcc.val encQ encG
  rw[e1,e2,e3,e4,f1,f2,f3,f4]
set_option maxRecDepth 100000 in
theorem run_eql_rp(w:World)(p q:RawP)(r:Bool)(hr:r=true↔p.val=q.val):(binOp .eql 81 p.val q.val).run Tryz.prog w=.ok (.bool r) w:=by
 obtain⟨i,n1,n2,n3,n4,s1,s2,s3,s4⟩:=p
 obtain⟨j,m1,m2,m3,m4,t1,t2,t3,t4⟩:=q
 simp only[RawP.val] at hr ⊢
 simp only[Value.agg.injEq,Array.mk.injEq,List.cons.injEq,Value.bool.injEq,Value.string.injEq,and_true] at hr
 go_simp
 simp only[toL_iff]
 cases r
 ·have hn:¬(i=j∧n1=m1∧s1=t1∧n2=m2∧s2=t2∧n3=m3∧s3=t3∧n4=m4∧s4=t4):=fun h=>by cases hr.2 h
  repeat' split
  all_goals first
   | rfl
   | (exfalso; apply hn; refine⟨?_,?_,?_,?_,?_,?_,?_,?_,?_⟩<;>assumption)
 ·obtain⟨rfl,rfl,rfl,rfl,rfl,rfl,rfl,rfl,rfl⟩:=hr.1 rfl
  simp
set_option maxRecDepth 100000 in
theorem run_eql_rg(w:World)(p q:Qcc)(r:Bool)(hr:r=true↔p.val=q.val):(binOp .eql 28 p.val q.val).run Tryz.prog w=.ok (.bool r) w:=by
 obtain⟨n1,n2,n3,n4,s1,s2,s3,s4⟩:=p
 obtain⟨m1,m2,m3,m4,t1,t2,t3,t4⟩:=q
 simp only[Qcc.val] at hr ⊢
 simp only[Value.agg.injEq,Array.mk.injEq,List.cons.injEq,Value.bool.injEq,Value.string.injEq,and_true] at hr
 go_simp
 simp only[toL_iff]
 cases r
 ·have hn:¬(n1=m1∧s1=t1∧n2=m2∧s2=t2∧n3=m3∧s3=t3∧n4=m4∧s4=t4):=fun h=>by cases hr.2 h
  repeat' split
  all_goals first
   | rfl
   | (exfalso; apply hn; refine⟨?_,?_,?_,?_,?_,?_,?_,?_⟩<;>assumption)
 ·obtain⟨rfl,rfl,rfl,rfl,rfl,rfl,rfl,rfl⟩:=hr.1 rfl
  simp
def Qae(z:QC):Qcc:=⟨decide (z.re.num<0),false,decide (z.im.num<0),false,strN z.re.num.natAbs,strN z.re.den,strN z.im.num.natAbs,strN z.im.den⟩
theorem Qeg(z:QC):(Qae z).val=encQ z:=rfl
def rawPt:Pt→RawP
 | none=>⟨true,⟨false,false,false,false,⟨#[]⟩,⟨#[]⟩,⟨#[]⟩,⟨#[]⟩⟩⟩
 | some z=>⟨false,Qae z⟩
theorem encF_inj'{x y:Rat}(h:encF x=encF y):x=y:=by
 have:=h
 unfold encF at h
 simp only[Value.agg.injEq,Array.mk.injEq,List.cons.injEq,Value.bool.injEq,Value.string.injEq,and_true,true_and] at h
 obtain⟨h1,h2,h3⟩:=h
 have e2:=strN_inj h2
 have e3:=strN_inj h3
 refine Rat.ext ?_ e3
 by_cases hx:x.num<0<;>by_cases hy:y.num<0<;>simp[hx,hy] at h1<;>omega
theorem encQ_inj'{x y:QC}(h:encQ x=encQ y):x=y:=by
 unfold encQ encG at h
 simp only[Value.agg.injEq,Array.mk.injEq,List.cons.injEq,Value.bool.injEq,Value.string.injEq,and_true,true_and] at h
 obtain⟨h1,h2,h3,h4,h5,h6⟩:=h
 have e1:x.re=y.re:=encF_inj' (by unfold encF; rw[h1,h2,h3])
 have e2:x.im=y.im:=encF_inj' (by unfold encF; rw[h4,h5,h6])
 cases x; cases y; simp_all
theorem gint(a b:Int)(a1:-9223372036854775808≤a)(a2:a<9223372036854775808)(b1:-9223372036854775808≤b)(b2:b<9223372036854775808):PureC Tryz.prog 84 [.int .i64 (a),.int .i64 (b)] ((encQ (⟨(a:Rat),(b:Rat)⟩))):=by
  exact ev_pure (hp:=false) (L:=[gx (.int .i64 (a))]++[gx (.int .i64 (b))]++cG (⟨(a:Rat),(b:Rat)⟩)) tys_ok mixed
    [gp 51 [.c (.sym 0)] (.r (.row [.sym 2,.sym 3,.lit (.bool false),.sym 4])) eo51 (fint a a1 a2) rfl rfl,gp 51 [.c (.sym 1)] (.r (.row [.sym 5,.sym 6,.lit (.bool false),.sym 7])) eo51 (fint b b1 b2) rfl rfl]
    [] []
    Tryz.func84 100 [.c (.sym 0),.c (.sym 1)] (.r (.row [.sym 2,.sym 3,.lit (.bool false),.sym 4,.sym 5,.sym 6,.lit (.bool false),.sym 7])) (by kernel_rfl) rfl rfl
theorem gzero(z:QC)(r:Bool)(hr:r=true↔z=⟨0,0⟩):PureC Tryz.prog 90 [encQ z] (.bool r):=by
  have hs:∀ q:Rat,q.num.sign=0↔q=0:=fun q=>by rw[Int.sign_eq_zero_iff_zero,Rat.num_eq_zero]
  by_cases h1:z.re=0
  · exact ev_pure (hp := false) (L := cG z ++ [gx (.int .i64 z.re.num.sign),gx (.int .i64 z.im.num.sign),gx (.bool r)]) tys_ok mixed
      [gp 107 [.row [.sym 0,.sym 1,.lit (.bool false),.sym 2]] (.r (.c (.sym 6))) eo107 (fsign z.re) rfl rfl,gp 107 [.row [.sym 3,.sym 4,.lit (.bool false),.sym 5]] (.r (.c (.sym 7))) eo107 (fsign z.im) rfl rfl]
      [gbInt .eql 3 .i64 (.sym 6) (.lit (.int .i64 0)) _ _ true (by simp only[cmpB]; rw[(hs _).2 h1]; rfl) rfl rfl,gb .eql 3 (.c (.sym 7)) (.c (.lit (.int .i64 0))) (.sym 8) (int_cmp .eql _ .i64 _ _ r (by
         simp only[cmpB]; congr 1; rw[Bool.eq_iff_iff,hr,beq_iff_eq,hs]; cases z; simp at h1; subst h1; simp)) rfl rfl rfl] []
      Tryz.func90 100 [.row [.sym 0,.sym 1,.lit (.bool false),.sym 2,.sym 3,.sym 4,.lit (.bool false),.sym 5]] (.r (.c (.sym 8))) (by kernel_rfl) rfl rfl
  · have hr':r=false:=by cases r; rfl; exact absurd (by rw[hr.1 rfl]) h1
    subst hr'
    exact ev_pure (hp:=false) (L:=cG z++[gx (.int .i64 z.re.num.sign)]) tys_ok mixed
      [gp 107 [.row [.sym 0,.sym 1,.lit (.bool false),.sym 2]] (.r (.c (.sym 6))) eo107 (fsign z.re) rfl rfl]
      [gbInt .eql 3 .i64 (.sym 6) (.lit (.int .i64 0)) _ _ false (by simp only[cmpB]; congr 1; rw[beq_eq_false_iff_ne]; exact fun h=>h1 ((hs _).1 h)) rfl rfl] []
      Tryz.func90 100 [.row [.sym 0,.sym 1,.lit (.bool false),.sym 2,.sym 3,.sym 4,.lit (.bool false),.sym 5]] (.r (.c (.lit (.bool false)))) (by kernel_rfl) rfl rfl
theorem gmay(g:Qcc)(r:Bool)(hr:r=true↔GOk g.val):PureC Tryz.prog 87 [g.val] (.bool r):=by
  rw[gOk_iff] at hr
  obtain⟨a,ha⟩:∃ a:Bool,a=true↔FracOk (.agg #[.bool g.n1,.string g.s1,.bool g.n2,.string g.s2]):=by
    by_cases h:FracOk (.agg #[.bool g.n1,.string g.s1,.bool g.n2,.string g.s2])
    · exact⟨true,by simp[h]⟩
    · exact⟨false,by simp[h]⟩
  have h1:=fmay g.n1 g.n2 g.s1 g.s2 a ha
  cases a
  · have hr':r=false:=by cases r; rfl; have:=ha.2 (hr.1 rfl).1; cases this
    subst hr'
    exact ev_pure (hp:=false) (L:=g.cells) tys_ok mixed
      [gp 57 [.row (zA 0++zA 2)] (.r (.c (.lit (.bool false)))) eo57 h1 rfl rfl] [] []
      Tryz.func87 100 [.row (gA 0)] (.r (.c (.lit (.bool false)))) (by kernel_rfl) rfl rfl
  · have h2:=fmay g.n3 g.n4 g.s3 g.s4 r (by rw[hr]; exact⟨fun h=>h.2,fun h=>⟨ha.1 rfl,h⟩⟩)
    exact ev_pure (hp:=false) (L:=g.cells++[gx (.bool r)]) tys_ok mixed
      [gp 57 [.row (zA 0++zA 2)] (.r (.c (.lit (.bool true)))) eo57 h1 rfl rfl,gp 57 [.row (zA 4++zA 6)] (.r (.c (.sym 8))) eo57 h2 rfl rfl] [] []
      Tryz.func87 100 [.row (gA 0)] (.r (.c (.sym 8))) (by kernel_rfl) rfl rfl
theorem gfits(z:QC)(r:Bool)(hr:r=true↔Qaf z):PureC Tryz.prog 196 [encQ z] (.bool r):=by
  have h1:=ffits (decide (z.re.num<0)) false (strN z.re.num.natAbs) (strN z.re.den) _ rfl
  have h2:=ffits (decide (z.im.num<0)) false (strN z.im.num.natAbs) (strN z.im.den) _ rfl
  by_cases ha:Qam z.re
  · rw[show decide ((strN z.re.num.natAbs).size≤1024∧(strN z.re.den).size≤1024)=true from decide_eq_true ha] at h1
    rw[show decide ((strN z.im.num.natAbs).size≤1024∧(strN z.im.den).size≤1024)=r by rw[Bool.eq_iff_iff,decide_eq_true_iff,hr]; exact⟨fun h=>⟨ha,h⟩,fun h=>h.2⟩] at h2
    exact ev_pure (hp:=false) (L:=cG z++[gx (.bool r)]) tys_ok mixed
      [gp 132 [.row [.sym 0,.sym 1,.lit (.bool false),.sym 2]] (.r (.c (.lit (.bool true)))) eo132 h1 rfl rfl,gp 132 [.row [.sym 3,.sym 4,.lit (.bool false),.sym 5]] (.r (.c (.sym 6))) eo132 h2 rfl rfl] [] []
      Tryz.func196 100 [.row [.sym 0,.sym 1,.lit (.bool false),.sym 2,.sym 3,.sym 4,.lit (.bool false),.sym 5]] (.r (.c (.sym 6))) (by kernel_rfl) rfl rfl
  · rw[show decide ((strN z.re.num.natAbs).size≤1024∧(strN z.re.den).size≤1024)=false from decide_eq_false ha] at h1
    have hr':r=false:=by cases r; rfl; exact absurd (hr.1 rfl).1 ha
    subst hr'
    exact ev_pure (hp:=false) (L:=cG z) tys_ok mixed
      [gp 132 [.row [.sym 0,.sym 1,.lit (.bool false),.sym 2]] (.r (.c (.lit (.bool false)))) eo132 h1 rfl rfl] [] []
      Tryz.func196 100 [.row [.sym 0,.sym 1,.lit (.bool false),.sym 2,.sym 3,.sym 4,.lit (.bool false),.sym 5]] (.r (.c (.lit (.bool false)))) (by kernel_rfl) rfl rfl
end Go.Proofs.YtmimficdpfmfgaaGreat
namespace Tr
open Go Go.RowKit Go.Proofs.YtmimficdpfmfgaaGreat
theorem ZL.r{z:QC}{k:Nat}(h:ZL z k):RL z.re k:=h.1
theorem ZL.i{z:QC}{k:Nat}(h:ZL z k):RL z.im k:=h.2
end Tr
namespace Go.Proofs.YtmimficdpfmfgaaGreat
open Go.RowKit Tr
theorem gplus(x y:QC)(hx:ZL x 134217728)(hy:ZL y 134217728):PureC Tryz.prog 183 [encQ (x),encQ (y)] ((encQ (x+y))):=by
  exact ev_pure (hp:=false) (L:=cG (x)++cG (y)++cG (x+y)) tys_ok mixed
    [gp 137 [.row [.sym 0,.sym 1,.lit (.bool false),.sym 2],.row [.sym 6,.sym 7,.lit (.bool false),.sym 8]] (.r (.row [.sym 12,.sym 13,.lit (.bool false),.sym 14])) eo137 (fplus _ _ hx.1 hy.1) rfl rfl,gp 137 [.row [.sym 3,.sym 4,.lit (.bool false),.sym 5],.row [.sym 9,.sym 10,.lit (.bool false),.sym 11]] (.r (.row [.sym 15,.sym 16,.lit (.bool false),.sym 17])) eo137 (fplus _ _ hx.2 hy.2) rfl rfl]
    [] []
    Tryz.func183 100 [.row [.sym 0,.sym 1,.lit (.bool false),.sym 2,.sym 3,.sym 4,.lit (.bool false),.sym 5],.row [.sym 6,.sym 7,.lit (.bool false),.sym 8,.sym 9,.sym 10,.lit (.bool false),.sym 11]] (.r (.row [.sym 12,.sym 13,.lit (.bool false),.sym 14,.sym 15,.sym 16,.lit (.bool false),.sym 17])) (by kernel_rfl) rfl rfl
theorem gneg(z:QC):PureC Tryz.prog 164 [encQ z] (encQ ⟨-z.re,-z.im⟩) :=
  ev_pure (hp:=false) (L:=cG z++cG ⟨-z.re,-z.im⟩) tys_ok mixed
    [gp 144 [.row [.sym 0,.sym 1,.lit (.bool false),.sym 2]] (.r (.row [.sym 6,.sym 7,.lit (.bool false),.sym 8])) eo144 (fneg z.re) rfl rfl,gp 144 [.row [.sym 3,.sym 4,.lit (.bool false),.sym 5]] (.r (.row [.sym 9,.sym 10,.lit (.bool false),.sym 11])) eo144 (fneg z.im) rfl rfl] [] []
    Tryz.func164 100 [.row [.sym 0,.sym 1,.lit (.bool false),.sym 2,.sym 3,.sym 4,.lit (.bool false),.sym 5]] (.r (.row [.sym 6,.sym 7,.lit (.bool false),.sym 8,.sym 9,.sym 10,.lit (.bool false),.sym 11])) (by kernel_rfl) rfl rfl
theorem gconj(z:QC):PureC Tryz.prog 165 [encQ z] (encQ ⟨z.re,-z.im⟩) :=
 ev_pure (hp:=false) (L:=cG z++cF (-z.im)) tys_ok mixed
  [gp 144 [.row [.sym 3,.sym 4,.lit (.bool false),.sym 5]] (.r (.row [.sym 6,.sym 7,.lit (.bool false),.sym 8])) eo144 (fneg z.im) rfl rfl] [] []
  Tryz.func165 100 [.row [.sym 0,.sym 1,.lit (.bool false),.sym 2,.sym 3,.sym 4,.lit (.bool false),.sym 5]] (.r (.row [.sym 0,.sym 1,.lit (.bool false),.sym 2,.sym 6,.sym 7,.lit (.bool false),.sym 8])) (by kernel_rfl) rfl rfl
theorem sub_plus(x y:QC):x+⟨-y.re,-y.im⟩=x - y:=by
 show(⟨x.re+-y.re,x.im+-y.im⟩:QC)=⟨x.re - y.re,x.im - y.im⟩
 rw[Rat.sub_eq_add_neg,Rat.sub_eq_add_neg]
theorem ZL_negc{y:QC}{k:Nat}(h:ZL y k):ZL ⟨-y.re,-y.im⟩ k:=⟨RL_neg h.1,RL_neg h.2⟩
theorem ZL_conjc{y:QC}{k:Nat}(h:ZL y k):ZL ⟨y.re,-y.im⟩ k:=⟨h.1,RL_neg h.2⟩
theorem gminus(x y:QC)(hx:ZL x 134217728)(hy:ZL y 134217728):PureC Tryz.prog 134 [encQ (x),encQ (y)] ((encQ (x - y))):=by
  have hp:=gplus x ⟨-y.re,-y.im⟩ hx (ZL_negc hy)
  rw[sub_plus] at hp
  exact ev_pure (hp:=false) (L:=cG (x)++cG (y)++cG (⟨-y.re,-y.im⟩)++cG (x - y)) tys_ok mixed
    [gp 164 [.row [.sym 6,.sym 7,.lit (.bool false),.sym 8,.sym 9,.sym 10,.lit (.bool false),.sym 11]] (.r (.row [.sym 12,.sym 13,.lit (.bool false),.sym 14,.sym 15,.sym 16,.lit (.bool false),.sym 17])) eo164 (gneg y) rfl rfl,gp 183 [.row [.sym 0,.sym 1,.lit (.bool false),.sym 2,.sym 3,.sym 4,.lit (.bool false),.sym 5],.row [.sym 12,.sym 13,.lit (.bool false),.sym 14,.sym 15,.sym 16,.lit (.bool false),.sym 17]] (.r (.row [.sym 18,.sym 19,.lit (.bool false),.sym 20,.sym 21,.sym 22,.lit (.bool false),.sym 23])) eo183 (hp) rfl rfl]
    [] []
    Tryz.func134 100 [.row [.sym 0,.sym 1,.lit (.bool false),.sym 2,.sym 3,.sym 4,.lit (.bool false),.sym 5],.row [.sym 6,.sym 7,.lit (.bool false),.sym 8,.sym 9,.sym 10,.lit (.bool false),.sym 11]] (.r (.row [.sym 18,.sym 19,.lit (.bool false),.sym 20,.sym 21,.sym 22,.lit (.bool false),.sym 23])) (by kernel_rfl) rfl rfl
theorem gtimes(x y:QC)(hx:ZL x 33554432)(hy:ZL y 33554432):PureC Tryz.prog 182 [encQ (x),encQ (y)] ((encQ (x*y))):=by
  exact ev_pure (hp:=false) (L:=cG (x)++cG (y)++cF (x.re*y.re)++cF (x.im*y.im)++cF (x.re*y.im)++cF (x.im*y.re)++cG (x*y)) tys_ok mixed
    [gp 135 [.row [.sym 0,.sym 1,.lit (.bool false),.sym 2],.row [.sym 6,.sym 7,.lit (.bool false),.sym 8]] (.r (.row [.sym 12,.sym 13,.lit (.bool false),.sym 14])) eo135 (ftimes _ _ (hx.1.mono (by decide)) (hy.1.mono (by decide))) rfl rfl,gp 135 [.row [.sym 3,.sym 4,.lit (.bool false),.sym 5],.row [.sym 9,.sym 10,.lit (.bool false),.sym 11]] (.r (.row [.sym 15,.sym 16,.lit (.bool false),.sym 17])) eo135 (ftimes _ _ (hx.2.mono (by decide)) (hy.2.mono (by decide))) rfl rfl,gp 140 [.row [.sym 12,.sym 13,.lit (.bool false),.sym 14],.row [.sym 15,.sym 16,.lit (.bool false),.sym 17]] (.r (.row [.sym 24,.sym 25,.lit (.bool false),.sym 26])) eo140 (fminus _ _ ((RL_mul hx.1 hy.1).mono (by decide)) ((RL_mul hx.2 hy.2).mono (by decide))) rfl rfl,gp 135 [.row [.sym 0,.sym 1,.lit (.bool false),.sym 2],.row [.sym 9,.sym 10,.lit (.bool false),.sym 11]] (.r (.row [.sym 18,.sym 19,.lit (.bool false),.sym 20])) eo135 (ftimes _ _ (hx.1.mono (by decide)) (hy.2.mono (by decide))) rfl rfl,gp 135 [.row [.sym 3,.sym 4,.lit (.bool false),.sym 5],.row [.sym 6,.sym 7,.lit (.bool false),.sym 8]] (.r (.row [.sym 21,.sym 22,.lit (.bool false),.sym 23])) eo135 (ftimes _ _ (hx.2.mono (by decide)) (hy.1.mono (by decide))) rfl rfl,gp 137 [.row [.sym 18,.sym 19,.lit (.bool false),.sym 20],.row [.sym 21,.sym 22,.lit (.bool false),.sym 23]] (.r (.row [.sym 27,.sym 28,.lit (.bool false),.sym 29])) eo137 (fplus _ _ ((RL_mul hx.1 hy.2).mono (by decide)) ((RL_mul hx.2 hy.1).mono (by decide))) rfl rfl]
    [] []
    Tryz.func182 100 [.row [.sym 0,.sym 1,.lit (.bool false),.sym 2,.sym 3,.sym 4,.lit (.bool false),.sym 5],.row [.sym 6,.sym 7,.lit (.bool false),.sym 8,.sym 9,.sym 10,.lit (.bool false),.sym 11]] (.r (.row [.sym 24,.sym 25,.lit (.bool false),.sym 26,.sym 27,.sym 28,.lit (.bool false),.sym 29])) (by kernel_rfl) rfl rfl
theorem gscale(x:QC)(y:Rat)(hx:ZL x 134217728)(hy:RL y 134217728):PureC Tryz.prog 204 [encQ (x),encF (y)] ((encQ (⟨x.re*y,x.im*y⟩))):=by
  exact ev_pure (hp:=false) (L:=cG (x)++cF (y)++cG (⟨x.re*y,x.im*y⟩)) tys_ok mixed
    [gp 135 [.row [.sym 0,.sym 1,.lit (.bool false),.sym 2],.row [.sym 6,.sym 7,.lit (.bool false),.sym 8]] (.r (.row [.sym 9,.sym 10,.lit (.bool false),.sym 11])) eo135 (ftimes _ _ hx.1 hy) rfl rfl,gp 135 [.row [.sym 3,.sym 4,.lit (.bool false),.sym 5],.row [.sym 6,.sym 7,.lit (.bool false),.sym 8]] (.r (.row [.sym 12,.sym 13,.lit (.bool false),.sym 14])) eo135 (ftimes _ _ hx.2 hy) rfl rfl]
    [] []
    Tryz.func204 100 [.row [.sym 0,.sym 1,.lit (.bool false),.sym 2,.sym 3,.sym 4,.lit (.bool false),.sym 5],.row [.sym 6,.sym 7,.lit (.bool false),.sym 8]] (.r (.row [.sym 9,.sym 10,.lit (.bool false),.sym 11,.sym 12,.sym 13,.lit (.bool false),.sym 14])) (by kernel_rfl) rfl rfl
theorem gdot(x y:QC)(hx:ZL x 33554432)(hy:ZL y 33554432):PureC Tryz.prog 217 [encQ (x),encQ (y)] ((encF (x.re*y.re+x.im*y.im))):=by
  exact ev_pure (hp:=false) (L:=cG (x)++cG (y)++cF (x.re*y.re)++cF (x.im*y.im)++cF (x.re*y.re+x.im*y.im)) tys_ok mixed
    [gp 135 [.row [.sym 0,.sym 1,.lit (.bool false),.sym 2],.row [.sym 6,.sym 7,.lit (.bool false),.sym 8]] (.r (.row [.sym 12,.sym 13,.lit (.bool false),.sym 14])) eo135 (ftimes _ _ (hx.1.mono (by decide)) (hy.1.mono (by decide))) rfl rfl,gp 135 [.row [.sym 3,.sym 4,.lit (.bool false),.sym 5],.row [.sym 9,.sym 10,.lit (.bool false),.sym 11]] (.r (.row [.sym 15,.sym 16,.lit (.bool false),.sym 17])) eo135 (ftimes _ _ (hx.2.mono (by decide)) (hy.2.mono (by decide))) rfl rfl,gp 137 [.row [.sym 12,.sym 13,.lit (.bool false),.sym 14],.row [.sym 15,.sym 16,.lit (.bool false),.sym 17]] (.r (.row [.sym 18,.sym 19,.lit (.bool false),.sym 20])) eo137 (fplus _ _ ((RL_mul hx.1 hy.1).mono (by decide)) ((RL_mul hx.2 hy.2).mono (by decide))) rfl rfl]
    [] []
    Tryz.func217 100 [.row [.sym 0,.sym 1,.lit (.bool false),.sym 2,.sym 3,.sym 4,.lit (.bool false),.sym 5],.row [.sym 6,.sym 7,.lit (.bool false),.sym 8,.sym 9,.sym 10,.lit (.bool false),.sym 11]] (.r (.row [.sym 18,.sym 19,.lit (.bool false),.sym 20])) (by kernel_rfl) rfl rfl
theorem gnorm(x:QC)(hx:ZL x 33554432):PureC Tryz.prog 133 [encQ (x)] ((encF (x.re*x.re+x.im*x.im))):=by
 exact ev_pure (hp:=false) (L:=cG (x)++cF (x.re*x.re+x.im*x.im)) tys_ok mixed
  [gp 217 [.row [.sym 0,.sym 1,.lit (.bool false),.sym 2,.sym 3,.sym 4,.lit (.bool false),.sym 5],.row [.sym 0,.sym 1,.lit (.bool false),.sym 2,.sym 3,.sym 4,.lit (.bool false),.sym 5]] (.r (.row [.sym 6,.sym 7,.lit (.bool false),.sym 8])) eo217 (gdot x x hx hx) rfl rfl]
  [] []
  Tryz.func133 100 [.row [.sym 0,.sym 1,.lit (.bool false),.sym 2,.sym 3,.sym 4,.lit (.bool false),.sym 5]] (.r (.row [.sym 6,.sym 7,.lit (.bool false),.sym 8])) (by kernel_rfl) rfl rfl
theorem gover(x y:QC)(hx:ZL x 6000000)(hy:ZL y 6000000)(h0:y≠⟨0,0⟩):PureC Tryz.prog 180 [encQ x,encQ y] (encQ (x / y)):=by
  obtain⟨c,hcd⟩:∃ c:QC,c=⟨y.re,-y.im⟩:=⟨_,rfl⟩
  obtain⟨t,ht⟩:∃ t:QC,t=x*c:=⟨_,rfl⟩
  obtain⟨n,hn⟩:∃ n:Rat,n=y.re*y.re+y.im*y.im:=⟨_,rfl⟩
  have hcl:ZL c 6000000:=by rw[hcd]; exact ZL_conjc hy
  have hnl:RL n 24000004:=by rw[hn]; exact(RL_add (RL_mul hy.1 hy.1) (RL_mul hy.2 hy.2)).mono (by decide)
  have hn0:n≠0:=fun h=>h0 (by rw[hn] at h; obtain⟨h1,h2⟩:=norm_zero.1 h; cases y; simp at h1 h2; rw[h1,h2])
  have htl:ZL t 24000004:=by rw[ht]; exact(Qag hx hcl).mono (by decide)
  have hq:x / y=⟨t.re*n⁻¹,t.im*n⁻¹⟩:=by rw[ht,hn,hcd]; rfl
  have hc:=gconj y
  rw[←hcd] at hc
  have h2:=gtimes x c (hx.mono (by decide)) (hcl.mono (by decide))
  rw[←ht] at h2
  have h3:=gnorm y (hy.mono (by decide))
  rw[←hn] at h3
  have h1:=fint 1 (by decide) (by decide)
  rw[show((1:Int):Rat)=1 from rfl] at h1
  have h4:=fover 1 n (RL_one.mono (by decide)) (hnl.mono (by decide)) hn0
  rw[show(1:Rat) / n=n⁻¹ by rw[Rat.div_def]; exact Rat.one_mul _] at h4
  have hs:=gscale t n⁻¹ (htl.mono (by decide)) ((RL_inv hn0 hnl).mono (by decide))
  rw[hq]
  clear hq ht hn hcd
  exact ev_pure (hp:=false) (L:=cG (x)++cG (y)++cG (c)++cG (t)++cF (1)++cF (n)++cF (n⁻¹)++cG (⟨t.re*n⁻¹,t.im*n⁻¹⟩)) tys_ok mixed
    [gp 165 [.row [.sym 6,.sym 7,.lit (.bool false),.sym 8,.sym 9,.sym 10,.lit (.bool false),.sym 11]] (.r (.row [.sym 12,.sym 13,.lit (.bool false),.sym 14,.sym 15,.sym 16,.lit (.bool false),.sym 17])) eo165 (hc) rfl rfl,gp 182 [.row [.sym 0,.sym 1,.lit (.bool false),.sym 2,.sym 3,.sym 4,.lit (.bool false),.sym 5],.row [.sym 12,.sym 13,.lit (.bool false),.sym 14,.sym 15,.sym 16,.lit (.bool false),.sym 17]] (.r (.row [.sym 18,.sym 19,.lit (.bool false),.sym 20,.sym 21,.sym 22,.lit (.bool false),.sym 23])) eo182 (h2) rfl rfl,gp 51 [.c (.lit (.int .i64 1))] (.r (.row [.sym 24,.sym 25,.lit (.bool false),.sym 26])) eo51 (h1) rfl rfl,gp 133 [.row [.sym 6,.sym 7,.lit (.bool false),.sym 8,.sym 9,.sym 10,.lit (.bool false),.sym 11]] (.r (.row [.sym 27,.sym 28,.lit (.bool false),.sym 29])) eo133 (h3) rfl rfl,gp 139 [.row [.sym 24,.sym 25,.lit (.bool false),.sym 26],.row [.sym 27,.sym 28,.lit (.bool false),.sym 29]] (.r (.row [.sym 30,.sym 31,.lit (.bool false),.sym 32])) eo139 (h4) rfl rfl,gp 204 [.row [.sym 18,.sym 19,.lit (.bool false),.sym 20,.sym 21,.sym 22,.lit (.bool false),.sym 23],.row [.sym 30,.sym 31,.lit (.bool false),.sym 32]] (.r (.row [.sym 33,.sym 34,.lit (.bool false),.sym 35,.sym 36,.sym 37,.lit (.bool false),.sym 38])) eo204 (hs) rfl rfl]
    [] []
    Tryz.func180 100 [.row [.sym 0,.sym 1,.lit (.bool false),.sym 2,.sym 3,.sym 4,.lit (.bool false),.sym 5],.row [.sym 6,.sym 7,.lit (.bool false),.sym 8,.sym 9,.sym 10,.lit (.bool false),.sym 11]] (.r (.row [.sym 33,.sym 34,.lit (.bool false),.sym 35,.sym 36,.sym 37,.lit (.bool false),.sym 38])) (by kernel_rfl) rfl rfl
structure RawS where
 x:Qcc
 y:Qcc
def RawS.val(s:RawS):Value:=.agg #[.bool s.x.n1,.string s.x.s1,.bool s.x.n2,.string s.x.s2,.bool s.x.n3,.string s.x.s3,.bool s.x.n4,.string s.x.s4,.bool s.y.n1,.string s.y.s1,.bool s.y.n2,.string s.y.s2,.bool s.y.n3,.string s.y.s3,.bool s.y.n4,.string s.y.s4]
def RawS.cells(s:RawS):List GF:=s.x.cells++s.y.cells
def Qcc.vals(g:Qcc):List Value:=[.bool g.n1,.string g.s1,.bool g.n2,.string g.s2,.bool g.n3,.string g.s3,.bool g.n4,.string g.s4]
def RawP.vals(p:RawP):List Value:=.bool p.i :: p.g.vals
def Qab(i n:Nat):List AC:=(List.range n).map fun k=>.sym (i+k)
theorem rawG_inj{g h:Qcc}(e:g.val=h.val):g=h:=by
 obtain⟨n1,n2,n3,n4,s1,s2,s3,s4⟩:=g
 obtain⟨m1,m2,m3,m4,t1,t2,t3,t4⟩:=h
 simp only[Qcc.val,Value.agg.injEq,Array.mk.injEq,List.cons.injEq,Value.bool.injEq,Value.string.injEq,and_true] at e
 obtain⟨rfl,rfl,rfl,rfl,rfl,rfl,rfl,rfl⟩:=e
 rfl
theorem rawP_inj{p q:RawP}(e:p.val=q.val):p=q:=by
 obtain⟨i,n1,n2,n3,n4,s1,s2,s3,s4⟩:=p
 obtain⟨j,m1,m2,m3,m4,t1,t2,t3,t4⟩:=q
 simp only[RawP.val,Value.agg.injEq,Array.mk.injEq,List.cons.injEq,Value.bool.injEq,Value.string.injEq,and_true] at e
 obtain⟨rfl,rfl,rfl,rfl,rfl,rfl,rfl,rfl,rfl⟩:=e
 rfl
theorem gOk_raw{g:Qcc}(h:GOk g.val):∃ z,g=Qae z∧Qaf z:=by
 obtain⟨z,e,hs⟩:=h
 exact⟨z,rawG_inj (by rw[e,Qeg]),hs⟩
theorem Qbo{z:QC}(h:Qaf z):GOk (Qae z).val:=⟨z,Qeg z,h⟩
end Go.Proofs.YtmimficdpfmfgaaGreat
