/- Laws. -/
import Derived.Test.YtmimficdpfmfgaaGreatWap
import Derived.ChangeKeysEq
set_option linter.all false
set_option maxHeartbeats 4000000
set_option maxRecDepth 100000
namespace Tr
open Go Go.RowKit Go.Proofs.YtmimficdpfmfgaaGreat
def ZL.r{z:QC}{k:Nat}(h:ZL z k):RL z.re k:=h.1
def ZL.i{z:QC}{k:Nat}(h:ZL z k):RL z.im k:=h.2
end Tr
namespace Go.Proofs.YtmimficdpfmfgaaGreat
open Go.RowKit Tr Proofs.Tryz
structure Qbg where
 (n1 n2 n3 n4:Bool)
 (s1 s2 s3 s4:ByteArray)
def Qbg.val(g:Qbg):Value:=.agg #[.bool g.n1,.string g.s1,.bool g.n2,.string g.s2,.bool g.n3,.string g.s3,.bool g.n4,.string g.s4]
def Qbg.cells(g:Qbg):List GF:=[gx (.bool g.n1),gx (.string g.s1),gx (.bool g.n2),gx (.string g.s2),gx (.bool g.n3),gx (.string g.s3),gx (.bool g.n4),gx (.string g.s4)]
structure Kgo where
 i:Bool
 g:Qbg
def Kgo.val(p:Kgo):Value:=.agg #[.bool p.i,.bool p.g.n1,.string p.g.s1,.bool p.g.n2,.string p.g.s2,.bool p.g.n3,.string p.g.s3,.bool p.g.n4,.string p.g.s4]
def Kgo.cells(p:Kgo):List GF:=gx (.bool p.i)::p.g.cells
def gA(i:Nat):List AC:=[.sym i,.sym (i+1),.sym (i+2),.sym (i+3),.sym (i+4),.sym (i+5),.sym (i+6),.sym (i+7)]
def pA(i:Nat):List AC:=[.sym i,.sym (i+1),.sym (i+2),.sym (i+3),.sym (i+4),.sym (i+5),.sym (i+6),.sym (i+7),.sym (i+8)]
def cG(z:QC):List GF:=cF z.re++cF z.im
def GOk(v:Value):Prop:=∃ z:QC,v=Qlq z/\Qaj z
def Ugz(g:Qbg):GOk g.val↔Qey (.agg #[.bool g.n1,.string g.s1,.bool g.n2,.string g.s2])/\Qey (.agg #[.bool g.n3,.string g.s3,.bool g.n4,.string g.s4]):=by
 constructor
 .rintro⟨z,e,h1,h2⟩;unfold Qbg.val Qlq Khk at e;simp only[Value.agg.injEq,Array.mk.injEq,List.cons.injEq,Value.bool.injEq,Value.string.injEq,and_true] at e;obtain⟨e1,e2,e3,e4,e5,e6,e7,e8⟩:=e;exact⟨⟨z.re,by unfold Qew;rw[e1,e2,e3,e4],h1⟩,⟨z.im,by unfold Qew;rw[e5,e6,e7,e8],h2⟩⟩
 .rintro⟨⟨a,e,h1⟩,⟨b,f,h2⟩⟩;obtain⟨e1,e2,e3,e4⟩:=Qdd e;obtain⟨f1,f2,f3,f4⟩:=Qdd f;refine⟨⟨a,b⟩,?_,h1,h2⟩;unfold Qbg.val Qlq Khk;rw[e1,e2,e3,e4,f1,f2,f3,f4]
def Kmm(w:World)(p q:Kgo)(r:Bool)(hr:r=true↔p.val=q.val):(binOp .eql 81 p.val q.val).run prog w=.ok (.bool r) w:=by
 obtain⟨i,n1,n2,n3,n4,s1,s2,s3,s4⟩:=p;obtain⟨j,m1,m2,m3,m4,t1,t2,t3,t4⟩:=q;simp only[Kgo.val] at hr ⊢;simp only[Value.agg.injEq,Array.mk.injEq,List.cons.injEq,Value.bool.injEq,Value.string.injEq,and_true] at hr
 go_simp
 simp only[Qtk];cases r
 .have hn:¬(i=j/\n1=m1/\s1=t1/\n2=m2/\s2=t2/\n3=m3/\s3=t3/\n4=m4/\s4=t4):=fun h=>by cases hr.2 h
  repeat' split
  all_goals first
   | rfl
   | (exfalso;apply hn;refine⟨?_,?_,?_,?_,?_,?_,?_,?_,?_⟩<;>assumption)
 .obtain⟨rfl,rfl,rfl,rfl,rfl,rfl,rfl,rfl,rfl⟩:=hr.1 rfl;simp
def Kml(w:World)(p q:Qbg)(r:Bool)(hr:r=true↔p.val=q.val):(binOp .eql 28 p.val q.val).run prog w=.ok (.bool r) w:=by
 obtain⟨n1,n2,n3,n4,s1,s2,s3,s4⟩:=p;obtain⟨m1,m2,m3,m4,t1,t2,t3,t4⟩:=q;simp only[Qbg.val] at hr ⊢;simp only[Value.agg.injEq,Array.mk.injEq,List.cons.injEq,Value.bool.injEq,Value.string.injEq,and_true] at hr
 go_simp
 simp only[Qtk];cases r
 .have hn:¬(n1=m1/\s1=t1/\n2=m2/\s2=t2/\n3=m3/\s3=t3/\n4=m4/\s4=t4):=fun h=>by cases hr.2 h
  repeat' split
  all_goals first
   | rfl
   | (exfalso;apply hn;refine⟨?_,?_,?_,?_,?_,?_,?_,?_⟩<;>assumption)
 .obtain⟨rfl,rfl,rfl,rfl,rfl,rfl,rfl,rfl⟩:=hr.1 rfl;simp
def Qan(z:QC):Qbg:=⟨decide (z.re.num<0),false,decide (z.im.num<0),false,Qcg z.re.num.natAbs,Qcg z.re.den,Qcg z.im.num.natAbs,Qcg z.im.den⟩
def Qjk(z:QC):(Qan z).val=Qlq z:=rfl
def Uqp:Pt->Kgo
 | none=>⟨true,⟨false,false,false,false,⟨#[]⟩,⟨#[]⟩,⟨#[]⟩,⟨#[]⟩⟩⟩
 | some z=>⟨false,Qan z⟩
def Qgk{x y:Rat}(h:Qew x=Qew y):x=y:=by
 have:=h;unfold Qew at h;simp only[Value.agg.injEq,Array.mk.injEq,List.cons.injEq,Value.bool.injEq,Value.string.injEq,and_true,true_and] at h;obtain⟨h1,h2,h3⟩:=h;have e2:=Qnn h2;have e3:=Qnn h3;refine Rat.ext ?_ e3
 by_cases hx:x.num<0<;>by_cases hy:y.num<0<;>simp[hx,hy] at h1<;>omega
def Kak{x y:QC}(h:Qlq x=Qlq y):x=y:=by
 unfold Qlq Khk at h;simp only[Value.agg.injEq,Array.mk.injEq,List.cons.injEq,Value.bool.injEq,Value.string.injEq,and_true,true_and] at h;obtain⟨h1,h2,h3,h4,h5,h6⟩:=h;have e1:x.re=y.re:=Qgk (by unfold Qew;rw[h1,h2,h3]);have e2:x.im=y.im:=Qgk (by unfold Qew;rw[h4,h5,h6]);cases x;cases y;simp_all
def Vbw(a b:Int)(a1:-9223372036854775808<=a:=by decide)(a2:a<9223372036854775808:=by decide)(b1:-9223372036854775808<=b:=by decide)(b2:b<9223372036854775808:=by decide):PureC prog 84 [.int .i64 (a),.int .i64 (b)] ((Qlq (⟨(a:Rat),(b:Rat)⟩))):=by
  exact Qaw (hp:=false) (L:=[gx (.int .i64 (a))]++[gx (.int .i64 (b))]++cG (⟨(a:Rat),(b:Rat)⟩)) Qae Qai
    [gp 51 [.c (.sym 0)] (.r (.row [.sym 2,.sym 3,.lit (.bool false),.sym 4])) eo51 (Utw a a1 a2) rfl rfl,gp 51 [.c (.sym 1)] (.r (.row [.sym 5,.sym 6,.lit (.bool false),.sym 7])) eo51 (Utw b b1 b2) rfl rfl]
    [] []
    func84 100 [.c (.sym 0),.c (.sym 1)] (.r (.row [.sym 2,.sym 3,.lit (.bool false),.sym 4,.sym 5,.sym 6,.lit (.bool false),.sym 7])) kR rfl rfl
def Uwy(z:QC)(r:Bool)(hr:r=true↔z=⟨0,0⟩):PureC prog 90 [Qlq z] (.bool r):=by
  have hs:∀ q:Rat,q.num.sign=0↔q=0:=fun q=>by rw[Int.sign_eq_zero_iff_zero,Rat.num_eq_zero]
  by_cases h1:z.re=0
  · exact Qaw (hp := false) (L := cG z ++ [gx (.int .i64 z.re.num.sign),gx (.int .i64 z.im.num.sign),gx (.bool r)]) Qae Qai
      [gp 107 [.row [.sym 0,.sym 1,.lit (.bool false),.sym 2]] (.r (.c (.sym 6))) eo107 (Kaq z.re) rfl rfl,gp 107 [.row [.sym 3,.sym 4,.lit (.bool false),.sym 5]] (.r (.c (.sym 7))) eo107 (Kaq z.im) rfl rfl]
      [Qgb .eql 3 .i64 (.sym 6) (.lit (.int .i64 0)) _ _ true (by simp only[Qil];rw[(hs _).2 h1];rfl) rfl rfl,gb .eql 3 (.c (.sym 7)) (.c (.lit (.int .i64 0))) (.sym 8) (Qxu .eql _ .i64 _ _ r (by
         simp only[Qil];congr 1;rw[Bool.eq_iff_iff,hr,beq_iff_eq,hs];cases z;simp at h1;subst h1;simp)) rfl rfl rfl] []
      func90 100 [.row [.sym 0,.sym 1,.lit (.bool false),.sym 2,.sym 3,.sym 4,.lit (.bool false),.sym 5]] (.r (.c (.sym 8))) kR rfl rfl
  · have hr':r=false:=by cases r;rfl;exact absurd (by rw[hr.1 rfl]) h1
    subst hr';exact Qaw (hp:=false) (L:=cG z++[gx (.int .i64 z.re.num.sign)]) Qae Qai
      [gp 107 [.row [.sym 0,.sym 1,.lit (.bool false),.sym 2]] (.r (.c (.sym 6))) eo107 (Kaq z.re) rfl rfl]
      [Qgb .eql 3 .i64 (.sym 6) (.lit (.int .i64 0)) _ _ false (by simp only[Qil];congr 1;rw[beq_eq_false_iff_ne];exact fun h=>h1 ((hs _).1 h)) rfl rfl] []
      func90 100 [.row [.sym 0,.sym 1,.lit (.bool false),.sym 2,.sym 3,.sym 4,.lit (.bool false),.sym 5]] (.r (.c (.lit (.bool false)))) kR rfl rfl
def Vbx(g:Qbg)(r:Bool)(hr:r=true↔GOk g.val):PureC prog 87 [g.val] (.bool r):=by
  rw[Ugz] at hr;obtain⟨a,ha⟩:∃ a:Bool,a=true↔Qey (.agg #[.bool g.n1,.string g.s1,.bool g.n2,.string g.s2]):=by
    by_cases h:Qey (.agg #[.bool g.n1,.string g.s1,.bool g.n2,.string g.s2])
    · exact⟨true,by simp[h]⟩
    · exact⟨false,by simp[h]⟩
  have h1:=Uvx g.n1 g.n2 g.s1 g.s2 a ha;cases a
  · have hr':r=false:=by cases r;rfl;have:=ha.2 (hr.1 rfl).1;cases this
    subst hr';exact Qaw (hp:=false) (L:=g.cells) Qae Qai
      [gp 57 [.row (zA 0++zA 2)] (.r (.c (.lit (.bool false)))) eo57 h1 rfl rfl] [] []
      func87 100 [.row (gA 0)] (.r (.c (.lit (.bool false)))) kR rfl rfl
  · have h2:=Uvx g.n3 g.n4 g.s3 g.s4 r (by rw[hr];exact⟨fun h=>h.2,fun h=>⟨ha.1 rfl,h⟩⟩);exact Qaw (hp:=false) (L:=g.cells++[gx (.bool r)]) Qae Qai
      [gp 57 [.row (zA 0++zA 2)] (.r (.c (.lit (.bool true)))) eo57 h1 rfl rfl,gp 57 [.row (zA 4++zA 6)] (.r (.c (.sym 8))) eo57 h2 rfl rfl] [] []
      func87 100 [.row (gA 0)] (.r (.c (.sym 8))) kR rfl rfl
def Uwv(z:QC)(r:Bool)(hr:r=true↔Qaj z):PureC prog 196 [Qlq z] (.bool r):=by
  have h1:=Kpy (decide (z.re.num<0)) false (Qcg z.re.num.natAbs) (Qcg z.re.den) _ rfl;have h2:=Kpy (decide (z.im.num<0)) false (Qcg z.im.num.natAbs) (Qcg z.im.den) _ rfl
  by_cases ha:Qag z.re
  · rw[show decide ((Qcg z.re.num.natAbs).size<=1024/\(Qcg z.re.den).size<=1024)=true from decide_eq_true ha] at h1;rw[show decide ((Qcg z.im.num.natAbs).size<=1024/\(Qcg z.im.den).size<=1024)=r by rw[Bool.eq_iff_iff,decide_eq_true_iff,hr];exact⟨fun h=>⟨ha,h⟩,fun h=>h.2⟩] at h2;exact Qaw (hp:=false) (L:=cG z++[gx (.bool r)]) Qae Qai
      [gp 132 [.row [.sym 0,.sym 1,.lit (.bool false),.sym 2]] (.r (.c (.lit (.bool true)))) eo132 h1 rfl rfl,gp 132 [.row [.sym 3,.sym 4,.lit (.bool false),.sym 5]] (.r (.c (.sym 6))) eo132 h2 rfl rfl] [] []
      func196 100 [.row [.sym 0,.sym 1,.lit (.bool false),.sym 2,.sym 3,.sym 4,.lit (.bool false),.sym 5]] (.r (.c (.sym 6))) kR rfl rfl
  · rw[show decide ((Qcg z.re.num.natAbs).size<=1024/\(Qcg z.re.den).size<=1024)=false from decide_eq_false ha] at h1;have hr':r=false:=by cases r;rfl;exact absurd (hr.1 rfl).1 ha
    subst hr';exact Qaw (hp:=false) (L:=cG z) Qae Qai
      [gp 132 [.row [.sym 0,.sym 1,.lit (.bool false),.sym 2]] (.r (.c (.lit (.bool false)))) eo132 h1 rfl rfl] [] []
      func196 100 [.row [.sym 0,.sym 1,.lit (.bool false),.sym 2,.sym 3,.sym 4,.lit (.bool false),.sym 5]] (.r (.c (.lit (.bool false)))) kR rfl rfl
def Uop(x y:QC)(hx:ZL x 134217728)(hy:ZL y 134217728):PureC prog 183 [Qlq (x),Qlq (y)] ((Qlq (x+y))):=by
  exact Qaw (hp:=false) (L:=cG (x)++cG (y)++cG (x+y)) Qae Qai
    [gp 137 [.row [.sym 0,.sym 1,.lit (.bool false),.sym 2],.row [.sym 6,.sym 7,.lit (.bool false),.sym 8]] (.r (.row [.sym 12,.sym 13,.lit (.bool false),.sym 14])) eo137 (Klf _ _ hx.1 hy.1) rfl rfl,gp 137 [.row [.sym 3,.sym 4,.lit (.bool false),.sym 5],.row [.sym 9,.sym 10,.lit (.bool false),.sym 11]] (.r (.row [.sym 15,.sym 16,.lit (.bool false),.sym 17])) eo137 (Klf _ _ hx.2 hy.2) rfl rfl]
    [] []
    func183 100 [.row [.sym 0,.sym 1,.lit (.bool false),.sym 2,.sym 3,.sym 4,.lit (.bool false),.sym 5],.row [.sym 6,.sym 7,.lit (.bool false),.sym 8,.sym 9,.sym 10,.lit (.bool false),.sym 11]] (.r (.row [.sym 12,.sym 13,.lit (.bool false),.sym 14,.sym 15,.sym 16,.lit (.bool false),.sym 17])) kR rfl rfl
def Uzc(z:QC):PureC prog 164 [Qlq z] (Qlq ⟨-z.re,-z.im⟩) :=
  Qaw (hp:=false) (L:=cG z++cG ⟨-z.re,-z.im⟩) Qae Qai
    [gp 144 [.row [.sym 0,.sym 1,.lit (.bool false),.sym 2]] (.r (.row [.sym 6,.sym 7,.lit (.bool false),.sym 8])) eo144 (Unl z.re) rfl rfl,gp 144 [.row [.sym 3,.sym 4,.lit (.bool false),.sym 5]] (.r (.row [.sym 9,.sym 10,.lit (.bool false),.sym 11])) eo144 (Unl z.im) rfl rfl] [] []
    func164 100 [.row [.sym 0,.sym 1,.lit (.bool false),.sym 2,.sym 3,.sym 4,.lit (.bool false),.sym 5]] (.r (.row [.sym 6,.sym 7,.lit (.bool false),.sym 8,.sym 9,.sym 10,.lit (.bool false),.sym 11])) kR rfl rfl
def Uol(z:QC):PureC prog 165 [Qlq z] (Qlq ⟨z.re,-z.im⟩) :=
 Qaw (hp:=false) (L:=cG z++cF (-z.im)) Qae Qai
  [gp 144 [.row [.sym 3,.sym 4,.lit (.bool false),.sym 5]] (.r (.row [.sym 6,.sym 7,.lit (.bool false),.sym 8])) eo144 (Unl z.im) rfl rfl] [] []
  func165 100 [.row [.sym 0,.sym 1,.lit (.bool false),.sym 2,.sym 3,.sym 4,.lit (.bool false),.sym 5]] (.r (.row [.sym 0,.sym 1,.lit (.bool false),.sym 2,.sym 6,.sym 7,.lit (.bool false),.sym 8])) kR rfl rfl
def Ubh(x y:QC):x+⟨-y.re,-y.im⟩=x-y:=by
 show(⟨x.re+-y.re,x.im+-y.im⟩:QC)=⟨x.re-y.re,x.im-y.im⟩;rw[Rat.sub_eq_add_neg,Rat.sub_eq_add_neg]
def Ufn{y:QC}{k:Nat}(h:ZL y k):ZL ⟨-y.re,-y.im⟩ k:=⟨Qah h.1,Qah h.2⟩
def Kxs{y:QC}{k:Nat}(h:ZL y k):ZL ⟨y.re,-y.im⟩ k:=⟨h.1,Qah h.2⟩
def Uom(x y:QC)(hx:ZL x 134217728)(hy:ZL y 134217728):PureC prog 134 [Qlq (x),Qlq (y)] ((Qlq (x-y))):=by
  have hp:=Uop x ⟨-y.re,-y.im⟩ hx (Ufn hy);rw[Ubh] at hp;exact Qaw (hp:=false) (L:=cG (x)++cG (y)++cG (⟨-y.re,-y.im⟩)++cG (x-y)) Qae Qai
    [gp 164 [.row [.sym 6,.sym 7,.lit (.bool false),.sym 8,.sym 9,.sym 10,.lit (.bool false),.sym 11]] (.r (.row [.sym 12,.sym 13,.lit (.bool false),.sym 14,.sym 15,.sym 16,.lit (.bool false),.sym 17])) eo164 (Uzc y) rfl rfl,gp 183 [.row [.sym 0,.sym 1,.lit (.bool false),.sym 2,.sym 3,.sym 4,.lit (.bool false),.sym 5],.row [.sym 12,.sym 13,.lit (.bool false),.sym 14,.sym 15,.sym 16,.lit (.bool false),.sym 17]] (.r (.row [.sym 18,.sym 19,.lit (.bool false),.sym 20,.sym 21,.sym 22,.lit (.bool false),.sym 23])) eo183 (hp) rfl rfl]
    [] []
    func134 100 [.row [.sym 0,.sym 1,.lit (.bool false),.sym 2,.sym 3,.sym 4,.lit (.bool false),.sym 5],.row [.sym 6,.sym 7,.lit (.bool false),.sym 8,.sym 9,.sym 10,.lit (.bool false),.sym 11]] (.r (.row [.sym 18,.sym 19,.lit (.bool false),.sym 20,.sym 21,.sym 22,.lit (.bool false),.sym 23])) kR rfl rfl
def Ucy(x y:QC)(hx:ZL x 33554432)(hy:ZL y 33554432):PureC prog 182 [Qlq (x),Qlq (y)] ((Qlq (x*y))):=by
  exact Qaw (hp:=false) (L:=cG (x)++cG (y)++cF (x.re*y.re)++cF (x.im*y.im)++cF (x.re*y.im)++cF (x.im*y.re)++cG (x*y)) Qae Qai
    [gp 135 [.row [.sym 0,.sym 1,.lit (.bool false),.sym 2],.row [.sym 6,.sym 7,.lit (.bool false),.sym 8]] (.r (.row [.sym 12,.sym 13,.lit (.bool false),.sym 14])) eo135 (Qmy _ _ (hx.1.mono (by decide)) (hy.1.mono (by decide))) rfl rfl,gp 135 [.row [.sym 3,.sym 4,.lit (.bool false),.sym 5],.row [.sym 9,.sym 10,.lit (.bool false),.sym 11]] (.r (.row [.sym 15,.sym 16,.lit (.bool false),.sym 17])) eo135 (Qmy _ _ (hx.2.mono (by decide)) (hy.2.mono (by decide))) rfl rfl,gp 140 [.row [.sym 12,.sym 13,.lit (.bool false),.sym 14],.row [.sym 15,.sym 16,.lit (.bool false),.sym 17]] (.r (.row [.sym 24,.sym 25,.lit (.bool false),.sym 26])) eo140 (Ucu _ _ ((Qad hx.1 hy.1).mono (by decide)) ((Qad hx.2 hy.2).mono (by decide))) rfl rfl,gp 135 [.row [.sym 0,.sym 1,.lit (.bool false),.sym 2],.row [.sym 9,.sym 10,.lit (.bool false),.sym 11]] (.r (.row [.sym 18,.sym 19,.lit (.bool false),.sym 20])) eo135 (Qmy _ _ (hx.1.mono (by decide)) (hy.2.mono (by decide))) rfl rfl,gp 135 [.row [.sym 3,.sym 4,.lit (.bool false),.sym 5],.row [.sym 6,.sym 7,.lit (.bool false),.sym 8]] (.r (.row [.sym 21,.sym 22,.lit (.bool false),.sym 23])) eo135 (Qmy _ _ (hx.2.mono (by decide)) (hy.1.mono (by decide))) rfl rfl,gp 137 [.row [.sym 18,.sym 19,.lit (.bool false),.sym 20],.row [.sym 21,.sym 22,.lit (.bool false),.sym 23]] (.r (.row [.sym 27,.sym 28,.lit (.bool false),.sym 29])) eo137 (Klf _ _ ((Qad hx.1 hy.2).mono (by decide)) ((Qad hx.2 hy.1).mono (by decide))) rfl rfl]
    [] []
    func182 100 [.row [.sym 0,.sym 1,.lit (.bool false),.sym 2,.sym 3,.sym 4,.lit (.bool false),.sym 5],.row [.sym 6,.sym 7,.lit (.bool false),.sym 8,.sym 9,.sym 10,.lit (.bool false),.sym 11]] (.r (.row [.sym 24,.sym 25,.lit (.bool false),.sym 26,.sym 27,.sym 28,.lit (.bool false),.sym 29])) kR rfl rfl
def Uoq(x:QC)(y:Rat)(hx:ZL x 134217728)(hy:RL y 134217728):PureC prog 204 [Qlq (x),Qew (y)] ((Qlq (⟨x.re*y,x.im*y⟩))):=by
  exact Qaw (hp:=false) (L:=cG (x)++cF (y)++cG (⟨x.re*y,x.im*y⟩)) Qae Qai
    [gp 135 [.row [.sym 0,.sym 1,.lit (.bool false),.sym 2],.row [.sym 6,.sym 7,.lit (.bool false),.sym 8]] (.r (.row [.sym 9,.sym 10,.lit (.bool false),.sym 11])) eo135 (Qmy _ _ hx.1 hy) rfl rfl,gp 135 [.row [.sym 3,.sym 4,.lit (.bool false),.sym 5],.row [.sym 6,.sym 7,.lit (.bool false),.sym 8]] (.r (.row [.sym 12,.sym 13,.lit (.bool false),.sym 14])) eo135 (Qmy _ _ hx.2 hy) rfl rfl]
    [] []
    func204 100 [.row [.sym 0,.sym 1,.lit (.bool false),.sym 2,.sym 3,.sym 4,.lit (.bool false),.sym 5],.row [.sym 6,.sym 7,.lit (.bool false),.sym 8]] (.r (.row [.sym 9,.sym 10,.lit (.bool false),.sym 11,.sym 12,.sym 13,.lit (.bool false),.sym 14])) kR rfl rfl
def Vbv(x y:QC)(hx:ZL x 33554432)(hy:ZL y 33554432):PureC prog 217 [Qlq (x),Qlq (y)] ((Qew (x.re*y.re+x.im*y.im))):=by
  exact Qaw (hp:=false) (L:=cG (x)++cG (y)++cF (x.re*y.re)++cF (x.im*y.im)++cF (x.re*y.re+x.im*y.im)) Qae Qai
    [gp 135 [.row [.sym 0,.sym 1,.lit (.bool false),.sym 2],.row [.sym 6,.sym 7,.lit (.bool false),.sym 8]] (.r (.row [.sym 12,.sym 13,.lit (.bool false),.sym 14])) eo135 (Qmy _ _ (hx.1.mono (by decide)) (hy.1.mono (by decide))) rfl rfl,gp 135 [.row [.sym 3,.sym 4,.lit (.bool false),.sym 5],.row [.sym 9,.sym 10,.lit (.bool false),.sym 11]] (.r (.row [.sym 15,.sym 16,.lit (.bool false),.sym 17])) eo135 (Qmy _ _ (hx.2.mono (by decide)) (hy.2.mono (by decide))) rfl rfl,gp 137 [.row [.sym 12,.sym 13,.lit (.bool false),.sym 14],.row [.sym 15,.sym 16,.lit (.bool false),.sym 17]] (.r (.row [.sym 18,.sym 19,.lit (.bool false),.sym 20])) eo137 (Klf _ _ ((Qad hx.1 hy.1).mono (by decide)) ((Qad hx.2 hy.2).mono (by decide))) rfl rfl]
    [] []
    func217 100 [.row [.sym 0,.sym 1,.lit (.bool false),.sym 2,.sym 3,.sym 4,.lit (.bool false),.sym 5],.row [.sym 6,.sym 7,.lit (.bool false),.sym 8,.sym 9,.sym 10,.lit (.bool false),.sym 11]] (.r (.row [.sym 18,.sym 19,.lit (.bool false),.sym 20])) kR rfl rfl
def Uon(x:QC)(hx:ZL x 33554432):PureC prog 133 [Qlq (x)] ((Qew (x.re*x.re+x.im*x.im))):=by
 exact Qaw (hp:=false) (L:=cG (x)++cF (x.re*x.re+x.im*x.im)) Qae Qai
  [gp 217 [.row [.sym 0,.sym 1,.lit (.bool false),.sym 2,.sym 3,.sym 4,.lit (.bool false),.sym 5],.row [.sym 0,.sym 1,.lit (.bool false),.sym 2,.sym 3,.sym 4,.lit (.bool false),.sym 5]] (.r (.row [.sym 6,.sym 7,.lit (.bool false),.sym 8])) eo217 (Vbv x x hx hx) rfl rfl]
  [] []
  func133 100 [.row [.sym 0,.sym 1,.lit (.bool false),.sym 2,.sym 3,.sym 4,.lit (.bool false),.sym 5]] (.r (.row [.sym 6,.sym 7,.lit (.bool false),.sym 8])) kR rfl rfl
def Uww(x y:QC)(hx:ZL x 6000000)(hy:ZL y 6000000)(h0:y≠⟨0,0⟩):PureC prog 180 [Qlq x,Qlq y] (Qlq (x/y)):=by
  obtain⟨c,hcd⟩:∃ c:QC,c=⟨y.re,-y.im⟩:=⟨_,rfl⟩
  obtain⟨t,ht⟩:∃ t:QC,t=x*c:=⟨_,rfl⟩
  obtain⟨n,hn⟩:∃ n:Rat,n=y.re*y.re+y.im*y.im:=⟨_,rfl⟩
  have hcl:ZL c 6000000:=by rw[hcd];exact Kxs hy
  have hnl:RL n 24000004:=by rw[hn];exact(Qaz (Qad hy.1 hy.1) (Qad hy.2 hy.2)).mono (by decide)
  have hn0:n≠0:=fun h=>h0 (by rw[hn] at h;obtain⟨h1,h2⟩:=Kbc.1 h;cases y;simp at h1 h2;rw[h1,h2])
  have htl:ZL t 24000004:=by rw[ht];exact(Qct hx hcl).mono (by decide)
  have hq:x/y=⟨t.re*n⁻¹,t.im*n⁻¹⟩:=by rw[ht,hn,hcd];rfl
  have hc:=Uol y;rw[<-hcd] at hc;have h2:=Ucy x c (hx.mono (by decide)) (hcl.mono (by decide));rw[<-ht] at h2;have h3:=Uon y (hy.mono (by decide));rw[<-hn] at h3;have h1:=Utw 1 (by decide) (by decide);rw[show((1:Int):Rat)=1 from rfl] at h1;have h4:=Unm 1 n (Umi.mono (by decide)) (hnl.mono (by decide)) hn0;rw[show(1:Rat)/n=n⁻¹ by rw[Rat.div_def];exact Rat.one_mul _] at h4;have hs:=Uoq t n⁻¹ (htl.mono (by decide)) ((Qca hn0 hnl).mono (by decide));rw[hq];clear hq ht hn hcd;exact Qaw (hp:=false) (L:=cG (x)++cG (y)++cG (c)++cG (t)++cF (1)++cF (n)++cF (n⁻¹)++cG (⟨t.re*n⁻¹,t.im*n⁻¹⟩)) Qae Qai
    [gp 165 [.row [.sym 6,.sym 7,.lit (.bool false),.sym 8,.sym 9,.sym 10,.lit (.bool false),.sym 11]] (.r (.row [.sym 12,.sym 13,.lit (.bool false),.sym 14,.sym 15,.sym 16,.lit (.bool false),.sym 17])) eo165 (hc) rfl rfl,gp 182 [.row [.sym 0,.sym 1,.lit (.bool false),.sym 2,.sym 3,.sym 4,.lit (.bool false),.sym 5],.row [.sym 12,.sym 13,.lit (.bool false),.sym 14,.sym 15,.sym 16,.lit (.bool false),.sym 17]] (.r (.row [.sym 18,.sym 19,.lit (.bool false),.sym 20,.sym 21,.sym 22,.lit (.bool false),.sym 23])) eo182 (h2) rfl rfl,gp 51 [.c (.lit (.int .i64 1))] (.r (.row [.sym 24,.sym 25,.lit (.bool false),.sym 26])) eo51 (h1) rfl rfl,gp 133 [.row [.sym 6,.sym 7,.lit (.bool false),.sym 8,.sym 9,.sym 10,.lit (.bool false),.sym 11]] (.r (.row [.sym 27,.sym 28,.lit (.bool false),.sym 29])) eo133 (h3) rfl rfl,gp 139 [.row [.sym 24,.sym 25,.lit (.bool false),.sym 26],.row [.sym 27,.sym 28,.lit (.bool false),.sym 29]] (.r (.row [.sym 30,.sym 31,.lit (.bool false),.sym 32])) eo139 (h4) rfl rfl,gp 204 [.row [.sym 18,.sym 19,.lit (.bool false),.sym 20,.sym 21,.sym 22,.lit (.bool false),.sym 23],.row [.sym 30,.sym 31,.lit (.bool false),.sym 32]] (.r (.row [.sym 33,.sym 34,.lit (.bool false),.sym 35,.sym 36,.sym 37,.lit (.bool false),.sym 38])) eo204 (hs) rfl rfl]
    [] []
    func180 100 [.row [.sym 0,.sym 1,.lit (.bool false),.sym 2,.sym 3,.sym 4,.lit (.bool false),.sym 5],.row [.sym 6,.sym 7,.lit (.bool false),.sym 8,.sym 9,.sym 10,.lit (.bool false),.sym 11]] (.r (.row [.sym 33,.sym 34,.lit (.bool false),.sym 35,.sym 36,.sym 37,.lit (.bool false),.sym 38])) kR rfl rfl
structure Uti where
 x:Qbg
 y:Qbg
def Uti.val(s:Uti):Value:=.agg #[.bool s.x.n1,.string s.x.s1,.bool s.x.n2,.string s.x.s2,.bool s.x.n3,.string s.x.s3,.bool s.x.n4,.string s.x.s4,.bool s.y.n1,.string s.y.s1,.bool s.y.n2,.string s.y.s2,.bool s.y.n3,.string s.y.s3,.bool s.y.n4,.string s.y.s4]
def Uti.cells(s:Uti):List GF:=s.x.cells++s.y.cells
def Qbg.vals(g:Qbg):List Value:=[.bool g.n1,.string g.s1,.bool g.n2,.string g.s2,.bool g.n3,.string g.s3,.bool g.n4,.string g.s4]
def Kgo.vals(p:Kgo):List Value:=.bool p.i::p.g.vals
def Qbd(i n:Nat):List AC:=(List.range n).map fun k=>.sym (i+k)
def Kis{g h:Qbg}(e:g.val=h.val):g=h:=by
 obtain⟨n1,n2,n3,n4,s1,s2,s3,s4⟩:=g;obtain⟨m1,m2,m3,m4,t1,t2,t3,t4⟩:=h;simp only[Qbg.val,Value.agg.injEq,Array.mk.injEq,List.cons.injEq,Value.bool.injEq,Value.string.injEq,and_true] at e;obtain⟨rfl,rfl,rfl,rfl,rfl,rfl,rfl,rfl⟩:=e;rfl
def Uav{p q:Kgo}(e:p.val=q.val):p=q:=by
 obtain⟨i,n1,n2,n3,n4,s1,s2,s3,s4⟩:=p;obtain⟨j,m1,m2,m3,m4,t1,t2,t3,t4⟩:=q;simp only[Kgo.val,Value.agg.injEq,Array.mk.injEq,List.cons.injEq,Value.bool.injEq,Value.string.injEq,and_true] at e;obtain⟨rfl,rfl,rfl,rfl,rfl,rfl,rfl,rfl,rfl⟩:=e;rfl
def Qse{g:Qbg}(h:GOk g.val):∃ z,g=Qan z/\Qaj z:=by
 obtain⟨z,e,hs⟩:=h;exact⟨z,Kis (by rw[e,Qjk]),hs⟩
def Qjj{z:QC}(h:Qaj z):GOk (Qan z).val:=⟨z,Qjk z,h⟩
end Go.Proofs.YtmimficdpfmfgaaGreat
namespace Tr
open Go Go.RowKit
inductive FR where
 | c (g:GF)|row (l:List GF)
inductive FV where
 | r (x:FR)|tup (l:List FR)
def gl(l:LV):GF:=gx l.val (by cases l<;>rfl)
def okg:List GF->List Value->World->(Nat->Prop)->Prop
 | [],[],_,_=>True
 | g::l,v::vs,w,A=>g.R v w A/\okg l vs w A
 | _,_,_,_=>False
def FR.R:FR->Qcq
 | .c g=>g.R
 | .row l=>fun v w A=>∃ vs,v=.agg vs.toArray/\okg l vs w A
def okf:List FR->List Value->World->(Nat->Prop)->Prop
 | [],[],_,_=>True
 | x::l,v::vs,w,A=>x.R v w A/\okf l vs w A
 | _,_,_,_=>False
def FV.R:FV->Qcq
 | .r x=>x.R
 | .tup l=>fun v w A=>∃ vs,v=.tuple vs.toArray/\okf l vs w A
structure Qbj(P:Program)(hp:Bool)(f:FuncId)(args:List FR)(res:FV):Prop where
 ent:Enters P f
 ok:∀(w:World) (A:Nat->Prop) (vs:List Value),(hp=true->Rcv A w)->(∀ n,A n->n<w.heap.size)->okf args vs w A ->
  Calls P f vs.toArray w fun r w'=>∃ v,r=.returned v/\res.R v w' A/\Below w.heap.size w w'
section
variable{P:Program}{hp:Bool}{fi:FuncId}{a:List FR}{r s:FV}{c:Prop}[Decidable c]
def Qbj.it(h:c)(k:Qbj P hp fi a r):Qbj P hp fi a (if c then r else s):=by rw[if_pos h];exact k
def Qbj.ie(h:¬c)(k:Qbj P hp fi a s):Qbj P hp fi a (if c then r else s):=by rw[if_neg h];exact k
def Qbj.t(k:Qbj P hp fi a (if c then r else s))(h:c):Qbj P hp fi a r:=by rw[if_pos h] at k;exact k
def Qbj.f(k:Qbj P hp fi a (if c then r else s))(h:¬c):Qbj P hp fi a s:=by rw[if_neg h] at k;exact k
end
def gfn(f:FuncId):GF:=gx (.func (.func f) #[] #[])
def AC.lk(L:List GF):AC->Option GF
 | .sym i=>some (L.getD i g0)
 | .lit l=>some (gl l)
 | .fn f [] []=>some (gfn f)
 | _=>none
def Kkr(L:List GF):List AC->Option (List GF)
 | []=>some []
 | x::l=>match x.lk L,Kkr L l with|some v,some vs=>some (v::vs)|_,_=>none
def AR.lk(L:List GF):AR->Option FR
 | .c x=>match x.lk L with|some g=>some (.c g)|none=>none
 | .row l=>match Kkr L l with|some vs=>some (.row vs)|none=>none
def Kda(L:List GF):List AR->Option (List FR)
 | []=>some []
 | x::l=>match x.lk L,Kda L l with|some v,some vs=>some (v::vs)|_,_=>none
def AV.lk(L:List GF):AV->Option FV
 | .r x=>match x.lk L with|some g=>some (.r g)|none=>none
 | .tup l=>match Kda L l with|some vs=>some (.tup vs)|none=>none
 | _=>none
section
variable{P:Program}{L:List GF}{hp:Bool}{σ:Sg}{w:World}{A:Nat->Prop}
def AC.lk_ok{x:AC}{g:GF}{v:Value}(h:x.lk L=some g):x.ok (gT L) σ v w A↔g.R v w A:=by
 cases x with
 | sym i=>cases h;exact Iff.rfl
 | lit l=>cases h;exact Iff.rfl
 | fn f a b =>
  cases a with
  | cons _ _=>cases h
  | nil =>
   cases b with
   | cons _ _=>cases h
   | nil =>
    cases h;constructor
    .rintro⟨us,vs,e,h1,h2⟩;cases us with
     | cons _ _=>exact h1.elim
     | nil =>
      cases vs with
      | cons _ _=>exact h2.elim
      | nil=>exact e
    .intro e;exact⟨[],[],e,trivial,trivial⟩
 | _=>cases h
def Qif:∀{l:List AC} {gs:List GF} {vs:List Value},Kkr L l=some gs->(oks (gT L) σ l vs w A↔okg gs vs w A)
 | [],gs,vs,h=>by cases h;cases vs<;>exact Iff.rfl
 | x::l,gs,vs,h=>by
  unfold Kkr at h
  split at h
  .rename_i u r h1 h2;cases h;cases vs with
   | nil=>exact Iff.rfl
   | cons v vs=>exact and_congr (AC.lk_ok h1) (Qif h2)
  .cases h
def AR.lk_ok{x:AR}{g:FR}{v:Value}(h:x.lk L=some g):x.ok (gT L) σ v w A↔g.R v w A:=by
 cases x with
 | c x =>
  unfold AR.lk at h;simp only at h
  split at h
  .rename_i g' h1;cases h;exact AC.lk_ok (x:=x) h1
  .cases h
 | row l =>
  unfold AR.lk at h;simp only at h
  split at h
  .rename_i gs h1;cases h;exact exists_congr fun vs=>and_congr Iff.rfl (Qif h1)
  .cases h
def Qln:∀{l:List AR} {gs:List FR} {vs:List Value},Kda L l=some gs->(okr (gT L) σ l vs w A↔okf gs vs w A)
 | [],gs,vs,h=>by cases h;cases vs<;>exact Iff.rfl
 | x::l,gs,vs,h=>by
  unfold Kda at h
  split at h
  .rename_i u r h1 h2;cases h;cases vs with
   | nil=>exact Iff.rfl
   | cons v vs=>exact and_congr (AR.lk_ok h1) (Qln h2)
  .cases h
def AV.lk_ok{x:AV}{g:FV}{v:Value}(h:x.lk L=some g):x.ok (gT L) σ v w A↔g.R v w A:=by
 cases x with
 | r x =>
  unfold AV.lk at h;simp only at h
  split at h
  .rename_i g' h1;cases h;exact AR.lk_ok (x:=x) h1
  .cases h
 | tup l =>
  unfold AV.lk at h;simp only at h
  split at h
  .rename_i gs h1;cases h;exact exists_congr fun vs=>and_congr Iff.rfl (Qln h1)
  .cases h
 | _=>cases h
end
section
variable{P:Program}{L:List GF}
def gs{hp' hp:Bool}{f:FuncId}{fa:List FR}{fr:FV}(h:Qbj P hp' f fa fr)(args:List AR)(res:AV)(ha:Kda L args=some fa:=by kernel_rfl)(hr:res.lk L=some fr:=by kernel_rfl)(hh:(!hp'||hp)=true:=by rfl):GC P L hp :=
 ⟨{ f,args,res },h.ent,fun σ w A us hR hA hu _=>by
  have hR':hp'=true->Rcv A w:=fun e=>hR (by subst e;simpa using hh)
  exact(h.ok w A us hR' hA ((Qln ha).1 hu)).mono fun r w' ⟨v,h1,h2,h3⟩=>⟨v,h1,(AV.lk_ok hr).2 h2,h3⟩⟩
def Qco{hp:Bool}{tys:List (TypeId×TyI)}(ht:∀ p∈tys,p.2.good P p.1=true)(hm:P.follows .mixedOrders=true)(C:List (GC P L hp))(B:List (GB P L))(O:List (GO P L)){f:FuncId}{fn:Func}(hf:P.funcs[f]?=some fn)(ent:Enters P f)(fuel:Nat)(args:List AR)(res:AV)
  {fa:List FR} {fr:FV} (hev:evF (gcx tys hp L C B O) fn fuel args res=true:=by kernel_rfl) (ha:Kda L args=some fa:=by kernel_rfl) (hr:res.lk L=some fr:=by kernel_rfl):Qbj P hp f fa fr :=
 ⟨ent,fun w A vs hR hA hu=>(Uct ht hm C B O hf fuel args res hev w A vs hR hA ((Qln ha).2 hu)).mono fun r w' ⟨v,h1,h2,h3⟩=>⟨v,h1,(AV.lk_ok hr).1 h2,h3⟩⟩
def gfV:List GF->Option (List Value)
 | []=>some []
 | g::l=>match g.ex,gfV l with|some v,some vs=>some (v::vs)|_,_=>none
def FR.val:FR->Option Value
 | .c g=>g.ex
 | .row l=>match gfV l with|some vs=>some (.agg vs.toArray)|none=>none
def Uku:List FR->Option (List Value)
 | []=>some []
 | x::l=>match x.val,Uku l with|some v,some vs=>some (v::vs)|_,_=>none
def FV.val:FV->Option Value
 | .r x=>x.val
 | .tup l=>match Uku l with|some vs=>some (.tuple vs.toArray)|none=>none
variable{w:World}{A:Nat->Prop}
def Kqm:∀{l:List GF} {us vs:List Value},gfV l=some us->(okg l vs w A↔vs=us)
 | [],us,vs,h=>by cases h;cases vs<;>simp[okg]
 | g::l,us,vs,h=>by
  unfold gfV at h
  split at h
  .rename_i u r h1 h2;cases h;cases vs with
   | nil=>simp[okg]
   | cons v vs=>simp only[okg,g.exact u h1,Kqm h2,List.cons.injEq]
  .cases h
def FR.val_ok{x:FR}{u v:Value}(h:x.val=some u):x.R v w A↔v=u:=by
 cases x with
 | c g=>exact g.exact u h v w A
 | row l =>
  unfold FR.val at h;simp only at h
  split at h
  .rename_i vs h1;cases h;constructor
   .rintro⟨us,rfl,h2⟩;rw[(Kqm h1).1 h2]
   .rintro rfl;exact⟨_,rfl,(Kqm h1).2 rfl⟩
  .cases h
def Qry:∀{l:List FR} {us vs:List Value},Uku l=some us->(okf l vs w A↔vs=us)
 | [],us,vs,h=>by cases h;cases vs<;>simp[okf]
 | x::l,us,vs,h=>by
  unfold Uku at h
  split at h
  .rename_i u r h1 h2;cases h;cases vs with
   | nil=>simp[okf]
   | cons v vs=>simp only[okf,FR.val_ok h1,Qry h2,List.cons.injEq]
  .cases h
def FV.val_ok{x:FV}{u v:Value}(h:x.val=some u):x.R v w A↔v=u:=by
 cases x with
 | r x=>exact FR.val_ok (x:=x) h
 | tup l =>
  unfold FV.val at h;simp only at h
  split at h
  .rename_i vs h1;cases h;constructor
   .rintro⟨us,rfl,h2⟩;rw[(Qry h1).1 h2]
   .rintro rfl;exact⟨_,rfl,(Qry h1).2 rfl⟩
  .cases h
def Qcd{f:FuncId}{vs:List Value}{v:Value}{fa:List FR}{fr:FV}(ent:Enters P f)(h:PureC P f vs v)(ha:Uku fa=some vs)(hr:fr.val=some v):Qbj P false f fa fr :=
 ⟨ent,fun w A us _ _ hu=>by
  have e:us=vs:=(Qry ha).1 hu;subst e;exact(h w).mono fun r w' h=>⟨v,h.1,(FV.val_ok hr).2 rfl,h.2⟩⟩
def Qbj.pure{hp:Bool}{f:FuncId}{vs:List Value}{v:Value}{fa:List FR}{fr:FV}(h:Qbj P hp f fa fr)(ha:Uku fa=some vs)(hr:fr.val=some v):PureC P f vs v:=fun w =>
 (h.ok w NoA vs (fun _=>Qyh w) (fun _ h=>h.elim) ((Qry ha).2 rfl)).mono fun r w' ⟨u,h1,h2,h3⟩=>⟨by rw[h1,(FV.val_ok hr).1 h2],h3⟩
def Qnm{hp:Bool}{f:FuncId}{x:FR}{res:FV}(ent:Enters P f)(h:∀(w:World) (A:Nat->Prop) (u:Value),(hp=true->Rcv A w)->(∀ n,A n->n<w.heap.size)->x.R u w A->Calls P f #[u] w fun r w'=>∃ v,r=.returned v/\res.R v w' A/\Below w.heap.size w w'):Qbj P hp f [x] res :=
 ⟨ent,fun w A us hR hA hu=>by
  match us,hu with
  | [u],hu=>exact h w A u hR hA hu.1⟩
def Key{hp:Bool}{f:FuncId}{x y:FR}{res:FV}(ent:Enters P f)(h:∀(w:World) (A:Nat->Prop) (u v:Value),(hp=true->Rcv A w)->(∀ n,A n->n<w.heap.size)->x.R u w A->y.R v w A->Calls P f #[u,v] w fun r w'=>∃ v,r=.returned v/\res.R v w' A/\Below w.heap.size w w'):Qbj P hp f [x,y] res :=
 ⟨ent,fun w A us hR hA hu=>by
  match us,hu with
  | [u,v],hu=>exact h w A u v hR hA hu.1 hu.2.1⟩
def sy(l:List Nat):AR:=.row (l.map .sym)
def rnC(bs:List Nat):AC->AC
 | .own b o=>.own (bs.getD b 0) o
 | .sl b o n c=>.sl (bs.getD b 0) o n c
 | .fn f a b=>.fn f (a.map fun k=>bs.getD k 0) (b.map fun k=>bs.getD k 0)
 | x=>x
def rnR(bs:List Nat):AR->AR
 | .c x=>.c (rnC bs x)
 | .row l=>.row (l.map (rnC bs))
def Udd(n:Nat):AC->Bool
 | .own b _|.sl b _ _ _=>decide (b<n)
 | .fn _ a b=>a.all (fun k=>decide (k<n))&&b.all (fun k=>decide (k<n))
 | .sg _ _ _=>false
 | _=>true
def Keq{σ σ':Sg}{bs:List Nat}(hσ:∀ k,k<bs.length->σ' k=σ (bs.getD k 0)):∀{l:List Nat} {us:List Value},l.all (fun k=>decide (k<bs.length))=true->Qsy σ (l.map fun k=>bs.getD k 0) us->Qsy σ' l us
 | [],[],_,_=>trivial
 | [],_::_,_,h=>h.elim
 | _::_,[],_,h=>h.elim
 | k::l,u::us,hl,h=>by
  simp only[List.all_cons,Bool.and_eq_true,decide_eq_true_eq] at hl;obtain⟨⟨n,h1,h2⟩,h3⟩:=h;exact⟨⟨n,(hσ k hl.1).trans h1,h2⟩,Keq hσ hl.2 h3⟩
def Udq{T:Nat->Qcq}{σ σ':Sg}{bs:List Nat}(hσ:∀ k,k<bs.length->σ' k=σ (bs.getD k 0)){x:AC}(hx:Udd bs.length x=true){v:Value}(h:(rnC bs x).ok T σ v w A):x.ok T σ' v w A:=by
 cases x with
 | sym i=>exact h
 | lit l=>exact h
 | own b o =>
  obtain⟨n,h1,h2⟩:=h;exact⟨n,(hσ b (by simpa[Udd] using hx)).trans h1,h2⟩
 | sl b o n c =>
  obtain⟨m,h1,h2⟩:=h;exact⟨m,(hσ b (by simpa[Udd] using hx)).trans h1,h2⟩
 | sg b o n=>cases hx
 | fn f a b =>
  simp only[Udd,Bool.and_eq_true] at hx;obtain⟨us,vs,h1,h2,h3⟩:=h;exact⟨us,vs,h1,Keq hσ hx.1 h2,Keq hσ hx.2 h3⟩
def Qyi{T:Nat->Qcq}{σ σ':Sg}{bs:List Nat}(hσ:∀ k,k<bs.length->σ' k=σ (bs.getD k 0)):∀{l:List AC} {vs:List Value},l.all (Udd bs.length)=true->oks T σ (l.map (rnC bs)) vs w A->oks T σ' l vs w A
 | [],[],_,_=>trivial
 | x::l,v::vs,hx,h=>by
  simp only[List.all_cons,Bool.and_eq_true] at hx;exact⟨Udq hσ hx.1 h.1,Qyi hσ hx.2 h.2⟩
 | [],_::_,_,h=>h.elim
 | _::_,[],_,h=>h.elim
def Upi(n:Nat)(x:AR):Bool:=x.cells.all (Udd n)
def Uqq{T:Nat->Qcq}{σ σ':Sg}{bs:List Nat}(hσ:∀ k,k<bs.length->σ' k=σ (bs.getD k 0)){x:AR}(hx:Upi bs.length x=true){v:Value}(h:(rnR bs x).ok T σ v w A):x.ok T σ' v w A:=by
 cases x with
 | c x=>exact Udq (x:=x) hσ (by simpa[Upi,AR.cells] using hx) h
 | row l=>obtain⟨vs,e,h2⟩:=h;exact⟨vs,e,Qyi hσ hx h2⟩
def Keu{T:Nat->Qcq}{σ σ':Sg}{bs:List Nat}(hσ:∀ k,k<bs.length->σ' k=σ (bs.getD k 0)):∀{l:List AR} {vs:List Value},l.all (Upi bs.length)=true->okr T σ (l.map (rnR bs)) vs w A->okr T σ' l vs w A
 | [],[],_,_=>trivial
 | x::l,v::vs,hx,h=>by
  simp only[List.all_cons,Bool.and_eq_true] at hx;exact⟨Uqq hσ hx.1 h.1,Keu hσ hx.2 h.2⟩
 | [],_::_,_,h=>h.elim
 | _::_,[],_,h=>h.elim
def Kay{T:Nat->Qcq}{σ:Sg}{f:AB->AB}:∀{abs:List AB} {bs:List Nat},bs.length=abs.length->Kht T σ w A (bs.zip (abs.map f))->∀ k ab,abs[k]?=some ab->∃ n vs,σ (bs.getD k 0)=some n/\A n/\w.heap[n]?=some (.cells vs.toArray (f ab).ty (0,0))/\oks T σ (f ab).cells vs w A
 | [],_,_,_,k,ab,h=>by simp at h
 | a::abs,[],h,_,_,_,_=>by simp at h
 | a::abs,b::bs,hl,h,k,ab,hk=>by
  cases k with
  | zero =>
   simp only[List.getElem?_cons_zero,Option.some.injEq] at hk;subst hk;exact h.1
  | succ k=>exact Kay (by simpa using hl) h.2 k ab (by simpa using hk)
def rnB(bs:List Nat)(ab:AB):AB:=⟨ab.cells.map (rnC bs),ab.ty,none⟩
end
def ga:GF where
 R:=fun v _ _=>v.oneCell'=true/\∀(k:Unit) (x:Int),v≠.int .u32 x
 int:=false
 keeps:=fun _ _ _ _ _ _ _ h=>h
 cell:=fun v w A h=>h.1
 noint:=fun _ v w A h=>h.2
 ex:=none
 exact:=fun u e=>by cases e
def gai:GF where
 R:=fun v _ _=>v.oneCell'=true
 int:=true
 keeps:=fun _ _ _ _ _ _ _ h=>h
 cell:=fun v w A h=>h
 noint:=fun e=>by cases e
 ex:=none
 exact:=fun u e=>by cases e
def GF.any(g:GF):GF:=if g.int then gai else ga
def FR.any:FR->FR|.c g=>.c g.any|.row l=>.row (l.map GF.any)
def FV.any:FV->FV|.r x=>.r x.any|.tup l=>.tup (l.map FR.any)
section
variable{w:World}{A:Nat->Prop}
def GF.any_ok{g:GF}{v:Value}(h:g.R v w A):g.any.R v w A:=by
 unfold GF.any;cases hi:g.int
 .exact⟨g.cell v w A h,g.noint hi v w A h⟩
 .exact g.cell v w A h
def Qop:∀{l:List GF} {vs:List Value},okg l vs w A->okg (l.map GF.any) vs w A
 | [],[],_=>trivial
 | g::l,v::vs,h=>⟨GF.any_ok h.1,Qop h.2⟩
 | [],_::_,h=>h.elim
 | _::_,[],h=>h.elim
def FR.any_ok{x:FR}{v:Value}(h:x.R v w A):x.any.R v w A:=by
 cases x with
 | c g=>exact GF.any_ok (g:=g) h
 | row l=>obtain⟨vs,e,h⟩:=h;exact⟨vs,e,Qop h⟩
def Kri:∀{l:List FR} {vs:List Value},okf l vs w A->okf (l.map FR.any) vs w A
 | [],[],_=>trivial
 | g::l,v::vs,h=>⟨FR.any_ok h.1,Kri h.2⟩
 | [],_::_,h=>h.elim
 | _::_,[],h=>h.elim
def FV.any_ok{x:FV}{v:Value}(h:x.R v w A):x.any.R v w A:=by
 cases x with
 | r x=>exact FR.any_ok (x:=x) h
 | tup l=>obtain⟨vs,e,h⟩:=h;exact⟨vs,e,Kri h⟩
end
def Qbj.anyL{P:Program}{hp:Bool}{fi:FuncId}{a:List FR}{r s:FV}(k:Qbj P hp fi a r)(h:r.any=s):Qbj P hp fi a s :=
 ⟨k.ent,fun w A vs h1 h2 h3=>(k.ok w A vs h1 h2 h3).mono fun _ _ ⟨v,e,h4,h5⟩=>⟨v,e,h▸FV.any_ok h4,h5⟩⟩
inductive FA where
 | f (x:FR)|sl (b off len cap:Nat)|own (b off:Nat)|fn (f:FuncId) (a b:List Nat)
def FA.R(σ:Sg):FA->Qcq
 | .f x=>x.R
 | .sl b o n c=>fun v _ _=>∃ m,σ b=some m/\v=.slice (some ⟨m,o,none⟩) n c
 | .own b o=>fun v _ _=>∃ n,σ b=some n/\v=.pointer (some ⟨n,o,none⟩)
 | .fn g a b=>fun v _ _=>∃ us vs:List Value,v=.func (.func g) us.toArray vs.toArray/\Qsy σ a us/\Qsy σ b vs
def oka(σ:Sg):List FA->List Value->World->(Nat->Prop)->Prop
 | [],[],_,_=>True
 | x::l,v::vs,w,A=>x.R σ v w A/\oka σ l vs w A
 | _,_,_,_=>False
structure Qle(P:Program)(hp:Bool)(f:FuncId)(bl:List (List GF×TypeId))(args:List FA)(res:FV):Prop where
 ent:Enters P f
 ok:∀(σ:Sg) (w:World) (A:Nat->Prop) (vs:List Value),(hp=true->Rcv A w)->(∀ n,A n->n<w.heap.size) ->
  (∀ b gs ty,bl[b]?=some (gs,ty)->∃ n us,σ b=some n/\A n/\w.heap[n]?=some (.cells us.toArray ty (0,0))/\okg gs us w A)->(∀ b,bl.length<=b->σ b=none)->oka σ args vs w A ->
  Calls P f vs.toArray w fun r w'=>∃ v,r=.returned v/\res.R v w' A/\Below w.heap.size w w'
section
variable{P:Program}{hp:Bool}{fi:FuncId}{bl:List (List GF×TypeId)}{a:List FA}{r s:FV}{c:Prop}[Decidable c]
def Qle.it(h:c)(k:Qle P hp fi bl a r):Qle P hp fi bl a (if c then r else s):=by rw[if_pos h];exact k
def Qle.ie(h:¬c)(k:Qle P hp fi bl a s):Qle P hp fi bl a (if c then r else s):=by rw[if_neg h];exact k
def Qle.t(k:Qle P hp fi bl a (if c then r else s))(h:c):Qle P hp fi bl a r:=by rw[if_pos h] at k;exact k
def Qle.f(k:Qle P hp fi bl a (if c then r else s))(h:¬c):Qle P hp fi bl a s:=by rw[if_neg h] at k;exact k
end
def AR.la(L:List GF):AR->Option FA
 | .c (.own b o)=>some (.own b o)
 | .c (.sl b o n k)=>some (.sl b o n k)
 | .c (.fn f a b)=>some (.fn f a b)
 | x=>match x.lk L with|some g=>some (.f g)|none=>none
def Ucn(L:List GF):List AR->Option (List FA)
 | []=>some []
 | x::l=>match x.la L,Ucn L l with|some v,some vs=>some (v::vs)|_,_=>none
def Ukr(L:List GF):List AB->Option (List (List GF×TypeId))
 | []=>some []
 | x::l=>match Kkr L x.cells,Ukr L l with|some v,some vs=>some ((v,x.ty)::vs)|_,_=>none
section
variable{L:List GF}{σ:Sg}{w:World}{A:Nat->Prop}
def AR.la_ok{x:AR}{g:FA}{v:Value}(h:x.la L=some g):x.ok (gT L) σ v w A↔g.R σ v w A:=by
 unfold AR.la at h
 split at h
 .cases h;exact Iff.rfl
 .cases h;exact Iff.rfl
 .cases h;exact Iff.rfl
 .split at h
  .rename_i g' h1;cases h;exact AR.lk_ok h1
  .cases h
def Qog:∀{l:List AR} {gs:List FA} {vs:List Value},Ucn L l=some gs->(okr (gT L) σ l vs w A↔oka σ gs vs w A)
 | [],gs,vs,h=>by cases h;cases vs<;>exact Iff.rfl
 | x::l,gs,vs,h=>by
  unfold Ucn at h
  split at h
  .rename_i u r h1 h2;cases h;cases vs with
   | nil=>exact Iff.rfl
   | cons v vs=>exact and_congr (AR.la_ok h1) (Qog h2)
  .cases h
def Qqr:∀{l:List AB} {bl:List (List GF×TypeId)},Ukr L l=some bl->l.length=bl.length/\∀(b:Nat) (ab:AB),l[b]?=some ab->∃ gs,bl[b]?=some (gs,ab.ty)/\Kkr L ab.cells=some gs
 | [],bl,h=>by cases h;exact⟨rfl,fun b ab h=>by simp at h⟩
 | x::l,bl,h=>by
  unfold Ukr at h
  split at h
  .rename_i u r h1 h2;cases h;obtain⟨e,k⟩:=Qqr h2;refine⟨by simp[e],fun b ab hb=>?_⟩;cases b with
   | zero=>simp only[List.getElem?_cons_zero,Option.some.injEq] at hb;subst hb;exact⟨u,by simp,h1⟩
   | succ b=>simp only[List.getElem?_cons_succ] at hb ⊢;exact k b ab hb
  .cases h
end
section
variable{P:Program}{L:List GF}
def Ung{hp:Bool}{tys:List (TypeId×TyI)}(ht:∀ p∈tys,p.2.good P p.1=true)(hm:P.follows .mixedOrders=true)(C:List (GC P L hp))(B:List (GB P L))(O:List (GO P L)){f:FuncId}{fn:Func}(hf:P.funcs[f]?=some fn)(ent:Enters P f)(fuel:Nat)(abs:List AB)(args:List AR)(res:AV)
  {bl:List (List GF×TypeId)} {fa:List FA} {fr:FV} (hev:evL (gcx tys hp L C B O) fn fuel abs args res=true:=by kernel_rfl) (hb:Ukr L abs=some bl:=by kernel_rfl) (ha:Ucn L args=some fa:=by kernel_rfl) (hr:res.lk L=some fr:=by kernel_rfl):Qle P hp f bl fa fr :=
 ⟨ent,fun σ w A vs hR hA hbl hbey hu=>by
  obtain⟨hl,hg⟩:=Qqr hb;have hnr:res.noown=true:=by
   have:=hev;unfold evL at this;simp only[Bool.and_eq_true] at this;exact this.1.1
  refine(Kdu (Qps ht C B O) hm hf fuel hev (fun k hk=>by cases hk) (fun c _ x _ k hk=>by cases hk) σ w A vs hR hA ((Qog ha).2 hu) (fun b ab h=>?_) (fun b h=>hbey b (by omega))).mono fun r w' ⟨v,h1,h2,h3⟩=>⟨v,h1,(AV.lk_ok hr).1 h2,h3⟩
  obtain⟨gs,h1,h2⟩:=hg b ab h;obtain⟨n,us,k1,k2,k3,k4⟩:=hbl b gs ab.ty h1;exact⟨n,us,k1,k2,k3,(Qif h2).2 k4⟩⟩
def gsm{hp' hp:Bool}{f:FuncId}{bl:List (List GF×TypeId)}{fa:List FA}{fr:FV}(h:Qle P hp' f bl fa fr)(bs:List Nat)(abs:List AB)(args:List AR)(res:AV)
  (hb:Ukr L abs=some bl:=by kernel_rfl) (ha:Ucn L args=some fa:=by kernel_rfl) (hr:res.lk L=some fr:=by kernel_rfl) (hc:(bs.length==abs.length&&args.all (Upi bs.length)&&abs.all (fun ab=>ab.cells.all (Udd bs.length))&&res.noown&&(!hp'||hp))=true:=by kernel_rfl):GC P L hp :=
 ⟨{ f,args:=args.map (rnR bs),res,needs:=bs.zip (abs.map (rnB bs)) },h.ent,fun σ w A us hR hA hu hn=>by
  simp only[Bool.and_eq_true,beq_iff_eq] at hc;obtain⟨⟨⟨⟨hl,hla⟩,hlb⟩,hnr⟩,hh⟩:=hc;obtain⟨hlen,hg⟩:=Qqr hb;let σ':Sg:=⟨fun k=>if k<bs.length then σ (bs.getD k 0) else none,fun _=>0⟩
  have hσ:∀ k,k<bs.length->σ' k=σ (bs.getD k 0):=fun k h=>if_pos h
  refine(h.ok σ' w A us (fun e=>hR (by subst e;simpa using hh)) hA (fun b gs ty hb'=>?_) (fun k hk=>if_neg (by omega)) ((Qog ha).1 (Keu hσ hla hu))).mono fun r w' ⟨v,h1,h2,h3⟩=>⟨v,h1,AV.ok_noown hnr ((AV.lk_ok (σ:=σ') hr).2 h2),h3⟩
  have hlt:b<abs.length:=by rw[hlen];exact(axb.1 hb').1
  obtain⟨ab,hab⟩:∃ ab,abs[b]?=some ab:=⟨_,axi hlt⟩
  obtain⟨gs',h1,h2⟩:=hg b ab hab;rw[hb'] at h1;cases h1;obtain⟨n,vs,k1,k2,k3,k4⟩:=Kay hl hn b ab hab;exact⟨n,vs,(hσ b (by omega)).trans k1,k2,k3,(Qif h2).1 (Qyi hσ (axu.1 hlb ab (axq hab)) k4)⟩⟩
end
end Tr
namespace Go.Proofs.YtmimficdpfmfgaaGreat
open Go.RowKit Tr Proofs.Tryz
def tI{p:Prop}(h:p):true=true↔p:=⟨fun _=>h,fun _=>rfl⟩
def fI{p:Prop}(h:¬p):false=true↔p:=⟨fun e=>(by cases e),fun e=>absurd e h⟩
def gr(q:Rat):GF where
 R:=Qbk q
 int:=false
 keeps:=Qbk.keeps q
 cell:=fun v w A h=>by obtain⟨b,rfl,_⟩:=h;rfl
 noint:=fun _ v w A h k x=>by obtain⟨b,rfl,_⟩:=h;simp
 ex:=none
 exact:=fun u e=>by cases e
def gro(q:Rat):GF where
 R:=Qeq q
 int:=false
 keeps:=Qeq.keeps q
 cell:=fun v w A h=>by rcases h with⟨rfl,_⟩|⟨b,rfl,_⟩<;>rfl
 noint:=fun _ v w A h k x=>by rcases h with⟨rfl,_⟩|⟨b,rfl,_⟩<;>simp
 ex:=none
 exact:=fun u e=>by cases e
def rF(q:Rat):List GF:=[gx (.bool (decide (q.num<0))),gx (.string (Qcg q.num.natAbs)),gx (.bool false),gx (.string (Qcg q.den))]
def rG(z:QC):List GF:=rF z.re++rF z.im
def cq(z:QC):List GF:=[gr z.re,gr z.im]
def cn(z:QC):List GF:=[gro z.re,gro z.im]
section
variable{w:World}{A:Nat->Prop}{v:Value}
def Khy{g:GF}{l:List GF}{vs:List Value}:okg (g::l) vs w A↔∃ u us,vs=u::us/\g.R u w A/\okg l us w A:=by
 cases vs with
 | nil=>exact⟨fun h=>h.elim,fun⟨_,_,e,_⟩=>by cases e⟩
 | cons u us=>exact⟨fun h=>⟨u,us,rfl,h.1,h.2⟩,fun⟨_,_,e,h⟩=>by cases e;exact h⟩
def Uho{vs:List Value}:okg [] vs w A↔vs=[]:=by
 cases vs with
 | nil=>exact⟨fun _=>rfl,fun _=>trivial⟩
 | cons u us=>exact⟨fun h=>h.elim,fun e=>by cases e⟩
def Qfq{z:QC}:(FR.row (cn z)).R v w A↔Qhr z.re z.im v w A:=by
 constructor
 .rintro⟨vs,rfl,h⟩;obtain⟨u1,_,rfl,h1,h⟩:=Khy.1 h;obtain⟨u2,_,rfl,h2,h⟩:=Khy.1 h;cases Uho.1 h;exact⟨u1,u2,rfl,h1,h2⟩
 .rintro⟨u1,u2,rfl,h1,h2⟩;exact⟨[u1,u2],rfl,h1,h2,trivial⟩
end
def Qbg.Sz(g:Qbg):Prop:=g.s1.size<=1000000000/\g.s2.size<=1000000000/\g.s3.size<=1000000000/\g.s4.size<=1000000000
def Kgo.Sz(p:Kgo):Prop:=p.g.Sz
def flA(l:List (List AC)):List AC:=l.flatten
def zFA:List AC:=[.lit (.bool false),.lit .str0,.lit (.bool false),.lit .str0]
def zGA:List AC:=zFA++zFA
def gR(n:Nat):List AC:=[.sym n,.sym (n+1),.lit (.bool false),.sym (n+2),.sym (n+3),.sym (n+4),.lit (.bool false),.sym (n+5)]
def gL:List Nat->List AC
 | []=>[]
 | n::l=>gR n++gL l
def zFG:List GF:=[gl (.bool false),gl .str0,gl (.bool false),gl .str0]
def zGG:List GF:=zFG++zFG
def B1(b:Bool):FV:=.r (.c (gx (.bool b)))
def Krq(i j:Int)(a1:-9223372036854775808<=i:=by decide)(a2:i<9223372036854775808:=by decide)(b1:-9223372036854775808<=j:=by decide)(b2:j<9223372036854775808:=by decide):Qbj prog false 73 [.c (gx (.int .i64 i)),.c (gx (.int .i64 j))] (.r (.row (Qan ⟨(i:Rat),(j:Rat)⟩).cells)) :=
 Qcd eo73 (vs:=[.int .i64 i,.int .i64 j]) (v:=Khk (i:Rat) (j:Rat)) (fun w=>Kxi i j a1 a2 b1 b2 w) kR kR
def bI{P:Program}{L:List GF}(op:BinOp)(t:TypeId)(x y:AC)(a b:Int)(c:Bool)(h:Qil op a b=some c)(hx:x.gv L=some (.int .i64 a):=by kernel_rfl)(hy:y.gv L=some (.int .i64 b):=by kernel_rfl):GB P L:=Qgb op t .i64 x y a b c h hx hy
section
variable{L:List GF}
def bG(x y:AR)(g h:Qbg)(r:Bool)(hr:r=true↔g=h)(hx:x.gv L=some g.val:=by kernel_rfl)(hy:y.gv L=some h.val:=by kernel_rfl):GB prog L :=
 gb .eql 28 x y (.lit (.bool r)) (Qof kR (fun w=>Kml w g h r (by rw[hr];exact⟨fun e=>by rw[e],Kis⟩))) hx hy rfl
def bP(x y:AR)(p q:Kgo)(r:Bool)(hr:r=true↔p=q)(hx:x.gv L=some p.val:=by kernel_rfl)(hy:y.gv L=some q.val:=by kernel_rfl):GB prog L :=
 gb .eql 81 x y (.lit (.bool r)) (Qof kR (fun w=>Kmm w p q r (by rw[hr];exact⟨fun e=>by rw[e],Uav⟩))) hx hy rfl
end
def Kcb{q:Rat}(h1:q.num.natAbs<256^1024)(h2:q.den<256^1024):Qag q:=⟨by rw[Qfk];exact Qio h1,by rw[Qfk];exact Qio h2⟩
def Qbf{z:QC}(h:(z.re.num.natAbs<256^1024/\z.re.den<256^1024)/\z.im.num.natAbs<256^1024/\z.im.den<256^1024):Qaj z:=⟨Kcb h.1.1 h.1.2,Kcb h.2.1 h.2.2⟩
def Ubj{z:QC}(h:Qaj z):(Qan z).Sz:=by
 obtain⟨⟨h1,h2⟩,h3,h4⟩:=h;exact⟨axw h1 (by decide),axw h2 (by decide),axw h3 (by decide),axw h4 (by decide)⟩
def Qyg{z w:QC}:Qan z=Qan w↔z=w:=⟨fun h=>Kak (by rw[<-Qjk,<-Qjk,h]),fun h=>by rw[h]⟩
end Go.Proofs.YtmimficdpfmfgaaGreat
namespace Go.Proofs.YtmimficdpfmfgaaGreat
open Go.RowKit Tr Proofs.Tryz
def G1(z:QC):FR:=.row (rG z)
def Qqj(g:Qbg)(r:Bool)(hr:r=true↔GOk g.val):Qbj prog false 87 [.row g.cells] (B1 r):=Qcd eo87 (Vbx g r hr) kR kR
def Uiq(z:QC)(r:Bool)(hr:r=true↔z=⟨0,0⟩):Qbj prog false 90 [G1 z] (B1 r):=Qcd eo90 (Uwy z r hr) kR kR
def Knn(a b:Int)(a1:-9223372036854775808<=a:=by decide)(a2:a<9223372036854775808:=by decide)(b1:-9223372036854775808<=b:=by decide)(b2:b<9223372036854775808:=by decide):Qbj prog false 84 [.c (gx (.int .i64 a)),.c (gx (.int .i64 b))] (.r (G1 ⟨(a:Rat),(b:Rat)⟩)):=Qcd eo84 (Vbw a b a1 a2 b1 b2) kR kR
def Kir(x y:QC)(hx:ZL x 33554432)(hy:ZL y 33554432):Qbj prog false 182 [G1 x,G1 y] (.r (G1 (x*y))):=Qcd eo182 (Ucy x y hx hy) kR kR
def Uas(x y:QC)(hx:ZL x 134217728)(hy:ZL y 134217728):Qbj prog false 183 [G1 x,G1 y] (.r (G1 (x+y))):=Qcd eo183 (Uop x y hx hy) kR kR
def Kiq(x y:QC)(hx:ZL x 134217728)(hy:ZL y 134217728):Qbj prog false 134 [G1 x,G1 y] (.r (G1 (x-y))):=Qcd eo134 (Uom x y hx hy) kR kR
def Sz(s:ByteArray):Int:=(s.size:Nat)
def lS{L:List GF}(x:AC)(s:ByteArray)(res:AC)(hn:x.noown=true:=by kernel_rfl)(hx:x.gv L=some (.string s):=by kernel_rfl)(hr:res.gv L=some (.int .i64 (Sz s)):=by kernel_rfl):GO prog L :=
 Khl 9 Tryz.underlying9 x s res hn hx hr
def gtY{P:Program}{L:List GF}(t:TypeId)(x y:AC)(a b:Int)(h:a>b)(hx:x.gv L=some (.int .i64 a):=by kernel_rfl)(hy:y.gv L=some (.int .i64 b):=by kernel_rfl):GB P L:=Qgb .gtr t .i64 x y a b true (congrArg some (decide_eq_true h)) hx hy
def gtN{P:Program}{L:List GF}(t:TypeId)(x y:AC)(a b:Int)(h:¬a>b)(hx:x.gv L=some (.int .i64 a):=by kernel_rfl)(hy:y.gv L=some (.int .i64 b):=by kernel_rfl):GB P L:=Qgb .gtr t .i64 x y a b false (congrArg some (decide_eq_false h)) hx hy
