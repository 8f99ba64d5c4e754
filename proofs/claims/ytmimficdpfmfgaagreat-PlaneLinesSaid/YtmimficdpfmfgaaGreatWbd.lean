/- Laws. -/
import Derived.Test.YtmimficdpfmfgaaGreatWbc
set_option linter.all false
set_option maxHeartbeats 4000000
set_option maxRecDepth 100000
namespace Go.Proofs.YtmimficdpfmfgaaGreat
open Go.RowKit Tr
open Classical
def sg0{x:Rat}(h:x=0):x.num.sign=0:=by subst h;rfl
def sgz{x:Rat}(h:x.num.sign=0):x=0:=Rat.num_eq_zero.1 (Int.sign_eq_zero_iff_zero.1 h)
structure CO(a b e d:Rat):Prop where
 wh:Qlh a b e d
 sa:Qag a
 sb:Qag b
 se:Qag e
 sd:Qag d
 hp:0<Qam a b e d a b e d
 nf:a=1\/(a=0/\b=1)\/(a=0/\b=0/\e=1)
def lI(p:Int)(ca:Qbm)(cb:Qbg)(cc:Qbm)(r:Bool):Prop:=SCt 21 [.c (gxi p),.row (ca.cells++cb.cells++cc.cells)] (.tup [.c (gl (.bool r)),gIi 0])
def lU(p:Int)(ca:Qbm)(cb:Qbg)(cc:Qbm)(z:QC)(ua:Qbm)(ub:Qbg)(uc:Qbm)(n:Int):Prop:=SCt 22 [.c (gxi p),.row (ca.cells++cb.cells++cc.cells),.row (Qan z).cells] (.tup [.row (ua.cells++ub.cells++uc.cells),.c (gxi n)])
def lF(p:Int)(ca:Qbm)(cb:Qbg)(cc:Qbm)(z:QC)(r:Qbg)(n:Int):Prop:=SCt 23 [.c (gxi p),.row (ca.cells++cb.cells++cc.cells),.row (Qan z).cells] (.tup [.row r.cells,.c (gxi n)])
def lV(p:Int)(ca:Qbm)(cb:Qbg)(cc:Qbm)(z:QC)(r:Qbg)(n:Int):Prop:=SCt 24 [.c (gxi p),.row (ca.cells++cb.cells++cc.cells),.row (Qan z).cells] (.tup [.row r.cells,.c (gxi n)])
def Kxg(p:Nat)(a b e d:Rat)(z x:QC):Prop:=vl a b e d x=0/\vl (upr p a b e d z).1 (upr p a b e d z).2.1 (upr p a b e d z).2.2.1 (upr p a b e d z).2.2.2 x=0
def FtP(p:Nat)(q:Int)(a b e d:Rat)(z:QC):Prop :=
 (lF q (Qbx a) (Qan ⟨b,e⟩) (Qbx d) z zRG 7/\¬∃ x,Kxg p a b e d z x)\/∃ x,Qld p a b e d z x/\(Qaj x->lF q (Qbx a) (Qan ⟨b,e⟩) (Qbx d) z (Qan x) 0)/\(¬Qaj x->lF q (Qbx a) (Qan ⟨b,e⟩) (Qbx d) z zRG 4)
def Qxq{l1 l2 l3 g0 g1 g2 g3:Rat}{x:QC}(hg:g0≠0)(hN:fN l1 l2≠0)(h1:vl g0 g1 g2 g3 x=0)(h2:vl 0 l1 l2 l3 x=0):Qer (fQ l1 l2 l3 g0 g1 g2 g3):=Uiv hg hN rfl rfl rfl rfl rfl h1 h2
def Qcy{x:Rat}:x.num.sign>0↔0<x:=by
 constructor
 .intro h;exact Kmt (by omega)
 .intro h;rcases Int.lt_trichotomy x.num 0 with k|k|k
  .exact absurd (Rat.num_nonneg.2 (Rat.le_of_lt h)) (by omega)
  .exact absurd (Rat.num_eq_zero.1 k) (Rat.ne_of_gt h)
  .rw[axn k];decide
def d11(x:Rat):x/(1*1)=x:=by grind
def d1(x:Rat):x/1=x:=by grind
def Ude{b e d u0 u1 u2 u3:Rat}(hP:0<Qam u0 u1 u2 u3 u0 u1 u2 u3)(hO:Qam u0 u1 u2 u3 1 b e d=0)(hC:0<Qam 1 b e d 1 b e d):0<fN (u1*1-b*u0) (u2*1-e*u0):=by
 have c:fN (u1*1-b*u0) (u2*1-e*u0)=Qam u0 u1 u2 u3 u0 u1 u2 u3-2*(u0*Qam u0 u1 u2 u3 1 b e d)+u0*u0*Qam 1 b e d 1 b e d:=by unfold fN Qam;grind
 have c2:=Rat.mul_nonneg (rsq u0) (Rat.le_of_lt hC);rw[hO] at c;rw[c];generalize Qam u0 u1 u2 u3 u0 u1 u2 u3=A at *
 generalize u0*u0*Qam 1 b e d 1 b e d=B at *
 grind
def Qtm{a b e d:Rat}{z:QC}(he:e=0)(hz:0<z.im)(hp:0<Qam a b e d a b e d):0<Qam (upr 1 a b e d z).1 (upr 1 a b e d z).2.1 (upr 1 a b e d z).2.2.1 (upr 1 a b e d z).2.2.2 (upr 1 a b e d z).1 (upr 1 a b e d z).2.1 (upr 1 a b e d z).2.2.1 (upr 1 a b e d z).2.2.2:=by
 subst he;exact Qws hz hp
def Qtn{a b e d:Rat}{z:QC}(he:a=d)(hz:0<1-nm z)(hp:0<Qam a b e d a b e d):0<Qam (upr 2 a b e d z).1 (upr 2 a b e d z).2.1 (upr 2 a b e d z).2.2.1 (upr 2 a b e d z).2.2.2 (upr 2 a b e d z).1 (upr 2 a b e d z).2.1 (upr 2 a b e d z).2.2.1 (upr 2 a b e d z).2.2.2:=by
 subst he;exact Kjk hz hp
def ftY{p:Nat}{q:Int}{a b e d a' b' e' d':Rat}{z x:QC}(h:a=a'/\b=b'/\e=e'/\d=d')(F:Qld p a' b' e' d' z x)(y:Qaj x->lF q (Qbx a) (Qan ⟨b,e⟩) (Qbx d) z (Qan x) 0)(n:¬Qaj x->lF q (Qbx a) (Qan ⟨b,e⟩) (Qbx d) z zRG 4):FtP p q a b e d z:=by
 obtain⟨rfl,rfl,rfl,rfl⟩:=h;exact .inr ⟨x,F,y,n⟩
def ftN{p:Nat}{q:Int}{a b e d a' b' e' d':Rat}{z:QC}(h:a=a'/\b=b'/\e=e'/\d=d')(y:lF q (Qbx a) (Qan ⟨b,e⟩) (Qbx d) z zRG 7)(n:¬∃ x,Kxg p a' b' e' d' z x):FtP p q a b e d z:=by
 obtain⟨rfl,rfl,rfl,rfl⟩:=h;exact .inl ⟨y,n⟩
variable{v:V5}
def CO.bd(C:CO v.a v.b v.e v.d)(sz:Qaj v.z):v.O:=⟨C.sa,C.sb,C.se,C.sd,sz⟩
def Uvn(v:V5):(Qzc v)+v.d=fV v.b v.e v.d (wx7 v) (wx8 v) (wx9 v):=by
 simp only[Qdm,Kni,Qjx,Uek,Uel,Knt,Qzc,fV,cj,qmr,qmi,qsr,qsi,Rat.div_def];grind
def Utr(v:V5):nm (Qdm v)=fN v.b v.e:=by
 simp only[Qdm,nm,fN,qmr,qmi,qsr,qsi];grind
def Uvm(v:V5):Kde v=fQ v.b v.e v.d (wx7 v) (wx8 v) (wx9 v) (Qfy v):=by
 have x:=Uvn v;have n:=Utr v;simp only[Kde,Uug,Usd,Uue,Use,Uuf,Qzc,Knt,Uel,Uek,Qjx,Kni,Qdm] at x n ⊢;unfold fQ;rw[<-x,<-n]
def Vas(v:V5):Qoz v=fX v.b v.e v.d (wx7 v) (wx8 v) (wx9 v) (sqr (fQ v.b v.e v.d (wx7 v) (wx8 v) (wx9 v) (Qfy v))):=by
 have x:=Uvn v;have n:=Utr v;rw[←Uvm v];unfold fX ctX;rw[←x,←n];apply Qcj<;>simp only[Qoz,Uln,Uel,Uek,Qjx,Kni,Usc,Qdm,Ulm,Qzc,Knt,Uka,qar,qai,qsr,qsi,qmr,qmi,Rat.div_def]<;>grind
def Var(v:V5):Kxa v=fX v.b v.e v.d (wx7 v) (wx8 v) (wx9 v) (-sqr (fQ v.b v.e v.d (wx7 v) (wx8 v) (wx9 v) (Qfy v))):=by
 have x:=Uvn v;have n:=Utr v;rw[←Uvm v];unfold fX ctX;rw[←x,←n];apply Qcj<;>simp only[Kxa,Uln,Uel,Uek,Qjx,Kni,Usc,Qdm,Ulm,Qzc,Knt,Uka,qar,qai,qsr,qsi,qmr,qmi,Rat.div_def]<;>grind
def Uvl(v:V5):Knv v=fV (wx8 v) (wx9 v) (Qfy v) v.a v.b v.e:=by
 simp only[Qdm,Kni,Qjx,Qnz,Knu,Uem,Knv,fV,cj,qmr,qmi,qsr,qsi,Rat.div_def];grind
def Utq(v:V5):nm (Qjx v)=fN (wx8 v) (wx9 v):=by
 simp only[Qjx,Kni,nm,fN,qmr,qmi,qsr,qsi];grind
def Uvk(v:V5):Kki v=fQ (wx8 v) (wx9 v) (Qfy v) v.a v.b v.e v.d:=by
 have x:=Uvl v;have n:=Utq v;simp only[Kki,Uuj,Kcw,Ush,Uuh,Knv,Uem,Knu,Qnz,Qdm,Qjx,Kni,Uui] at x n ⊢;unfold fQ;rw[<-x,<-n]
def Vaq(v:V5):Qqn v=fX (wx8 v) (wx9 v) (Qfy v) v.a v.b v.e (sqr (fQ (wx8 v) (wx9 v) (Qfy v) v.a v.b v.e v.d)):=by
 have x:=Uvl v;have n:=Utq v;rw[←Uvk v];unfold fX ctX;rw[←x,←n];apply Qcj<;>simp only[Qqn,Ulp,Qnz,Qdm,Usg,Qjx,Kni,Ulo,Knv,Uem,Knu,Usf,Ulr,Ulq,qar,qai,qsr,qsi,qmr,qmi,Rat.div_def]<;>grind
def Vap(v:V5):Kxb v=fX (wx8 v) (wx9 v) (Qfy v) v.a v.b v.e (-sqr (fQ (wx8 v) (wx9 v) (Qfy v) v.a v.b v.e v.d)):=by
 have x:=Uvl v;have n:=Utq v;rw[←Uvk v];unfold fX ctX;rw[←x,←n];apply Qcj<;>simp only[Kxb,Ulp,Qnz,Qdm,Usg,Qjx,Kni,Ulo,Knv,Uem,Knu,Usf,Ulr,Ulq,qar,qai,qsr,qsi,qmr,qmi,Rat.div_def]<;>grind
def Uvp(v:V5):Knx v=fV ((wx8 v)*v.a-v.b*(wx7 v)) ((wx9 v)*v.a-v.e*(wx7 v)) ((Qfy v)*v.a-v.d*(wx7 v)) v.a v.b v.e:=by
 simp only[Qdm,Qnz,Kxc,Kxd,Uen,Ueo,Qmi,Knw,Uep,Knx,fV,cj,qmr,qmi,qsr,qsi,Rat.div_def];grind
def Uts(v:V5):nm (Qmi v)=fN ((wx8 v)*v.a-v.b*(wx7 v)) ((wx9 v)*v.a-v.e*(wx7 v)):=by
 simp only[Qmi,Kxc,Ueo,Kxd,nm,fN,qmr,qmi,qsr,qsi];grind
def Uvo(v:V5):Kkj v=fQ ((wx8 v)*v.a-v.b*(wx7 v)) ((wx9 v)*v.a-v.e*(wx7 v)) ((Qfy v)*v.a-v.d*(wx7 v)) v.a v.b v.e v.d:=by
 have x:=Uvp v;have n:=Uts v;simp only[Kkj,Uum,Kcw,Usk,Uuk,Knx,Uep,Knw,Qnz,Qdm,Qmi,Kxc,Ueo,Kxd,Uen,Uul] at x n ⊢;unfold fQ;rw[<-x,<-n]
def Vau(v:V5):Qqo v=fX ((wx8 v)*v.a-v.b*(wx7 v)) ((wx9 v)*v.a-v.e*(wx7 v)) ((Qfy v)*v.a-v.d*(wx7 v)) v.a v.b v.e (sqr (fQ ((wx8 v)*v.a-v.b*(wx7 v)) ((wx9 v)*v.a-v.e*(wx7 v)) ((Qfy v)*v.a-v.d*(wx7 v)) v.a v.b v.e v.d)):=by
 have x:=Uvp v;have n:=Uts v;rw[←Uvo v];unfold fX ctX;rw[←x,←n];apply Qcj<;>simp only[Qqo,Ult,Qnz,Qdm,Usj,Qmi,Kxc,Ueo,Kxd,Uls,Knx,Uep,Knw,Uen,Usi,Ulv,Ulu,qar,qai,qsr,qsi,qmr,qmi,Rat.div_def]<;>grind
def Vat(v:V5):Kxe v=fX ((wx8 v)*v.a-v.b*(wx7 v)) ((wx9 v)*v.a-v.e*(wx7 v)) ((Qfy v)*v.a-v.d*(wx7 v)) v.a v.b v.e (-sqr (fQ ((wx8 v)*v.a-v.b*(wx7 v)) ((wx9 v)*v.a-v.e*(wx7 v)) ((Qfy v)*v.a-v.d*(wx7 v)) v.a v.b v.e v.d)):=by
 have x:=Uvp v;have n:=Uts v;rw[←Uvo v];unfold fX ctX;rw[←x,←n];apply Qcj<;>simp only[Kxe,Ult,Qnz,Qdm,Usj,Qmi,Kxc,Ueo,Kxd,Uls,Knx,Uep,Knw,Uen,Usi,Ulv,Ulu,qar,qai,qsr,qsi,qmr,qmi,Rat.div_def]<;>grind
def Uvt(v:V5):(Qze v)+v.d=fV v.b v.e v.d (Qcl v) (Qeu v) (Qev v):=by
 simp only[Qdm,Knj,Qjy,Ueq,Uer,Kny,Qze,fV,cj,qmr,qmi,qsr,qsi,Rat.div_def];grind
def Utu(v:V5):nm (Qdm v)=fN v.b v.e:=by
 simp only[Qdm,nm,fN,qmr,qmi,qsr,qsi];grind
def Uvs(v:V5):Kkl v=fQ v.b v.e v.d (Qcl v) (Qeu v) (Qev v) (Qfx v):=by
 have x:=Uvt v;have n:=Utu v;simp only[Kkl,Uuq,Usm,Uun,Uuo,Usn,Uup,Qze,Kny,Uer,Ueq,Qjy,Knj,Qdm] at x n ⊢;unfold fQ;rw[<-x,<-n]
def Vay(v:V5):Kgb v=fX v.b v.e v.d (Qcl v) (Qeu v) (Qev v) (sqr (fQ v.b v.e v.d (Qcl v) (Qeu v) (Qev v) (Qfx v))):=by
 have x:=Uvt v;have n:=Utu v;rw[←Uvs v];unfold fX ctX;rw[←x,←n];apply Qcj<;>simp only[Kgb,Ulx,Uer,Ueq,Qjy,Knj,Usl,Qdm,Ulw,Qze,Kny,Uly,qar,qai,qsr,qsi,qmr,qmi,Rat.div_def]<;>grind
def Vax(v:V5):Kxf v=fX v.b v.e v.d (Qcl v) (Qeu v) (Qev v) (-sqr (fQ v.b v.e v.d (Qcl v) (Qeu v) (Qev v) (Qfx v))):=by
 have x:=Uvt v;have n:=Utu v;rw[←Uvs v];unfold fX ctX;rw[←x,←n];apply Qcj<;>simp only[Kxf,Ulx,Uer,Ueq,Qjy,Knj,Usl,Qdm,Ulw,Qze,Kny,Uly,qar,qai,qsr,qsi,qmr,qmi,Rat.div_def]<;>grind
def Uvr(v:V5):Koa v=fV (Qeu v) (Qev v) (Qfx v) v.a v.b v.e:=by
 simp only[Qdm,Qnz,Knj,Qjy,Knz,Ues,Koa,fV,cj,qmr,qmi,qsr,qsi,Rat.div_def];grind
def Utt(v:V5):nm (Qjy v)=fN (Qeu v) (Qev v):=by
 simp only[Qjy,Knj,nm,fN,qmr,qmi,qsr,qsi];grind
def Uvq(v:V5):Qns v=fQ (Qeu v) (Qev v) (Qfx v) v.a v.b v.e v.d:=by
 have x:=Uvr v;have n:=Utt v;simp only[Qns,Ubx,Kcw,Kun,Ubv,Koa,Ues,Knz,Qnz,Qdm,Qjy,Knj,Ubw] at x n ⊢;unfold fQ;rw[<-x,<-n]
def Vaw(v:V5):Qmc v=fX (Qeu v) (Qev v) (Qfx v) v.a v.b v.e (sqr (fQ (Qeu v) (Qev v) (Qfx v) v.a v.b v.e v.d)):=by
 have x:=Uvr v;have n:=Utt v;rw[←Uvq v];unfold fX ctX;rw[←x,←n];apply Qcj<;>simp only[Qmc,Knb,Qnz,Qdm,Usp,Qjy,Knj,Ulz,Koa,Ues,Knz,Uso,Knd,Knc,qar,qai,qsr,qsi,qmr,qmi,Rat.div_def]<;>grind
def Vav(v:V5):Quu v=fX (Qeu v) (Qev v) (Qfx v) v.a v.b v.e (-sqr (fQ (Qeu v) (Qev v) (Qfx v) v.a v.b v.e v.d)):=by
 have x:=Uvr v;have n:=Utt v;rw[←Uvq v];unfold fX ctX;rw[←x,←n];apply Qcj<;>simp only[Quu,Knb,Qnz,Qdm,Usp,Qjy,Knj,Ulz,Koa,Ues,Knz,Uso,Knd,Knc,qar,qai,qsr,qsi,qmr,qmi,Rat.div_def]<;>grind
def Uvv(v:V5):Qqm v=fV ((Qeu v)*v.a-v.b*(Qcl v)) ((Qev v)*v.a-v.e*(Qcl v)) ((Qfx v)*v.a-v.d*(Qcl v)) v.a v.b v.e:=by
 simp only[Qdm,Qnz,Quv,Quw,Kct,Kcu,Qfw,Qql,Kcv,Qqm,fV,cj,qmr,qmi,qsr,qsi,Rat.div_def];grind
def Utv(v:V5):nm (Qfw v)=fN ((Qeu v)*v.a-v.b*(Qcl v)) ((Qev v)*v.a-v.e*(Qcl v)):=by
 simp only[Qfw,Quv,Kcu,Quw,nm,fN,qmr,qmi,qsr,qsi];grind
def Uvu(v:V5):Qnw v=fQ ((Qeu v)*v.a-v.b*(Qcl v)) ((Qev v)*v.a-v.e*(Qcl v)) ((Qfx v)*v.a-v.d*(Qcl v)) v.a v.b v.e v.d:=by
 have x:=Uvv v;have n:=Utv v;simp only[Qnw,Uca,Kcw,Kuq,Uby,Qqm,Kcv,Qql,Qnz,Qdm,Qfw,Quv,Kcu,Quw,Kct,Ubz] at x n ⊢;unfold fQ;rw[<-x,<-n]
def Vba(v:V5):Qmd v=fX ((Qeu v)*v.a-v.b*(Qcl v)) ((Qev v)*v.a-v.e*(Qcl v)) ((Qfx v)*v.a-v.d*(Qcl v)) v.a v.b v.e (sqr (fQ ((Qeu v)*v.a-v.b*(Qcl v)) ((Qev v)*v.a-v.e*(Qcl v)) ((Qfx v)*v.a-v.d*(Qcl v)) v.a v.b v.e v.d)):=by
 have x:=Uvv v;have n:=Utv v;rw[←Uvu v];unfold fX ctX;rw[←x,←n];apply Qcj<;>simp only[Qmd,Knf,Qnz,Qdm,Kup,Qfw,Quv,Kcu,Quw,Kne,Qqm,Kcv,Qql,Kct,Kuo,Knh,Kng,qar,qai,qsr,qsi,qmr,qmi,Rat.div_def]<;>grind
def Vaz(v:V5):Qux v=fX ((Qeu v)*v.a-v.b*(Qcl v)) ((Qev v)*v.a-v.e*(Qcl v)) ((Qfx v)*v.a-v.d*(Qcl v)) v.a v.b v.e (-sqr (fQ ((Qeu v)*v.a-v.b*(Qcl v)) ((Qev v)*v.a-v.e*(Qcl v)) ((Qfx v)*v.a-v.d*(Qcl v)) v.a v.b v.e v.d)):=by
 have x:=Uvv v;have n:=Utv v;rw[←Uvu v];unfold fX ctX;rw[←x,←n];apply Qcj<;>simp only[Qux,Knf,Qnz,Qdm,Kup,Qfw,Quv,Kcu,Quw,Kne,Qqm,Kcv,Qql,Kct,Kuo,Knh,Kng,qar,qai,qsr,qsi,qmr,qmi,Rat.div_def]<;>grind
end Go.Proofs.YtmimficdpfmfgaaGreat
namespace Go.Proofs.YtmimficdpfmfgaaGreat
open Go.RowKit Tr Proofs.Tryz
open Classical
def Vbl(v:V5)(ha:v.a=1)(he:v.e=0)(C:CO v.a v.b v.e v.d)(sz:Qaj v.z)(hz:0<v.z.im)(hu:(wx7 v)=0):FtP 1 1 v.a v.b v.e v.d v.z:=by
 have hPU:0<Qam (wx7 v) (wx8 v) (wx9 v) (Qfy v) (wx7 v) (wx8 v) (wx9 v) (Qfy v):=Qtm he hz C.hp;have hq:Qam v.a v.b v.e v.d 0 0 1 0=0:=by rw[ha,he];unfold Qam;grind
 have hp:=C.hp;have eU:upr 1 v.a v.b v.e v.d v.z=((wx7 v),(wx8 v),(wx9 v),(Qfy v)):=rfl;have eP:=Vaq v;have eM:=Vap v;have eQ:=Uvk v;have en:=Utq v;have mk:=fun(hN:¬(nm (Qjx v)=0))=>({ B:=C.bd sz,f0:=sg0 hq,f1:=(by rw[ha];decide +kernel),f2:=(sg0 hu),hN:=hN,hW:=C.wh,hz:=Qpu hz }:Qpv v)
 have hl:v.a=1/\v.b=v.b/\v.e=0/\v.d=v.d:=⟨ha,rfl,he,rfl⟩
 simp only[ha,he] at hp eU eP eM eQ;have hN:fN (wx8 v) (wx9 v)≠0:=by
  have k:=hPU;rw[hu] at k;have e:Qam 0 (wx8 v) (wx9 v) (Qfy v) 0 (wx8 v) (wx9 v) (Qfy v)=fN (wx8 v) (wx9 v):=by unfold Qam fN;grind
  rw[e] at k;exact pne k
 have H:=mk (by rw[en];exact hN)
 by_cases hr:Qer (Kki v)
 .have ht:=(Qhi hr).2;rw[eQ] at ht;have F:(0<(Qqn v).im->Qld 1 1 v.b 0 v.d v.z (Qqn v))/\(¬0<(Qqn v).im->Qld 1 1 v.b 0 v.d v.z (Kxb v)):=by
   rw[eP,eM];exact Uwo hz hp (u1:=(wx8 v)) (u2:=(wx9 v)) (u3:=(Qfy v)) (by rw[eU,hu]) (N:=fN (wx8 v) (wx9 v)) rfl (r:=-v.b/1) (d1 _) (s:=0/1) (d1 _) (v:=fV (wx8 v) (wx9 v) (Qfy v) 1 v.b 0) rfl (R:=Qam 1 v.b 0 v.d 1 v.b 0 v.d/(1*1)) (d11 _) ht
  by_cases h1:0<(Qqn v).im
  .exact ftY hl (F.1 h1) (fun y=>Kzl v H hr (Qcy.2 h1) y) (fun y=>Kzm v H hr (Qcy.2 h1) y)
  .exact ftY hl (F.2 h1) (fun y=>Kzn v H hr (fun k=>h1 (Qcy.1 k)) y) (fun y=>Kzo v H hr (fun k=>h1 (Qcy.1 k)) y)
 .refine ftN hl (Kzp v H hr) (fun⟨x,x1,x2⟩=>hr ?_);rw[eU] at x2;rw[eQ];exact Qxq (by decide) hN (x1) (by rw[hu] at x2;exact x2)
def Vbn(v:V5)(ha:v.a=1)(he:v.e=0)(C:CO v.a v.b v.e v.d)(sz:Qaj v.z)(hz:0<v.z.im)(hu:(wx7 v)≠0):FtP 1 1 v.a v.b v.e v.d v.z:=by
 have hPU:0<Qam (wx7 v) (wx8 v) (wx9 v) (Qfy v) (wx7 v) (wx8 v) (wx9 v) (Qfy v):=Qtm he hz C.hp;have hq:Qam v.a v.b v.e v.d 0 0 1 0=0:=by rw[ha,he];unfold Qam;grind
 have hp:=C.hp;have eU:upr 1 v.a v.b v.e v.d v.z=((wx7 v),(wx8 v),(wx9 v),(Qfy v)):=rfl;have eP:=Vau v;have eM:=Vat v;have eQ:=Uvo v;have en:=Uts v;have mk:=fun(hN:¬(nm (Qmi v)=0))=>({ B:=C.bd sz,f0:=sg0 hq,f1:=(by rw[ha];decide +kernel),f2:=(fun k=>hu (sgz k)),hN:=hN,hW:=C.wh,hz:=Qpu hz }:Qpx v)
 have hl:v.a=1/\v.b=v.b/\v.e=0/\v.d=v.d:=⟨ha,rfl,he,rfl⟩
 simp only[ha,he] at hp eU eP eM eQ en;have hN:fN ((wx8 v)*1-v.b*(wx7 v)) ((wx9 v)*1-0*(wx7 v))≠0:=pne (Ude hPU (by have k:=Qid 1 1 v.b 0 v.d v.z (by simp);rw[eU] at k;exact k) hp);have H:=mk (by rw[en];exact hN)
 by_cases hr:Qer (Kkj v)
 .have ht:=(Qhi hr).2;rw[eQ] at ht;have F:(0<(Qqo v).im->Qld 1 1 v.b 0 v.d v.z (Qqo v))/\(¬0<(Qqo v).im->Qld 1 1 v.b 0 v.d v.z (Kxe v)):=by
   rw[eP,eM];have F:=Uwp hz hp (u0:=(wx7 v)) (u1:=(wx8 v)) (u2:=(wx9 v)) (u3:=(Qfy v)) eU (N:=fN ((wx8 v)-v.b*(wx7 v)) ((wx9 v)-0*(wx7 v))) rfl (r:=-v.b/1) (d1 _) (s:=0/1) (d1 _) (v:=fV ((wx8 v)-v.b*(wx7 v)) ((wx9 v)-0*(wx7 v)) ((Qfy v)-v.d*(wx7 v)) 1 v.b 0) rfl (R:=Qam 1 v.b 0 v.d 1 v.b 0 v.d/(1*1)) (d11 _) (t:=sqr (fQ ((wx8 v)-v.b*(wx7 v)) ((wx9 v)-0*(wx7 v)) ((Qfy v)-v.d*(wx7 v)) 1 v.b 0 v.d)) (by simp only[Rat.mul_one] at ht;exact ht);simp only[Rat.mul_one];exact F
  by_cases h1:0<(Qqo v).im
  .exact ftY hl (F.1 h1) (fun y=>Kzu v H hr (Qcy.2 h1) y) (fun y=>Kzv v H hr (Qcy.2 h1) y)
  .exact ftY hl (F.2 h1) (fun y=>Kzw v H hr (fun k=>h1 (Qcy.1 k)) y) (fun y=>Kzx v H hr (fun k=>h1 (Qcy.1 k)) y)
 .refine ftN hl (Kzy v H hr) (fun⟨x,x1,x2⟩=>hr ?_);rw[eU] at x2;rw[eQ];exact Qxq (by decide) hN x1 (by unfold vl at x1 x2 ⊢;grind)
def Vbm(v:V5)(ha:v.a=0)(hb:v.b=1)(he:v.e=0)(C:CO v.a v.b v.e v.d)(sz:Qaj v.z)(hz:0<v.z.im)(hu:(wx7 v)≠0):FtP 1 1 v.a v.b v.e v.d v.z:=by
 have hPU:0<Qam (wx7 v) (wx8 v) (wx9 v) (Qfy v) (wx7 v) (wx8 v) (wx9 v) (Qfy v):=Qtm he hz C.hp;have hq:Qam v.a v.b v.e v.d 0 0 1 0=0:=by rw[ha,hb,he];unfold Qam;grind
 have hp:=C.hp;have eU:upr 1 v.a v.b v.e v.d v.z=((wx7 v),(wx8 v),(wx9 v),(Qfy v)):=rfl;have eP:=Vas v;have eM:=Var v;have eQ:=Uvm v;have en:=Utr v;have mk:=fun(hN:¬(nm (Qdm v)=0))=>({ B:=C.bd sz,f0:=sg0 hq,f1:=(sg0 ha),f2:=(fun k=>hu (sgz k)),hN:=hN,hW:=C.wh,hz:=Qpu hz }:Qpw v)
 have hl:v.a=0/\v.b=1/\v.e=0/\v.d=v.d:=⟨ha,hb,he,rfl⟩
 simp only[ha,hb,he] at hp eU eP eM eQ en;have hN:fN 1 0≠0:=by decide +kernel
 have H:=mk (by rw[en];exact hN)
 by_cases hr:Qer (Kde v)
 .have ht:=(Qhi hr).2;rw[eQ] at ht;have F:(0<(Qoz v).im->Qld 1 0 1 0 v.d v.z (Qoz v))/\(¬0<(Qoz v).im->Qld 1 0 1 0 v.d v.z (Kxa v)):=by
   rw[eP,eM];exact Uwq hz (u0:=(wx7 v)) (u1:=(wx8 v)) (u2:=(wx9 v)) (u3:=(Qfy v)) eU hu (N:=fN 1 0) rfl (r:=-(wx8 v)/(wx7 v)) rfl (s:=(wx9 v)/(wx7 v)) rfl (v:=fV 1 0 v.d (wx7 v) (wx8 v) (wx9 v)) rfl (R:=Qam (wx7 v) (wx8 v) (wx9 v) (Qfy v) (wx7 v) (wx8 v) (wx9 v) (Qfy v)/((wx7 v)*(wx7 v))) rfl ht
  by_cases h1:0<(Qoz v).im
  .exact ftY hl (F.1 h1) (fun y=>Kic v H hr (Qcy.2 h1) y) (fun y=>Kzq v H hr (Qcy.2 h1) y)
  .exact ftY hl (F.2 h1) (fun y=>Kzr v H hr (fun k=>h1 (Qcy.1 k)) y) (fun y=>Kzs v H hr (fun k=>h1 (Qcy.1 k)) y)
 .refine ftN hl (Kzt v H hr) (fun⟨x,x1,x2⟩=>hr ?_);rw[eU] at x2;rw[eQ];exact Qxq hu hN x2 x1
def Vbo(v:V5)(ha:v.a=1)(hd:v.d=1)(C:CO v.a v.b v.e v.d)(sz:Qaj v.z)(hz:0<1-nm v.z)(hu:(Qcl v)=0):FtP 2 2 v.a v.b v.e v.d v.z:=by
 have hPU:0<Qam (Qcl v) (Qeu v) (Qev v) (Qfx v) (Qcl v) (Qeu v) (Qev v) (Qfx v):=Qtn (by rw[ha,hd]) hz C.hp;have hq:Qam v.a v.b v.e v.d 1 0 0 (-1)=0:=by rw[ha,hd];unfold Qam;grind
 have hp:=C.hp;have eU:upr 2 v.a v.b v.e v.d v.z=((Qcl v),(Qeu v),(Qev v),(Qfx v)):=rfl;have eP:=Vaw v;have eM:=Vav v;have eQ:=Uvq v;have en:=Utt v;have mk:=fun(hN:¬(nm (Qjy v)=0))=>({ B:=C.bd sz,f0:=sg0 hq,f1:=(by rw[ha];decide +kernel),f2:=(sg0 hu),hN:=hN,hW:=C.wh,hz:=Qpu hz }:Qpy v)
 have hl:v.a=1/\v.b=v.b/\v.e=v.e/\v.d=1:=⟨ha,rfl,rfl,hd⟩
 simp only[ha,hd] at hp eU eP eM eQ;have hN:fN (Qeu v) (Qev v)≠0:=by
  have k:=hPU;rw[hu] at k;have e:Qam 0 (Qeu v) (Qev v) (Qfx v) 0 (Qeu v) (Qev v) (Qfx v)=fN (Qeu v) (Qev v):=by unfold Qam fN;grind
  rw[e] at k;exact pne k
 have H:=mk (by rw[en];exact hN)
 by_cases hr:Qer (Qns v)
 .have ht:=(Qhi hr).2;rw[eQ] at ht;have F:(0<1-nm (Qmc v)->Qld 2 1 v.b v.e 1 v.z (Qmc v))/\(¬0<1-nm (Qmc v)->Qld 2 1 v.b v.e 1 v.z (Quu v)):=by
   rw[eP,eM];exact Uoe hz hp (u1:=(Qeu v)) (u2:=(Qev v)) (u3:=(Qfx v)) (by rw[eU,hu]) (N:=fN (Qeu v) (Qev v)) rfl (r:=-v.b/1) (d1 _) (s:=v.e/1) (d1 _) (v:=fV (Qeu v) (Qev v) (Qfx v) 1 v.b v.e) rfl (R:=Qam 1 v.b v.e 1 1 v.b v.e 1/(1*1)) (d11 _) ht
  by_cases h1:0<1-nm (Qmc v)
  .exact ftY hl (F.1 h1) (fun y=>Kzz v H hr (Qcy.2 h1) y) (fun y=>Uaa v H hr (Qcy.2 h1) y)
  .exact ftY hl (F.2 h1) (fun y=>Uab v H hr (fun k=>h1 (Qcy.1 k)) y) (fun y=>Uac v H hr (fun k=>h1 (Qcy.1 k)) y)
 .refine ftN hl (Uad v H hr) (fun⟨x,x1,x2⟩=>hr ?_);rw[eU] at x2;rw[eQ];exact Qxq (by decide) hN (x1) (by rw[hu] at x2;exact x2)
def Vbq(v:V5)(ha:v.a=1)(hd:v.d=1)(C:CO v.a v.b v.e v.d)(sz:Qaj v.z)(hz:0<1-nm v.z)(hu:(Qcl v)≠0):FtP 2 2 v.a v.b v.e v.d v.z:=by
 have hPU:0<Qam (Qcl v) (Qeu v) (Qev v) (Qfx v) (Qcl v) (Qeu v) (Qev v) (Qfx v):=Qtn (by rw[ha,hd]) hz C.hp;have hq:Qam v.a v.b v.e v.d 1 0 0 (-1)=0:=by rw[ha,hd];unfold Qam;grind
 have hp:=C.hp;have eU:upr 2 v.a v.b v.e v.d v.z=((Qcl v),(Qeu v),(Qev v),(Qfx v)):=rfl;have eP:=Vba v;have eM:=Vaz v;have eQ:=Uvu v;have en:=Utv v;have mk:=fun(hN:¬(nm (Qfw v)=0))=>({ B:=C.bd sz,f0:=sg0 hq,f1:=(by rw[ha];decide +kernel),f2:=(fun k=>hu (sgz k)),hN:=hN,hW:=C.wh,hz:=Qpu hz }:Qqa v)
 have hl:v.a=1/\v.b=v.b/\v.e=v.e/\v.d=1:=⟨ha,rfl,rfl,hd⟩
 simp only[ha,hd] at hp eU eP eM eQ en;have hN:fN ((Qeu v)*1-v.b*(Qcl v)) ((Qev v)*1-v.e*(Qcl v))≠0:=pne (Ude hPU (by have k:=Qid 2 1 v.b v.e 1 v.z (by simp);rw[eU] at k;exact k) hp);have H:=mk (by rw[en];exact hN)
 by_cases hr:Qer (Qnw v)
 .have ht:=(Qhi hr).2;rw[eQ] at ht;have F:(0<1-nm (Qmd v)->Qld 2 1 v.b v.e 1 v.z (Qmd v))/\(¬0<1-nm (Qmd v)->Qld 2 1 v.b v.e 1 v.z (Qux v)):=by
   rw[eP,eM];have F:=Uof hz hp (u0:=(Qcl v)) (u1:=(Qeu v)) (u2:=(Qev v)) (u3:=(Qfx v)) eU (N:=fN ((Qeu v)-v.b*(Qcl v)) ((Qev v)-v.e*(Qcl v))) rfl (r:=-v.b/1) (d1 _) (s:=v.e/1) (d1 _) (v:=fV ((Qeu v)-v.b*(Qcl v)) ((Qev v)-v.e*(Qcl v)) ((Qfx v)-1*(Qcl v)) 1 v.b v.e) rfl (R:=Qam 1 v.b v.e 1 1 v.b v.e 1/(1*1)) (d11 _) (t:=sqr (fQ ((Qeu v)-v.b*(Qcl v)) ((Qev v)-v.e*(Qcl v)) ((Qfx v)-1*(Qcl v)) 1 v.b v.e 1)) (by simp only[Rat.mul_one] at ht;exact ht);simp only[Rat.mul_one];exact F
  by_cases h1:0<1-nm (Qmd v)
  .exact ftY hl (F.1 h1) (fun y=>Uaj v H hr (Qcy.2 h1) y) (fun y=>Uak v H hr (Qcy.2 h1) y)
  .exact ftY hl (F.2 h1) (fun y=>Ual v H hr (fun k=>h1 (Qcy.1 k)) y) (fun y=>Uam v H hr (fun k=>h1 (Qcy.1 k)) y)
 .refine ftN hl (Uan v H hr) (fun⟨x,x1,x2⟩=>hr ?_);rw[eU] at x2;rw[eQ];exact Qxq (by decide) hN x1 (by unfold vl at x1 x2 ⊢;grind)
def Vbp(v:V5)(ha:v.a=0)(hd:v.d=0)(C:CO v.a v.b v.e v.d)(sz:Qaj v.z)(hz:0<1-nm v.z)(hu:(Qcl v)≠0):FtP 2 2 v.a v.b v.e v.d v.z:=by
 have hPU:0<Qam (Qcl v) (Qeu v) (Qev v) (Qfx v) (Qcl v) (Qeu v) (Qev v) (Qfx v):=Qtn (by rw[ha,hd]) hz C.hp;have hq:Qam v.a v.b v.e v.d 1 0 0 (-1)=0:=by rw[ha,hd];unfold Qam;grind
 have hp:=C.hp;have eU:upr 2 v.a v.b v.e v.d v.z=((Qcl v),(Qeu v),(Qev v),(Qfx v)):=rfl;have eP:=Vay v;have eM:=Vax v;have eQ:=Uvs v;have en:=Utu v;have mk:=fun(hN:¬(nm (Qdm v)=0))=>({ B:=C.bd sz,f0:=sg0 hq,f1:=(sg0 ha),f2:=(fun k=>hu (sgz k)),hN:=hN,hW:=C.wh,hz:=Qpu hz }:Qpz v)
 have hl:v.a=0/\v.b=v.b/\v.e=v.e/\v.d=0:=⟨ha,rfl,rfl,hd⟩
 simp only[ha,hd] at hp eU eP eM eQ en;have hN:fN v.b v.e≠0:=by
  have e:Qam 0 v.b v.e 0 0 v.b v.e 0=fN v.b v.e:=by unfold Qam fN;grind
  rw[e] at hp;exact pne hp
 have H:=mk (by rw[en];exact hN)
 by_cases hr:Qer (Kkl v)
 .have ht:=(Qhi hr).2;rw[eQ] at ht;have F:(0<1-nm (Kgb v)->Qld 2 0 v.b v.e 0 v.z (Kgb v))/\(¬0<1-nm (Kgb v)->Qld 2 0 v.b v.e 0 v.z (Kxf v)):=by
   rw[eP,eM];exact Uwn hz hp (u0:=(Qcl v)) (u1:=(Qeu v)) (u2:=(Qev v)) (u3:=(Qfx v)) eU hu (N:=fN v.b v.e) rfl (r:=-(Qeu v)/(Qcl v)) rfl (s:=(Qev v)/(Qcl v)) rfl (v:=fV v.b v.e 0 (Qcl v) (Qeu v) (Qev v)) rfl (R:=Qam (Qcl v) (Qeu v) (Qev v) (Qfx v) (Qcl v) (Qeu v) (Qev v) (Qfx v)/((Qcl v)*(Qcl v))) rfl ht
  by_cases h1:0<1-nm (Kgb v)
  .exact ftY hl (F.1 h1) (fun y=>Uae v H hr (Qcy.2 h1) y) (fun y=>Uaf v H hr (Qcy.2 h1) y)
  .exact ftY hl (F.2 h1) (fun y=>Uag v H hr (fun k=>h1 (Qcy.1 k)) y) (fun y=>Uah v H hr (fun k=>h1 (Qcy.1 k)) y)
 .refine ftN hl (Uai v H hr) (fun⟨x,x1,x2⟩=>hr ?_);rw[eU] at x2;rw[eQ];exact Qxq hu hN x2 x1
def ft1{a b e d:Rat}{z:QC}(C:CO a b e d)(he:e=0)(sz:Qaj z)(hz:0<z.im):FtP 1 1 a b e d z:=by
 rcases C.nf with h|⟨h,h2⟩|⟨h,h2,h3⟩
 .by_cases hu:(wx7 ⟨a,b,e,d,z⟩)=0
  .exact Vbl ⟨a,b,e,d,z⟩ h he C sz hz hu
  .exact Vbn ⟨a,b,e,d,z⟩ h he C sz hz hu
 .refine Vbm ⟨a,b,e,d,z⟩ h h2 he C sz hz (fun hu=>?_);subst h;subst h2;subst he;have k:=Qws (a:=0) (b:=1) (d:=d) (z:=z) hz C.hp;have k2:=Qid 1 0 1 0 d z (by simp);have k3:=Qwq 0 1 d z;have k0:(upr 1 0 1 0 d z).1=0:=hu;rw[k0,k3] at k k2;generalize (upr 1 0 1 0 d z).2.1=x at *
  generalize (upr 1 0 1 0 d z).2.2.2=y at *
  unfold Qam at k k2;have:x=0:=by grind
  subst this;grind
 .rw[he] at h3;exact absurd h3 (by decide)
def Vbr(b e:Rat)(z:QC)(C:CO 0 b e 0)(sz:Qaj z)(hz:0<1-nm z)(hu:(Qcl ⟨0,b,e,0,z⟩)=0):FtP 2 2 0 b e 0 z:=by
 refine .inr ⟨⟨0,0⟩,⟨?_,?_,?_⟩,fun _=>Uao ⟨0,b,e,0,z⟩ { B:=CO.bd (v:=⟨0,b,e,0,z⟩) C sz,hz:=Qpu hz,f0:=sg0 (by show Qam 0 b e 0 1 0 0 (-1)=0;unfold Qam;grind),f1:=rfl,f2:=sg0 hu,hW:=C.wh },fun k=>(k (Qbf dK)).elim⟩
 .show 0<1-nm (⟨0,0⟩:QC);unfold nm;decide +kernel
 .unfold vl nm;grind
 .have k0:(upr 2 0 b e 0 z).1=0:=hu;have k3:=Qwr 0 b e z;rw[k0] at k3;rw[k0,k3];unfold vl nm;grind
def ft2{a b e d:Rat}{z:QC}(C:CO a b e d)(he:a=d)(sz:Qaj z)(hz:0<1-nm z):FtP 2 2 a b e d z:=by
 by_cases hu:(Qcl ⟨a,b,e,d,z⟩)=0
 .rcases C.nf with h|h
  .exact Vbo ⟨a,b,e,d,z⟩ h (he▸h) C sz hz hu
  .have h:a=0:=h.elim (fun k=>k.1) (fun k=>k.1);subst h;subst he;exact Vbr b e z C sz hz hu
 .rcases C.nf with h|h
  .exact Vbq ⟨a,b,e,d,z⟩ h (he▸h) C sz hz hu
  .have h:a=0:=h.elim (fun k=>k.1) (fun k=>k.1);exact Vbp ⟨a,b,e,d,z⟩ h (he▸h) C sz hz hu
def tw(t:Bool)(w:QC):QC:=if t then cj w else w
def den(t:Bool)(c d w:QC):QC:=c*tw t w+d
def Qtc(w:World)(a b c d a' b' c' d':Rat)(r:Bool)(hr:r=true↔(a=a'/\b=b'/\c=c'/\d=d')):(binOp .eql 47 (Knl a b c d) (Knl a' b' c' d')).run prog w=.ok (.bool r) w:=by
 cases r
 .have hn:=mt hr.2 Bool.false_ne_true;unfold Knl
  go_simp
  simp only[Qtk,Kzc];intro h1 h2 h3 h4 h5 h6 h7 h8 h9 h10 h11 h12;exact hn ⟨Qgk (by unfold Qew;rw[h2,h3,decide_eq_decide.2 h1]),Qgk (by unfold Qew;rw[h5,h6,decide_eq_decide.2 h4]),Qgk (by unfold Qew;rw[h8,h9,decide_eq_decide.2 h7]),Qgk (by unfold Qew;rw[h11,h12,decide_eq_decide.2 h10])⟩
 .obtain⟨rfl,rfl,rfl,rfl⟩:=hr.1 rfl;exact Qwi w a b c d
def bC{L:List GF}(x y:AR)(a b c d a' b' c' d':Rat)(r:Bool)(hr:r=true↔(a=a'/\b=b'/\c=c'/\d=d'))(hx:x.gv L=some (Knl a b c d):=by kernel_rfl)(hy:y.gv L=some (Knl a' b' c' d'):=by kernel_rfl):GB prog L :=
 gb .eql 47 x y (.lit (.bool r)) (Qof kR (fun w=>Qtc w a b c d a' b' c' d' r hr)) hx hy rfl
def wv1(a b e:Rat)(z:QC):Rat:=up0 (0:Rat) ((⟨0,1⟩:QC).re) ((⟨0,1⟩:QC).im) a b e (1:Rat) (-z.re) z.im
def Urs(a b e:Rat)(z:QC)(d:Rat){k:Nat}(b_a:RL a k)(b_b:RL b k)(b_e:RL e k)(b_d:RL d k)(b_z:ZL z k):RL (wv1 a b e z) (60*k+15398):=(Qmq (0:Rat) ((⟨0,1⟩:QC).re) ((⟨0,1⟩:QC).im) (0:Rat) a b e d (1:Rat) (-z.re) z.im (nm z) (ri 0) (((Qab (Qbf dK)).1).mn) (((Qab (Qbf dK)).2).mn) (ri 0) b_a.mn b_b.mn b_e.mn b_d.mn (ri 1) ((Qah b_z.1).mn) (b_z.2.mn) ((Qbe b_z).upby 1023)).mn
def wv2(a e d:Rat)(z:QC):Rat:=up1 (0:Rat) ((⟨0,1⟩:QC).im) (0:Rat) a e d (1:Rat) z.im (nm z)
def Urt(a e d:Rat)(z:QC)(b:Rat){k:Nat}(b_a:RL a k)(b_b:RL b k)(b_e:RL e k)(b_d:RL d k)(b_z:ZL z k):RL (wv2 a e d z) (60*k+15398):=(Qmr (0:Rat) ((⟨0,1⟩:QC).re) ((⟨0,1⟩:QC).im) (0:Rat) a b e d (1:Rat) (-z.re) z.im (nm z) (ri 0) (((Qab (Qbf dK)).1).mn) (((Qab (Qbf dK)).2).mn) (ri 0) b_a.mn b_b.mn b_e.mn b_d.mn (ri 1) ((Qah b_z.1).mn) (b_z.2.mn) ((Qbe b_z).upby 1023)).mn
def wv3(a b d:Rat)(z:QC):Rat:=up2 (0:Rat) ((⟨0,1⟩:QC).re) (0:Rat) a b d (1:Rat) (-z.re) (nm z)
def Uru(a b d:Rat)(z:QC)(e:Rat){k:Nat}(b_a:RL a k)(b_b:RL b k)(b_e:RL e k)(b_d:RL d k)(b_z:ZL z k):RL (wv3 a b d z) (60*k+15398):=(Qms (0:Rat) ((⟨0,1⟩:QC).re) ((⟨0,1⟩:QC).im) (0:Rat) a b e d (1:Rat) (-z.re) z.im (nm z) (ri 0) (((Qab (Qbf dK)).1).mn) (((Qab (Qbf dK)).2).mn) (ri 0) b_a.mn b_b.mn b_e.mn b_d.mn (ri 1) ((Qah b_z.1).mn) (b_z.2.mn) ((Qbe b_z).upby 1023)).mn
def wv4(b e d:Rat)(z:QC):Rat:=up3 ((⟨0,1⟩:QC).re) ((⟨0,1⟩:QC).im) (0:Rat) b e d (-z.re) z.im (nm z)
def Urv(b e d:Rat)(z:QC)(a:Rat){k:Nat}(b_a:RL a k)(b_b:RL b k)(b_e:RL e k)(b_d:RL d k)(b_z:ZL z k):RL (wv4 b e d z) (60*k+15398):=(Qmt (0:Rat) ((⟨0,1⟩:QC).re) ((⟨0,1⟩:QC).im) (0:Rat) a b e d (1:Rat) (-z.re) z.im (nm z) (ri 0) (((Qab (Qbf dK)).1).mn) (((Qab (Qbf dK)).2).mn) (ri 0) b_a.mn b_b.mn b_e.mn b_d.mn (ri 1) ((Qah b_z.1).mn) (b_z.2.mn) ((Qbe b_z).upby 1023)).mn
def Usb:FnsOk prog [⟨95,Tryz.f95,2000⟩,⟨113,Tryz.f113,2000⟩,⟨138,Tryz.f138,2000⟩,⟨117,Tryz.f117,2000⟩,⟨136,Tryz.f136,2000⟩]:=(Uob (Qxr (Kdy (Kqg (Kyw .nil)))))
def Vaf(a b e d:Rat)(z:QC)(b_a:RL a 1024)(b_b:RL b 1024)(b_e:RL e 1024)(b_d:RL d 1024)(b_z:ZL z 1024)(hP:0<Qam (wv1 a b e z) (wv2 a e d z) (wv3 a b d z) (wv4 b e d z) (wv1 a b e z) (wv2 a e d z) (wv3 a b d z) (wv4 b e d z)):SCt 32 [gIi 1,.row (rG (⟨a,b⟩:QC)++rG (⟨e,d⟩:QC)),.row (rG z)] (.r (.row (Quo (wv1 a b e z) (wv2 a e d z) (wv3 a b d z) (wv4 b e d z)))) :=
  Qas (L := [cF a,cF b,cF e,cF d,cG z,cF (0 : Rat),(Qan (⟨0,1⟩ : QC)).cells,cF (1 : Rat),cF (-z.re),cF (nm z),cF (wv1 a b e z),cF (wv2 a e d z),cF (wv3 a b d z),cF (wv4 b e d z),Quo (wv1 a b e z) (wv2 a e d z) (wv3 a b d z) (wv4 b e d z)].flatten) Qae Qai
     [Qbw eo78,gs (Qfv 0 (by decide) (by decide)) [lc 0] (rQ 18),gs (Knn 0 1) [lc 0,lc 1] (.r (yR 21 8)),gs (Qfv 1 (by decide) (by decide)) [lc 1] (rQ 29),gs (Qhg z.re) [yQ 12] (rQ 32),gs (Qlg z b_z.mn) [.row (gR 12)] (rQ 35),gs (Uvf (0:Rat) ((⟨0,1⟩:QC).re) ((⟨0,1⟩:QC).im) (0:Rat) a b e d (1:Rat) (-z.re) z.im (nm z) (ri 0) (((Qab (Qbf dK)).1).mn) (((Qab (Qbf dK)).2).mn) (ri 0) b_a.mn b_b.mn b_e.mn b_d.mn (ri 1) ((Qah b_z.1).mn) (b_z.2.mn) ((Qbe b_z).mn)) [.row (flA [[.sym 18,.sym 19,.lit (.bool false)],Qbd 20 9,(qS 18),gL [0,6,29],[.sym 15,.sym 16,.lit (.bool false),.sym 17,.sym 35,.sym 36,.lit (.bool false),.sym 37]])] (.r (.row (gL [38,44]))),gs (Ufu (wv1 a b e z) (wv2 a e d z) (wv3 a b d z) (wv4 b e d z) ((Urs a b e z d b_a b_b b_e b_d b_z).mn) ((Urt a e d z b b_a b_b b_e b_d b_z).mn) ((Uru a b d z e b_a b_b b_e b_d b_z).mn) ((Urv b e d z a b_a b_b b_e b_d b_z).mn) hP) [.row (gL [38,44])] (.tup [yR 50 16,cTt])]
     [] [] Usb 1 3 func32 eo32 2000 [lc 1,.row (gL [0,6]),.row (gR 12)] (.r (yR 50 16))
def wv5(a b e:Rat)(z:QC):Rat:=up0 (1:Rat) ((⟨0,0⟩:QC).re) ((⟨0,0⟩:QC).im) a b e (1:Rat) (-z.re) z.im
def Urw(a b e:Rat)(z:QC)(d:Rat){k:Nat}(b_a:RL a k)(b_b:RL b k)(b_e:RL e k)(b_d:RL d k)(b_z:ZL z k):RL (wv5 a b e z) (60*k+15398):=(Qmq (1:Rat) ((⟨0,0⟩:QC).re) ((⟨0,0⟩:QC).im) (-1:Rat) a b e d (1:Rat) (-z.re) z.im (nm z) (ri 1) (((Qab (Qbf dK)).1).mn) (((Qab (Qbf dK)).2).mn) (ri (-1)) b_a.mn b_b.mn b_e.mn b_d.mn (ri 1) ((Qah b_z.1).mn) (b_z.2.mn) ((Qbe b_z).upby 1023)).mn
def wv6(a e d:Rat)(z:QC):Rat:=up1 (1:Rat) ((⟨0,0⟩:QC).im) (-1:Rat) a e d (1:Rat) z.im (nm z)
def Urx(a e d:Rat)(z:QC)(b:Rat){k:Nat}(b_a:RL a k)(b_b:RL b k)(b_e:RL e k)(b_d:RL d k)(b_z:ZL z k):RL (wv6 a e d z) (60*k+15398):=(Qmr (1:Rat) ((⟨0,0⟩:QC).re) ((⟨0,0⟩:QC).im) (-1:Rat) a b e d (1:Rat) (-z.re) z.im (nm z) (ri 1) (((Qab (Qbf dK)).1).mn) (((Qab (Qbf dK)).2).mn) (ri (-1)) b_a.mn b_b.mn b_e.mn b_d.mn (ri 1) ((Qah b_z.1).mn) (b_z.2.mn) ((Qbe b_z).upby 1023)).mn
def wv7(a b d:Rat)(z:QC):Rat:=up2 (1:Rat) ((⟨0,0⟩:QC).re) (-1:Rat) a b d (1:Rat) (-z.re) (nm z)
def Ury(a b d:Rat)(z:QC)(e:Rat){k:Nat}(b_a:RL a k)(b_b:RL b k)(b_e:RL e k)(b_d:RL d k)(b_z:ZL z k):RL (wv7 a b d z) (60*k+15398):=(Qms (1:Rat) ((⟨0,0⟩:QC).re) ((⟨0,0⟩:QC).im) (-1:Rat) a b e d (1:Rat) (-z.re) z.im (nm z) (ri 1) (((Qab (Qbf dK)).1).mn) (((Qab (Qbf dK)).2).mn) (ri (-1)) b_a.mn b_b.mn b_e.mn b_d.mn (ri 1) ((Qah b_z.1).mn) (b_z.2.mn) ((Qbe b_z).upby 1023)).mn
def wv8(b e d:Rat)(z:QC):Rat:=up3 ((⟨0,0⟩:QC).re) ((⟨0,0⟩:QC).im) (-1:Rat) b e d (-z.re) z.im (nm z)
def Urz(b e d:Rat)(z:QC)(a:Rat){k:Nat}(b_a:RL a k)(b_b:RL b k)(b_e:RL e k)(b_d:RL d k)(b_z:ZL z k):RL (wv8 b e d z) (60*k+15398):=(Qmt (1:Rat) ((⟨0,0⟩:QC).re) ((⟨0,0⟩:QC).im) (-1:Rat) a b e d (1:Rat) (-z.re) z.im (nm z) (ri 1) (((Qab (Qbf dK)).1).mn) (((Qab (Qbf dK)).2).mn) (ri (-1)) b_a.mn b_b.mn b_e.mn b_d.mn (ri 1) ((Qah b_z.1).mn) (b_z.2.mn) ((Qbe b_z).upby 1023)).mn
def Vag(a b e d:Rat)(z:QC)(b_a:RL a 1024)(b_b:RL b 1024)(b_e:RL e 1024)(b_d:RL d 1024)(b_z:ZL z 1024)(hP:0<Qam (wv5 a b e z) (wv6 a e d z) (wv7 a b d z) (wv8 b e d z) (wv5 a b e z) (wv6 a e d z) (wv7 a b d z) (wv8 b e d z)):SCt 32 [gIi 2,.row (rG (⟨a,b⟩:QC)++rG (⟨e,d⟩:QC)),.row (rG z)] (.r (.row (Quo (wv5 a b e z) (wv6 a e d z) (wv7 a b d z) (wv8 b e d z)))) :=
  Qas (L := [cF a,cF b,cF e,cF d,cG z,cF (1 : Rat),(Qan (⟨0,0⟩ : QC)).cells,cF (-1 : Rat),cF (-z.re),cF (nm z),cF (wv5 a b e z),cF (wv6 a e d z),cF (wv7 a b d z),cF (wv8 b e d z),Quo (wv5 a b e z) (wv6 a e d z) (wv7 a b d z) (wv8 b e d z)].flatten) Qae Qai
     [Qbw eo78,gs (Qfv 1 (by decide) (by decide)) [lc 1] (rQ 18),gs (Knn 0 0) [lc 0,lc 0] (.r (yR 21 8)),gs (Qfv (-1) (by decide) (by decide)) [lc (-1)] (rQ 29),gs (Qhg z.re) [yQ 12] (rQ 32),gs (Qlg z b_z.mn) [.row (gR 12)] (rQ 35),gs (Uvf (1:Rat) ((⟨0,0⟩:QC).re) ((⟨0,0⟩:QC).im) (-1:Rat) a b e d (1:Rat) (-z.re) z.im (nm z) (ri 1) (((Qab (Qbf dK)).1).mn) (((Qab (Qbf dK)).2).mn) (ri (-1)) b_a.mn b_b.mn b_e.mn b_d.mn (ri 1) ((Qah b_z.1).mn) (b_z.2.mn) ((Qbe b_z).mn)) [.row (flA [[.sym 18,.sym 19,.lit (.bool false)],Qbd 20 11,[.lit (.bool false),.sym 31],gL [0,6],[.sym 18,.sym 19,.lit (.bool false),.sym 20,.sym 32,.sym 33,.lit (.bool false),.sym 34,.sym 15,.sym 16,.lit (.bool false),.sym 17,.sym 35,.sym 36,.lit (.bool false),.sym 37]])] (.r (.row (gL [38,44]))),gs (Ufu (wv5 a b e z) (wv6 a e d z) (wv7 a b d z) (wv8 b e d z) ((Urw a b e z d b_a b_b b_e b_d b_z).mn) ((Urx a e d z b b_a b_b b_e b_d b_z).mn) ((Ury a b d z e b_a b_b b_e b_d b_z).mn) ((Urz b e d z a b_a b_b b_e b_d b_z).mn) hP) [.row (gL [38,44])] (.tup [yR 50 16,cTt])]
     [] [] Usb 1 3 func32 eo32 2000 [lc 2,.row (gL [0,6]),.row (gR 12)] (.r (yR 50 16))
structure W13 where
 (a b e d u0 u1 u2 u3 m0 m1 m2 m3:Rat)
 z:QC
 p:Int
structure W13.O(v:W13):Prop where
 a:RL v.a 65000
 b:RL v.b 65000
 e:RL v.e 65000
 d:RL v.d 65000
 u0:RL v.u0 65000
 u1:RL v.u1 65000
 u2:RL v.u2 65000
 u3:RL v.u3 65000
 m0:RL v.m0 65000
 m1:RL v.m1 65000
 m2:RL v.m2 65000
 m3:RL v.m3 65000
 z:ZL v.z 65000
def wy1(v:W13):Rat:=Qam v.a v.b v.e v.d (0:Rat) ((⟨0,1⟩:QC).re) ((⟨0,1⟩:QC).im) (0:Rat)
def Uch:FnsOk prog [⟨95,Tryz.f95,2000⟩,⟨113,Tryz.f113,2000⟩,⟨138,Tryz.f138,2000⟩,⟨117,Tryz.f117,2000⟩,⟨136,Tryz.f136,2000⟩]:=(Uob (Qxr (Kdy (Kqg (Kyw .nil)))))
def Kps(v:W13):List GF:=[cF v.a,cF v.b,cF v.e,cF v.d,cF (0:Rat),(Qan (⟨0,1⟩:QC)).cells,cF (wy1 v),[gxi ((wy1 v).num.sign)]].flatten
noncomputable def Kpt(v:W13)(B:v.O):List (GC prog (Kps v) true):=[Qbw eo78,gs (Qfv 0 (by decide) (by decide)) [lc 0] (rQ 12),gs (Knn 0 1) [lc 0,lc 1] (.r (yR 15 8)),gs (Qlj v.a v.b v.e v.d (0:Rat) ((⟨0,1⟩:QC).re) ((⟨0,1⟩:QC).im) (0:Rat) (B.a.mn) (B.b.mn) (B.e.mn) (B.d.mn) (ri 0) (((Qab (Qbf dK)).1).mn) (((Qab (Qbf dK)).2).mn) (ri 0)) [.row (gL [0,6]),.row (flA [[.sym 12,.sym 13,.lit (.bool false)],Qbd 14 9,(qS 12)])] (rQ 23),gs (Qcp (wy1 v)) [yQ 23] (rS 26)]
def Ugb(v:W13)(B:v.O)(h0:((wy1 v).num.sign)=0):SCt 28 [gIi 1,.row (rG (⟨v.a,v.b⟩:QC)++rG (⟨v.e,v.d⟩:QC))] (.r gTt) :=
  Qas (L := Kps v) Qae Qai
     (Kpt v B)
     [bEt 3 26 h0] [] Uch 1 3 func28 eo28 2000 [lc 1,.row (gL [0,6])] vTt
def Ugc(v:W13)(B:v.O)(h0:¬(((wy1 v).num.sign)=0)):SCt 28 [gIi 1,.row (rG (⟨v.a,v.b⟩:QC)++rG (⟨v.e,v.d⟩:QC))] (.r gFf) :=
  Qas (L := Kps v) Qae Qai
     (Kpt v B)
     [bEf 3 26 h0] [] Uch 1 3 func28 eo28 2000 [lc 1,.row (gL [0,6])] vFf
def wy2(v:W13):Rat:=Qam v.a v.b v.e v.d (1:Rat) ((⟨0,0⟩:QC).re) ((⟨0,0⟩:QC).im) (-1:Rat)
def Kpu(v:W13):List GF:=[cF v.a,cF v.b,cF v.e,cF v.d,cF (1:Rat),(Qan (⟨0,0⟩:QC)).cells,cF (-1:Rat),cF (wy2 v),[gxi ((wy2 v).num.sign)]].flatten
noncomputable def Kpv(v:W13)(B:v.O):List (GC prog (Kpu v) true):=[Qbw eo78,gs (Qfv 1 (by decide) (by decide)) [lc 1] (rQ 12),gs (Knn 0 0) [lc 0,lc 0] (.r (yR 15 8)),gs (Qfv (-1) (by decide) (by decide)) [lc (-1)] (rQ 23),gs (Qlj v.a v.b v.e v.d (1:Rat) ((⟨0,0⟩:QC).re) ((⟨0,0⟩:QC).im) (-1:Rat) (B.a.mn) (B.b.mn) (B.e.mn) (B.d.mn) (ri 1) (((Qab (Qbf dK)).1).mn) (((Qab (Qbf dK)).2).mn) (ri (-1))) [.row (gL [0,6]),.row (flA [[.sym 12,.sym 13,.lit (.bool false)],Qbd 14 11,[.lit (.bool false),.sym 25]])] (rQ 26),gs (Qcp (wy2 v)) [yQ 26] (rS 29)]
def Ugd(v:W13)(B:v.O)(h0:((wy2 v).num.sign)=0):SCt 28 [gIi 2,.row (rG (⟨v.a,v.b⟩:QC)++rG (⟨v.e,v.d⟩:QC))] (.r gTt) :=
  Qas (L := Kpu v) Qae Qai
     (Kpv v B)
     [bEt 3 29 h0] [] Uch 1 3 func28 eo28 2000 [lc 2,.row (gL [0,6])] vTt
def Uge(v:W13)(B:v.O)(h0:¬(((wy2 v).num.sign)=0)):SCt 28 [gIi 2,.row (rG (⟨v.a,v.b⟩:QC)++rG (⟨v.e,v.d⟩:QC))] (.r gFf) :=
  Qas (L := Kpu v) Qae Qai
     (Kpv v B)
     [bEf 3 29 h0] [] Uch 1 3 func28 eo28 2000 [lc 2,.row (gL [0,6])] vFf
def wy3(v:W13):QC:=((nm4 ((⟨-v.b,-(-v.e)⟩:QC),(⟨-v.d,(0:Rat)⟩:QC),(⟨v.a,(0:Rat)⟩:QC),(⟨v.b,v.e⟩:QC))).2.2.1)*(⟨v.z.re,-v.z.im⟩:QC)
def Uez{v:W13}(B:v.O)(hd:¬(dq ((⟨-v.b,-(-v.e)⟩:QC),(⟨-v.d,(0:Rat)⟩:QC),(⟨v.a,(0:Rat)⟩:QC),(⟨v.b,v.e⟩:QC))=(⟨0,0⟩:QC))):ZL (wy3 v) 1170037:=(Qct ((Qpt (p:=((⟨-v.b,-(-v.e)⟩:QC),(⟨-v.d,(0:Rat)⟩:QC),(⟨v.a,(0:Rat)⟩:QC),(⟨v.b,v.e⟩:QC))) ⟨((Qau (Qah B.b) (Qah (Qah B.e))).mn),Qau ((Qah B.d).upby 2) (ri 0),Qau (B.a.upby 2) (ri 0),((Qau B.b B.e).mn)⟩ hd).2.2.1) (Qau B.z.1 (Qah B.z.2))).mn
def wy4(v:W13):QC:=(wy3 v)+((nm4 ((⟨-v.b,-(-v.e)⟩:QC),(⟨-v.d,(0:Rat)⟩:QC),(⟨v.a,(0:Rat)⟩:QC),(⟨v.b,v.e⟩:QC))).2.2.2)
def Utb{v:W13}(B:v.O)(hd:¬(dq ((⟨-v.b,-(-v.e)⟩:QC),(⟨-v.d,(0:Rat)⟩:QC),(⟨v.a,(0:Rat)⟩:QC),(⟨v.b,v.e⟩:QC))=(⟨0,0⟩:QC))):ZL (wy4 v) 1690056:=(Qht (Uez B hd) ((Qpt (p:=((⟨-v.b,-(-v.e)⟩:QC),(⟨-v.d,(0:Rat)⟩:QC),(⟨v.a,(0:Rat)⟩:QC),(⟨v.b,v.e⟩:QC))) ⟨((Qau (Qah B.b) (Qah (Qah B.e))).mn),Qau ((Qah B.d).upby 2) (ri 0),Qau (B.a.upby 2) (ri 0),((Qau B.b B.e).mn)⟩ hd).2.2.2)).mn
def wy5(v:W13):QC:=((nm4 ((⟨-v.b,-(-v.e)⟩:QC),(⟨-v.d,(0:Rat)⟩:QC),(⟨v.a,(0:Rat)⟩:QC),(⟨v.b,v.e⟩:QC))).1)*(⟨v.z.re,-v.z.im⟩:QC)
def Ufd{v:W13}(B:v.O)(hd:¬(dq ((⟨-v.b,-(-v.e)⟩:QC),(⟨-v.d,(0:Rat)⟩:QC),(⟨v.a,(0:Rat)⟩:QC),(⟨v.b,v.e⟩:QC))=(⟨0,0⟩:QC))):ZL (wy5 v) 1170037:=(Qct ((Qpt (p:=((⟨-v.b,-(-v.e)⟩:QC),(⟨-v.d,(0:Rat)⟩:QC),(⟨v.a,(0:Rat)⟩:QC),(⟨v.b,v.e⟩:QC))) ⟨((Qau (Qah B.b) (Qah (Qah B.e))).mn),Qau ((Qah B.d).upby 2) (ri 0),Qau (B.a.upby 2) (ri 0),((Qau B.b B.e).mn)⟩ hd).1) (Qau B.z.1 (Qah B.z.2))).mn
def wy6(v:W13):QC:=(wy5 v)+((nm4 ((⟨-v.b,-(-v.e)⟩:QC),(⟨-v.d,(0:Rat)⟩:QC),(⟨v.a,(0:Rat)⟩:QC),(⟨v.b,v.e⟩:QC))).2.1)
def Utc{v:W13}(B:v.O)(hd:¬(dq ((⟨-v.b,-(-v.e)⟩:QC),(⟨-v.d,(0:Rat)⟩:QC),(⟨v.a,(0:Rat)⟩:QC),(⟨v.b,v.e⟩:QC))=(⟨0,0⟩:QC))):ZL (wy6 v) 1690056:=(Qht (Ufd B hd) ((Qpt (p:=((⟨-v.b,-(-v.e)⟩:QC),(⟨-v.d,(0:Rat)⟩:QC),(⟨v.a,(0:Rat)⟩:QC),(⟨v.b,v.e⟩:QC))) ⟨((Qau (Qah B.b) (Qah (Qah B.e))).mn),Qau ((Qah B.d).upby 2) (ri 0),Qau (B.a.upby 2) (ri 0),((Qau B.b B.e).mn)⟩ hd).2.1)).mn
def wy7(v:W13):QC:=(wy6 v)/(wy4 v)
def Uyh:FnsOk prog [⟨118,Tryz.f118,2000⟩,⟨92,Tryz.f92,2000⟩,⟨93,Tryz.f93,2000⟩,⟨164,Tryz.f164,2000⟩,⟨165,Tryz.f165,2000⟩]:=(Uwa (Vbj (Ukv (Uwd (Uwe .nil)))))
def Umz(v:W13):List GF:=[cF v.a,cF v.b,cF v.e,cF v.d,cG v.z,cF (0:Rat),cF (-v.d),cF (-v.e),cF (-v.b),cF (-(-v.e)),cG ((nm4 ((⟨-v.b,-(-v.e)⟩:QC),(⟨-v.d,(0:Rat)⟩:QC),(⟨v.a,(0:Rat)⟩:QC),(⟨v.b,v.e⟩:QC))).1),cG ((nm4 ((⟨-v.b,-(-v.e)⟩:QC),(⟨-v.d,(0:Rat)⟩:QC),(⟨v.a,(0:Rat)⟩:QC),(⟨v.b,v.e⟩:QC))).2.1),cG ((nm4 ((⟨-v.b,-(-v.e)⟩:QC),(⟨-v.d,(0:Rat)⟩:QC),(⟨v.a,(0:Rat)⟩:QC),(⟨v.b,v.e⟩:QC))).2.2.1),cG ((nm4 ((⟨-v.b,-(-v.e)⟩:QC),(⟨-v.d,(0:Rat)⟩:QC),(⟨v.a,(0:Rat)⟩:QC),(⟨v.b,v.e⟩:QC))).2.2.2),cF (-v.z.im),cG (wy3 v),cG (wy4 v),cG (wy5 v),cG (wy6 v),cG (wy7 v)].flatten
noncomputable def Unb(v:W13)(B:v.O)(hd:¬(dq ((⟨-v.b,-(-v.e)⟩:QC),(⟨-v.d,(0:Rat)⟩:QC),(⟨v.a,(0:Rat)⟩:QC),(⟨v.b,v.e⟩:QC))=(⟨0,0⟩:QC))):List (GC prog (Umz v) true):=[Qbw eo78,gs (Qfv 0 (by decide) (by decide)) [lc 0] (rQ 18),gs (Qhg v.d) [yQ 9] (rQ 21),gs (Qhg v.e) [yQ 6] (rQ 24),gs (Qhg v.b) [yQ 3] (rQ 27),gs (Qhg (-v.e)) [yQ 24] (rQ 30),gs (Uqb ((⟨-v.b,-(-v.e)⟩:QC),(⟨-v.d,(0:Rat)⟩:QC),(⟨v.a,(0:Rat)⟩:QC),(⟨v.b,v.e⟩:QC)) true ⟨((Qau (Qah B.b) (Qah (Qah B.e))).mn),((Qau ((Qah B.d).upby 2) (ri 0)).mn),((Qau (B.a.upby 2) (ri 0)).mn),((Qau B.b B.e).mn)⟩ hd) [.row (gR 27),.row [.sym 21,.sym 22,.lit (.bool false),.sym 23,.sym 18,.sym 19,.lit (.bool false),.sym 20],.row [.sym 0,.sym 1,.lit (.bool false),.sym 2,.sym 18,.sym 19,.lit (.bool false),.sym 20],.row (gR 3),cTt] (.r (.row (flA [gL [33,39,45,51],[.lit (.bool true)]]))),gs (Qhg v.z.im) [yQ 15] (rQ 57),gs (Kir ((nm4 ((⟨-v.b,-(-v.e)⟩:QC),(⟨-v.d,(0:Rat)⟩:QC),(⟨v.a,(0:Rat)⟩:QC),(⟨v.b,v.e⟩:QC))).2.2.1) (⟨v.z.re,-v.z.im⟩:QC) (((Qpt (p:=((⟨-v.b,-(-v.e)⟩:QC),(⟨-v.d,(0:Rat)⟩:QC),(⟨v.a,(0:Rat)⟩:QC),(⟨v.b,v.e⟩:QC))) ⟨((Qau (Qah B.b) (Qah (Qah B.e))).mn),Qau ((Qah B.d).upby 2) (ri 0),Qau (B.a.upby 2) (ri 0),((Qau B.b B.e).mn)⟩ hd).2.2.1).mn) ((Qau B.z.1 (Qah B.z.2)).mn)) [.row (gR 45),.row [.sym 12,.sym 13,.lit (.bool false),.sym 14,.sym 57,.sym 58,.lit (.bool false),.sym 59]] (.r (.row (gR 60))),gs (Uas (wy3 v) ((nm4 ((⟨-v.b,-(-v.e)⟩:QC),(⟨-v.d,(0:Rat)⟩:QC),(⟨v.a,(0:Rat)⟩:QC),(⟨v.b,v.e⟩:QC))).2.2.2) ((Uez B hd).mn) (((Qpt (p:=((⟨-v.b,-(-v.e)⟩:QC),(⟨-v.d,(0:Rat)⟩:QC),(⟨v.a,(0:Rat)⟩:QC),(⟨v.b,v.e⟩:QC))) ⟨((Qau (Qah B.b) (Qah (Qah B.e))).mn),Qau ((Qah B.d).upby 2) (ri 0),Qau (B.a.upby 2) (ri 0),((Qau B.b B.e).mn)⟩ hd).2.2.2).mn)) [.row (gR 60),.row (gR 51)] (.r (.row (gR 66)))]
def Una(v:W13)(B:v.O)(hd:¬(dq ((⟨-v.b,-(-v.e)⟩:QC),(⟨-v.d,(0:Rat)⟩:QC),(⟨v.a,(0:Rat)⟩:QC),(⟨v.b,v.e⟩:QC))=(⟨0,0⟩:QC)))(h0:¬((wy4 v)=(⟨0,0⟩:QC))):SCt 35 [.row (rG (⟨v.a,v.b⟩:QC)++rG (⟨v.e,v.d⟩:QC)),.row (rG v.z)] (.r (.row (rG (wy7 v)))) :=
  Qas (L := Umz v) Qae Qai
     ((Unb v B hd)++[gs (Uiq (wy4 v) false (fI h0)) [.row (gR 66)] vFf,gs (Kir ((nm4 ((⟨-v.b,-(-v.e)⟩:QC),(⟨-v.d,(0:Rat)⟩:QC),(⟨v.a,(0:Rat)⟩:QC),(⟨v.b,v.e⟩:QC))).1) (⟨v.z.re,-v.z.im⟩:QC) (((Qpt (p:=((⟨-v.b,-(-v.e)⟩:QC),(⟨-v.d,(0:Rat)⟩:QC),(⟨v.a,(0:Rat)⟩:QC),(⟨v.b,v.e⟩:QC))) ⟨((Qau (Qah B.b) (Qah (Qah B.e))).mn),Qau ((Qah B.d).upby 2) (ri 0),Qau (B.a.upby 2) (ri 0),((Qau B.b B.e).mn)⟩ hd).1).mn) ((Qau B.z.1 (Qah B.z.2)).mn)) [.row (gR 33),.row [.sym 12,.sym 13,.lit (.bool false),.sym 14,.sym 57,.sym 58,.lit (.bool false),.sym 59]] (.r (.row (gR 72))),gs (Uas (wy5 v) ((nm4 ((⟨-v.b,-(-v.e)⟩:QC),(⟨-v.d,(0:Rat)⟩:QC),(⟨v.a,(0:Rat)⟩:QC),(⟨v.b,v.e⟩:QC))).2.1) ((Ufd B hd).mn) (((Qpt (p:=((⟨-v.b,-(-v.e)⟩:QC),(⟨-v.d,(0:Rat)⟩:QC),(⟨v.a,(0:Rat)⟩:QC),(⟨v.b,v.e⟩:QC))) ⟨((Qau (Qah B.b) (Qah (Qah B.e))).mn),Qau ((Qah B.d).upby 2) (ri 0),Qau (B.a.upby 2) (ri 0),((Qau B.b B.e).mn)⟩ hd).2.1).mn)) [.row (gR 72),.row (gR 39)] (.r (.row (gR 78))),gs (Qyf (wy6 v) (wy4 v) ((Utc B hd).mn) ((Utb B hd).mn) h0) [.row (gR 78),.row (gR 66)] (.r (.row (gR 84)))])
     [] [] Uyh 1 3 func35 eo35 2000 [.row (gL [0,6]),.row (gR 12)] (.r (.row (gR 84)))
def wy8(v:W13):Rat:=(Qam v.a v.b v.e v.d v.u0 v.u1 v.u2 v.u3)*(Qam v.a v.b v.e v.d v.u0 v.u1 v.u2 v.u3)
def Ufe{v:W13}(B:v.O):RL (wy8 v) 1040010:=(Qad (Qdj v.a v.b v.e v.d v.u0 v.u1 v.u2 v.u3 B.a B.b B.e B.d B.u0 B.u1 B.u2 B.u3) (Qdj v.a v.b v.e v.d v.u0 v.u1 v.u2 v.u3 B.a B.b B.e B.d B.u0 B.u1 B.u2 B.u3)).mn
def wy9(v:W13):Rat:=(Qam v.a v.b v.e v.d v.a v.b v.e v.d)*(Qam v.u0 v.u1 v.u2 v.u3 v.u0 v.u1 v.u2 v.u3)
def Uff{v:W13}(B:v.O):RL (wy9 v) 1040010:=(Qad (Qdj v.a v.b v.e v.d v.a v.b v.e v.d B.a B.b B.e B.d B.a B.b B.e B.d) (Qdj v.u0 v.u1 v.u2 v.u3 v.u0 v.u1 v.u2 v.u3 B.u0 B.u1 B.u2 B.u3 B.u0 B.u1 B.u2 B.u3)).mn
def Ukb(v:W13):Rat:=(wy8 v)/(wy9 v)
def Ukc{v:W13}(B:v.O)(hN:¬(wy9 v=0)):RL (Ukb v) 2080020:=(Qcs hN (Ufe B) (Uff B)).mn
def Uyi:FnsOk prog [⟨252,Tryz.f252,2000⟩,⟨113,Tryz.f113,2000⟩]:=(Uwg (Qxr .nil))
def Vae(v:W13)(B:v.O)(hcd:¬(v.a=v.u0/\v.b=v.u1/\v.e=v.u2/\v.d=v.u3))(hN:¬(wy9 v=0))(hm:(Qig (Ukb v) (1:Rat))=(-1)):SCt 198 [.row (rG (⟨v.a,v.b⟩:QC)++rG (⟨v.e,v.d⟩:QC)),.row (rG (⟨v.u0,v.u1⟩:QC)++rG (⟨v.u2,v.u3⟩:QC))] (.r (gIi 2)) :=
  Qas (L := [cF v.a,cF v.b,cF v.e,cF v.d,cF v.u0,cF v.u1,cF v.u2,cF v.u3,cF (Qam v.a v.b v.e v.d v.u0 v.u1 v.u2 v.u3),cF (wy8 v),cF (Qam v.a v.b v.e v.d v.a v.b v.e v.d),cF (Qam v.u0 v.u1 v.u2 v.u3 v.u0 v.u1 v.u2 v.u3),cF (wy9 v),cF (Ukb v),cF (1 : Rat),[gxi (Qig (Ukb v) (1 : Rat))]].flatten) Qae Qai
     [Qbw eo78,gs (Qlj v.a v.b v.e v.d v.u0 v.u1 v.u2 v.u3 (B.a.mn) (B.b.mn) (B.e.mn) (B.d.mn) (B.u0.mn) (B.u1.mn) (B.u2.mn) (B.u3.mn)) [.row (gL [0,6]),.row (gL [12,18])] (rQ 24),gs (Qat (Qam v.a v.b v.e v.d v.u0 v.u1 v.u2 v.u3) (Qam v.a v.b v.e v.d v.u0 v.u1 v.u2 v.u3) ((Qdj v.a v.b v.e v.d v.u0 v.u1 v.u2 v.u3 B.a B.b B.e B.d B.u0 B.u1 B.u2 B.u3).mn) ((Qdj v.a v.b v.e v.d v.u0 v.u1 v.u2 v.u3 B.a B.b B.e B.d B.u0 B.u1 B.u2 B.u3).mn)) [yQ 24,yQ 24] (rQ 27),gs (Qlj v.a v.b v.e v.d v.a v.b v.e v.d (B.a.mn) (B.b.mn) (B.e.mn) (B.d.mn) (B.a.mn) (B.b.mn) (B.e.mn) (B.d.mn)) [.row (gL [0,6]),.row (gL [0,6])] (rQ 30),gs (Qlj v.u0 v.u1 v.u2 v.u3 v.u0 v.u1 v.u2 v.u3 (B.u0.mn) (B.u1.mn) (B.u2.mn) (B.u3.mn) (B.u0.mn) (B.u1.mn) (B.u2.mn) (B.u3.mn)) [.row (gL [12,18]),.row (gL [12,18])] (rQ 33),gs (Qat (Qam v.a v.b v.e v.d v.a v.b v.e v.d) (Qam v.u0 v.u1 v.u2 v.u3 v.u0 v.u1 v.u2 v.u3) ((Qdj v.a v.b v.e v.d v.a v.b v.e v.d B.a B.b B.e B.d B.a B.b B.e B.d).mn) ((Qdj v.u0 v.u1 v.u2 v.u3 v.u0 v.u1 v.u2 v.u3 B.u0 B.u1 B.u2 B.u3 B.u0 B.u1 B.u2 B.u3).mn)) [yQ 30,yQ 33] (rQ 36),gs (Qcn (wy8 v) (wy9 v) ((Ufe B).mn) ((Uff B).mn) hN) [yQ 27,yQ 36] (rQ 39),gs (Qfv 1 (by decide) (by decide)) [lc 1] (rQ 42),gs (Uis (Ukb v) (1:Rat) ((Ukc B hN).mn) (ri 1)) [yQ 39,yQ 42] (rS 45)]
     [bC (.row (gL [0,6])) (.row (gL [12,18])) v.a v.b v.e v.d v.u0 v.u1 v.u2 v.u3 false (fI hcd),bI .eql 3 (.sym 45) (li (-1)) (Qig (Ukb v) (1:Rat)) (-1) true (by simp[Qil,hm])] [] Uyi 1 2 func198 eo198 2000 [.row (gL [0,6]),.row (gL [12,18])] (.r (lc 2))
def Uyp(v:W13)(B:v.O)(f1:v.a.num.sign=0)(f2:¬(v.u0.num.sign=0)):SCt 201 [.row (rG (⟨v.a,v.b⟩:QC)++rG (⟨v.e,v.d⟩:QC)),.row (rG (⟨v.u0,v.u1⟩:QC)++rG (⟨v.u2,v.u3⟩:QC))] (.tup [.row (rG (⟨v.a,v.b⟩:QC)++rG (⟨v.e,v.d⟩:QC)),gTt]) :=
  Qco (L := [cF v.a,cF v.b,cF v.e,cF v.d,cF v.u0,cF v.u1,cF v.u2,cF v.u3,cF (1 : Rat),[gxi v.a.num.sign,gxi v.u0.num.sign]].flatten) Qae Qai
     [Qbw eo78,gs (Qfv 1 (by decide) (by decide)) [lc 1] (rQ 24),gs (Qcp v.a) [yQ 0] (rS 27),gs (Qcp v.u0) [yQ 12] (rS 28)]
     [bEt 3 27 f1,bEf 3 28 f2] [] func201 eo201 2000 [.row (gL [0,6]),.row (gL [12,18])] (.tup [.row (gL [0,6]),cTt])
def Uyo(v:W13)(B:v.O)(f1:¬(v.a.num.sign=0))(f2:v.u0.num.sign=0):SCt 201 [.row (rG (⟨v.a,v.b⟩:QC)++rG (⟨v.e,v.d⟩:QC)),.row (rG (⟨v.u0,v.u1⟩:QC)++rG (⟨v.u2,v.u3⟩:QC))] (.tup [.row (rG (⟨v.u0,v.u1⟩:QC)++rG (⟨v.u2,v.u3⟩:QC)),gTt]) :=
  Qco (L := [cF v.a,cF v.b,cF v.e,cF v.d,cF v.u0,cF v.u1,cF v.u2,cF v.u3,cF (1 : Rat),[gxi v.a.num.sign,gxi v.u0.num.sign]].flatten) Qae Qai
     [Qbw eo78,gs (Qfv 1 (by decide) (by decide)) [lc 1] (rQ 24),gs (Qcp v.a) [yQ 0] (rS 27),gs (Qcp v.u0) [yQ 12] (rS 28)]
     [bEf 3 27 f1,bEt 3 28 f2] [] func201 eo201 2000 [.row (gL [0,6]),.row (gL [12,18])] (.tup [.row (gL [12,18]),cTt])
def Kkm(v:W13):Rat:=((1:Rat)*v.a)+((-(1:Rat))*v.u0)
def Ukd{v:W13}(B:v.O):RL (Kkm v) 130005:=(Qaz (Qad (rj 1) B.a) (Qad (Qah (rj 1)) B.u0)).mn
def Kob(v:W13):Rat:=((1:Rat)*v.b)+((-(1:Rat))*v.u1)
def Uke{v:W13}(B:v.O):RL (Kob v) 130005:=(Qaz (Qad (rj 1) B.b) (Qad (Qah (rj 1)) B.u1)).mn
def Koc(v:W13):Rat:=((1:Rat)*v.e)+((-(1:Rat))*v.u2)
def Ukf{v:W13}(B:v.O):RL (Koc v) 130005:=(Qaz (Qad (rj 1) B.e) (Qad (Qah (rj 1)) B.u2)).mn
def Kod(v:W13):Rat:=((1:Rat)*v.d)+((-(1:Rat))*v.u3)
def Ukg{v:W13}(B:v.O):RL (Kod v) 130005:=(Qaz (Qad (rj 1) B.d) (Qad (Qah (rj 1)) B.u3)).mn
def Uyj:FnsOk prog [⟨143,Tryz.f143,2000⟩,⟨113,Tryz.f113,2000⟩]:=(Ugu (Qxr .nil))
def Umy(v:W13):List GF:=[cF v.a,cF v.b,cF v.e,cF v.d,cF v.u0,cF v.u1,cF v.u2,cF v.u3,cF (1:Rat),[gxi v.a.num.sign,gxi v.u0.num.sign],cF (-(1:Rat)),cF ((1:Rat)*v.a),cF ((-(1:Rat))*v.u0),cF (Kkm v),cF ((1:Rat)*v.b),cF ((-(1:Rat))*v.u1),cF (Kob v),cF ((1:Rat)*v.e),cF ((-(1:Rat))*v.u2),cF (Koc v),cF ((1:Rat)*v.d),cF ((-(1:Rat))*v.u3),cF (Kod v),Quo (Kkm v) (Kob v) (Koc v) (Kod v)].flatten
def Uyq(v:W13)(B:v.O)(f1:¬(v.a.num.sign=0))(f2:¬(v.u0.num.sign=0))(hP:0<Qam (Kkm v) (Kob v) (Koc v) (Kod v) (Kkm v) (Kob v) (Koc v) (Kod v)):SCt 201 [.row (rG (⟨v.a,v.b⟩:QC)++rG (⟨v.e,v.d⟩:QC)),.row (rG (⟨v.u0,v.u1⟩:QC)++rG (⟨v.u2,v.u3⟩:QC))] (.tup [.row (Quo (Kkm v) (Kob v) (Koc v) (Kod v)),gTt]) :=
  Qas (L := Umy v) Qae Qai
     [Qbw eo78,gs (Qfv 1 (by decide) (by decide)) [lc 1] (rQ 24),gs (Qcp v.a) [yQ 0] (rS 27),gs (Qcp v.u0) [yQ 12] (rS 28),gs (Qhg (1:Rat)) [yQ 24] (rQ 29),gs (Qat (1:Rat) v.a (ri 1) (B.a.mn)) [yQ 24,yQ 0] (rQ 32),gs (Qat (-(1:Rat)) v.u0 ((Qah (rj 1)).mn) (B.u0.mn)) [yQ 29,yQ 12] (rQ 35),gs (Qek ((1:Rat)*v.a) ((-(1:Rat))*v.u0) ((Qad (rj 1) B.a).mn) ((Qad (Qah (rj 1)) B.u0).mn)) [yQ 32,yQ 35] (rQ 38),gs (Qat (1:Rat) v.b (ri 1) (B.b.mn)) [yQ 24,yQ 3] (rQ 41),gs (Qat (-(1:Rat)) v.u1 ((Qah (rj 1)).mn) (B.u1.mn)) [yQ 29,yQ 15] (rQ 44),gs (Qek ((1:Rat)*v.b) ((-(1:Rat))*v.u1) ((Qad (rj 1) B.b).mn) ((Qad (Qah (rj 1)) B.u1).mn)) [yQ 41,yQ 44] (rQ 47),gs (Qat (1:Rat) v.e (ri 1) (B.e.mn)) [yQ 24,yQ 6] (rQ 50),gs (Qat (-(1:Rat)) v.u2 ((Qah (rj 1)).mn) (B.u2.mn)) [yQ 29,yQ 18] (rQ 53),gs (Qek ((1:Rat)*v.e) ((-(1:Rat))*v.u2) ((Qad (rj 1) B.e).mn) ((Qad (Qah (rj 1)) B.u2).mn)) [yQ 50,yQ 53] (rQ 56),gs (Qat (1:Rat) v.d (ri 1) (B.d.mn)) [yQ 24,yQ 9] (rQ 59),gs (Qat (-(1:Rat)) v.u3 ((Qah (rj 1)).mn) (B.u3.mn)) [yQ 29,yQ 21] (rQ 62),gs (Qek ((1:Rat)*v.d) ((-(1:Rat))*v.u3) ((Qad (rj 1) B.d).mn) ((Qad (Qah (rj 1)) B.u3).mn)) [yQ 59,yQ 62] (rQ 65),gs (Ufu (Kkm v) (Kob v) (Koc v) (Kod v) ((Ukd B).mn) ((Uke B).mn) ((Ukf B).mn) ((Ukg B).mn) hP) [.row [.sym 38,.sym 39,.lit (.bool false),.sym 40,.sym 47,.sym 48,.lit (.bool false),.sym 49,.sym 56,.sym 57,.lit (.bool false),.sym 58,.sym 65,.sym 66,.lit (.bool false),.sym 67]] (.tup [yR 68 16,cTt])]
     [bEf 3 27 f1,bEf 3 28 f2] [] Uyj 1 2 func201 eo201 2000 [.row (gL [0,6]),.row (gL [12,18])] (.tup [yR 68 16,cTt])
