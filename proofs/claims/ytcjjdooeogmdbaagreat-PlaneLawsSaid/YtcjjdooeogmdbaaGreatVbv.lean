/- Laws. -/
import Derived.Test.YtcjjdooeogmdbaaGreatVbu
set_option linter.all false
set_option maxHeartbeats 4000000
set_option maxRecDepth 100000
namespace Go.Proofs.YtcjjdooeogmdbaaGreat
open Go.RowKit Tr Proofs.Tryz
open Classical
def Ucm{y:Rat}(h:¬(Qff y (1:Rat))<=0):1<y:=by
 unfold Qff at h
 split at h
 .omega
 .split at h
  .omega
  .grind
def Uww{re im y:Rat}(hi:0<im)(hy:1<y):0<Qao 1 (-re) (im+(y-1)*im) (re*re+im*im) 1 (-re) (im+(y-1)*im) (re*re+im*im):=by
 have a:0<(y-1)*im:=Qdv (by grind) hi;have b:=Qdv a a;have c:=Qdv a hi;have e:Qao 1 (-re) (im+(y-1)*im) (re*re+im*im) 1 (-re) (im+(y-1)*im) (re*re+im*im)=((y-1)*im)*((y-1)*im)+2*(((y-1)*im)*im):=by unfold Qao;grind
 rw[e];grind
def Uwx{re im y b:Rat}(hi:0<1-(re*re+im*im))(hy:1<y)(hb:b=(y-1)*(1-(re*re+im*im))*(1/2)):0<Qao (1+b) (-re) im (re*re+im*im-b) (1+b) (-re) im (re*re+im*im-b):=by
 have a:0<b:=by rw[hb];exact Qdv (Qdv (by grind) hi) (by decide +kernel)
 have c:=Qdv a hi;have d:=Qdv a a;have e:Qao (1+b) (-re) im (re*re+im*im-b) (1+b) (-re) im (re*re+im*im-b)=b*(1-(re*re+im*im))+b*b:=by unfold Qao;grind
 rw[e];grind
def Kag(x:QC)(y:Rat):Rat:=x.im+((y-(1:Rat))*x.im)
def Uio(x:QC)(y:Rat){k:Nat}(b_x:Qac x)(b_y:RL y k):RL (Kag x y) (2*k+2054):=(Qca ((Qaa b_x).2) (Qam (Qae y (1:Rat) (b_y.upby 2) (ri 1)) (Qag x (Qaa b_x)))).mn
def Ukl(x:QC)(y:Rat)(hx:hN1 x)(hy:¬(Qff y (1:Rat))<=0):0<Qao (1:Rat) (-x.re) (Kag x y) (nm x) (1:Rat) (-x.re) (Kag x y) (nm x):=by
 rw[show(1:Rat)=1 from by simp only[nm,Kag]<;>grind,show(Kag x y)=(x.im+(y-1)*x.im) from by simp only[nm,Kag]<;>grind,show(nm x)=(x.re*x.re+x.im*x.im) from by simp only[nm,Kag]<;>grind];exact Uww (Qdf hx) (Ucm hy)
def Uoo:FnsOk prog [⟨71,Tryz.f71,2000⟩,⟨41,Tryz.f41,2000⟩,⟨103,Tryz.f103,2000⟩,⟨184,Tryz.f184,2000⟩,⟨185,Tryz.f185,2000⟩,⟨107,Tryz.f107,2000⟩,⟨85,Tryz.f85,2000⟩,⟨44,Tryz.f44,2000⟩,⟨78,Tryz.f78,2000⟩,⟨106,Tryz.f106,2000⟩]:=(Kiz (Kfq (Qmv (Qmw (Qmx (Qmp (Kfr (Knd (Uxy (Usl .nil))))))))))
def Kth(x:QC)(y:Rat):List GF:=[(Qah x).cells,cF y,(Qah (⟨0,1⟩:QC)).cells,(Qah (⟨0,0⟩:QC)).cells,cn x,[gr x.re,gr x.im,gxi x.im.num.sign,gr y,gr (1:Rat),gxi (Qff y (1:Rat)),gr (y-(1:Rat)),gr ((y-(1:Rat))*x.im),gr (1:Rat),gr (-x.re),gr x.im,gr (nm x),gr (Kag x y)],Qsj (1:Rat) (-x.re) (Kag x y) (nm x)].flatten
noncomputable def Kzq(x:QC)(y:Rat)(b_x:Qac x)(b_y:RL y 1024)(hsy:Qar y):List (GC prog (Kth x y) true):=[gpi 0 1 11,gpi 0 0 19,gs (Qew x b_x) [yR 0 8] (.tup [sy [27,28],cTt]),gs (Qbs x ((Qaa b_x).mn)) [sy [27,28]] (.tup [cS 29,cS 30]),gs (Qau x.im) [cS 30] (rS 31),gs (Qct y hsy) [yQ 8] (rS 32),gs (pnr 1) [lc 1,lc 1] (rS 33),gs (Kdc y (1:Rat) b_y (rj 1) (by decide)) [cS 32,cS 33] (rS 34),gs (Udd y hsy) [yQ 8] vTt,gs (Qaz y (1:Rat) b_y.mn (ri 1)) [cS 32,cS 33] (rS 35),
   Kyz (y-(1:Rat)) x.im (Qae y (1:Rat) (b_y.upby 2) (ri 1)) (Qag x (Qaa b_x)) (by decide) 52 (.c (.sym 35)) (.c (.sym 30)) (.sym 36),gs (Qfc x ((Qaa b_x).mn)) [sy [27,28]] (.r (yR 37 4)),
   Kft x.im ((y-(1:Rat))*x.im) ((Qaa b_x).2) (Qam (Qae y (1:Rat) (b_y.upby 2) (ri 1)) (Qag x (Qaa b_x))) (by decide) 66 (.c (.sym 39)) (.c (.sym 36)) (.sym 41)]
def Uuo(x:QC)(y:Rat)(b_x:Qac x)(b_y:RL y 1024)(hx:hN1 x)(hsy:Qar y)(hy:¬((Qff y (1:Rat))<=0))(hS:Qno (1:Rat) (-x.re) (Kag x y) (nm x)):SCt 83 [gIi 1,.row ((Qah x).cells),.row (rF y)] (.tup [.row (Qsj (1:Rat) (-x.re) (Kag x y) (nm x)),gIi 0]) :=
  Qbn (L := Kth x y) Qai Qap
     ((Kzq x y b_x b_y hsy)++[gs (Kct (1:Rat) _ _ _ (ri 1) ((Qbq ((Qaa b_x).1)).mn) ((Uio x y b_x b_y).mn) ((Qal (Qaa b_x)).mn) (Qld (Ukl x y hx hy)) hS) [.row [.sym 37,.sym 38,.sym 41,.sym 40]] (.tup [yR 42 16,lc 0])])
     [bLf 3 31 hx,Qqo y (.sym 32),bLf 3 34 hy] [] Uoo 1 3 func83 eo83 2000 [lc 1,yR 0 8,yQ 8] (.tup [yR 42 16,lc 0])
def Kez(x:QC)(y:Rat):Rat:=(y-(1:Rat))*((1:Rat)-(nm x))
def Quk(x:QC)(y:Rat){k:Nat}(b_x:Qac x)(b_y:RL y k):RL (Kez x y) (2*k+8200):=(Qam (Qae y (1:Rat) (b_y.upby 2) (ri 1)) (Qae (1:Rat) (nm x) (ri 1) (Qal (Qaa b_x)))).mn
def Kbb(x:QC)(y:Rat):Rat:=(1:Rat)+((Kez x y)/(2:Rat))
def Uip(x:QC)(y:Rat){k:Nat}(b_x:Qac x)(b_y:RL y k):RL (Kbb x y) (2*k+8205):=(Qca (rj 1) (Qbb (by decide +kernel) (Quk x y b_x b_y) (rj 2))).mn
def Kox(x:QC)(y:Rat):Rat:=(nm x)-((Kez x y)/(2:Rat))
def Uiq(x:QC)(y:Rat){k:Nat}(b_x:Qac x)(b_y:RL y k):RL (Kox x y) (4*k+16405):=(Qae (nm x) ((Kez x y)/(2:Rat)) ((Qal (Qaa b_x)).mn) (Qbb (by decide +kernel) (Quk x y b_x b_y) (rj 2))).mn
def Ukm(x:QC)(y:Rat)(hx:hN2 x)(hy:¬(Qff y (1:Rat))<=0):0<Qao (Kbb x y) (-x.re) x.im (Kox x y) (Kbb x y) (-x.re) x.im (Kox x y):=by
 rw[show(Kbb x y)=(1+(y-1)*(1-(x.re*x.re+x.im*x.im))*(1/2)) from by simp only[nm,Kez,Kbb,Kox]<;>grind,show(Kox x y)=(x.re*x.re+x.im*x.im-(y-1)*(1-(x.re*x.re+x.im*x.im))*(1/2)) from by simp only[nm,Kez,Kbb,Kox]<;>grind];exact Uwx (Qdf hx) (Ucm hy) rfl
def Kti(x:QC)(y:Rat):List GF:=[(Qah x).cells,cF y,(Qah (⟨0,1⟩:QC)).cells,(Qah (⟨0,0⟩:QC)).cells,cn x,[gr (1:Rat),gr (nm x),gr ((1:Rat)-(nm x)),gxi (((1:Rat)-(nm x)).num.sign),gr y,gxi (Qff y (1:Rat)),gr (y-(1:Rat)),gr (Kez x y),gr (1:Rat),gr (-x.re),gr x.im,gr (nm x),gr (2:Rat),gr ((Kez x y)/(2:Rat)),gr (Kbb x y),gr (Kox x y)],Qsj (Kbb x y) (-x.re) x.im (Kox x y)].flatten
noncomputable def Kzr(x:QC)(y:Rat)(b_x:Qac x)(b_y:RL y 1024)(hsy:Qar y):List (GC prog (Kti x y) true):=[gpi 0 1 11,gpi 0 0 19,gs (Qew x b_x) [yR 0 8] (.tup [sy [27,28],cTt]),gs (pnr 1) [lc 1,lc 1] (rS 29),gs (Qbw x ((Qaa b_x).mn)) [sy [27,28]] (rS 30),gs (Qaz (1:Rat) _ (ri 1) ((Qal (Qaa b_x)).mn)) [cS 29,cS 30] (rS 31),gs (Qau ((1:Rat)-(nm x))) [cS 31] (rS 32),gs (Qct y hsy) [yQ 8] (rS 33),gs (Kdc y (1:Rat) b_y (rj 1) (by decide)) [cS 33,cS 29] (rS 34),gs (Udd y hsy) [yQ 8] vTt,gs (Qaz y (1:Rat) b_y.mn (ri 1)) [cS 33,cS 29] (rS 35),
   Kyz (y-(1:Rat)) ((1:Rat)-(nm x)) (Qae y (1:Rat) (b_y.upby 2) (ri 1)) (Qae (1:Rat) (nm x) (ri 1) (Qal (Qaa b_x))) (by decide) 52 (.c (.sym 35)) (.c (.sym 31)) (.sym 36),gs (Qfc x ((Qaa b_x).mn)) [sy [27,28]] (.r (yR 37 4)),gs (pnr 2) [lc 2,lc 1] (rS 41),gs (Qbe _ (2:Rat) ((Quk x y b_x b_y).mn) (ri 2) (by decide +kernel)) [cS 36,cS 41] (rS 42),
   Kft (1:Rat) ((Kez x y)/(2:Rat)) (rj 1) (Qbb (by decide +kernel) (Quk x y b_x b_y) (rj 2)) (by decide) 76 (.c (.sym 37)) (.c (.sym 42)) (.sym 43),gs (Qaz _ _ ((Qal (Qaa b_x)).mn) ((Qbb (by decide +kernel) (Quk x y b_x b_y) (rj 2)).mn)) [cS 40,cS 42] (rS 44)]
def Uup(x:QC)(y:Rat)(b_x:Qac x)(b_y:RL y 1024)(hx:hN2 x)(hsy:Qar y)(hy:¬((Qff y (1:Rat))<=0))(hS:Qno (Kbb x y) (-x.re) x.im (Kox x y)):SCt 83 [gIi 2,.row ((Qah x).cells),.row (rF y)] (.tup [.row (Qsj (Kbb x y) (-x.re) x.im (Kox x y)),gIi 0]) :=
  Qbn (L := Kti x y) Qai Qap
     ((Kzr x y b_x b_y hsy)++[gs (Kct _ _ _ _ ((Uip x y b_x b_y).mn) ((Qbq ((Qaa b_x).1)).mn) (((Qaa b_x).2).mn) ((Uiq x y b_x b_y).mn) (Qld (Ukm x y hx hy)) hS) [.row [.sym 43,.sym 38,.sym 39,.sym 44]] (.tup [yR 45 16,lc 0])])
     [bLf 3 32 hx,Qqo y (.sym 33),bLf 3 34 hy] [] Uoo 1 3 func83 eo83 2000 [lc 2,yR 0 8,yQ 8] (.tup [yR 45 16,lc 0])
def Ukt{x y:Rat}(h:x<=y):¬Qff x y>0:=by
 unfold Qff
 split
 .decide
 .split
  .decide
  .rename_i a b;exact fun _=>b (by grind)
def Kio{y:Rat}(h:1<y):¬(Qff y (1:Rat))<=0:=by
 unfold Qff;have a:¬y<1:=by grind
 have b:¬y=1:=by grind
 rw[if_neg a,if_neg b];decide
def BQ.cir{f0 f1 f2 f3:Rat}{n:Nat}(h0:BQ f0 n n)(h1:BQ f1 n n)(h2:BQ f2 n n)(h3:BQ f3 n n)(k:f0≠0)(hn:n<=4096):Qno f0 f1 f2 f3:=by
 have e:byF f0 f1 f2=f0:=if_neg k;unfold Qno;rw[e];exact⟨(h0.div h0 k).short (by omega) (by omega),(h1.div h0 k).short (by omega) (by omega),(h2.div h0 k).short (by omega) (by omega),(h3.div h0 k).short (by omega) (by omega)⟩
def Ksx(z:QC):nm (z-z)=0:=by simp only[nm,qsr,qsi];grind
def Kby(z:QC):Qdy z z=1:=by unfold Qdy;rw[Ksx,Qxm,Rat.add_zero]
def Kca(z:QC):Qdo z z=1:=by unfold Qdo;rw[Ksx,Rat.add_zero,Qxm,Rat.add_zero]
def Qsp{z w:QC}(bz:Bt z)(bw:Bt w)(hz:0<z.im)(hw:0<w.im):BQ (Qdy z w) 650 650:=by
 have n:=BQ.nm (bz.cz.sub bw.cz (r:=161) (by omega) (by omega));have h:=bz.2.mul bw.2;have d:=h.add h (r:=161) (by omega) (by omega);exact((BQ.int 1 1 (by decide)).add (n.div d (pne (Urf (Qdv hz hw)))) (r:=600) (by omega) (by omega)).mn (by omega)
def Qsq{z w:QC}(bz:Bt z)(bw:Bt w)(hz:0<1-nm z)(hw:0<1-nm w):BQ (Qdo z w) 650 650:=by
 have n:=BQ.nm (bz.cz.sub bw.cz (r:=161) (by omega) (by omega));have m:=(BQ.int 2 2 (by decide)).mul n;rw[show((2:Int):Rat)*nm (z-w)=nm (z-w)+nm (z-w) from by rw[show((2:Int):Rat)=2 from rfl];grind] at m;have one:BQ (1:Rat) 1 1:=BQ.int 1 1 (by decide);have x:=one.sub (BQ.nm bz.cz) (r:=163) (by omega) (by omega);have y:=one.sub (BQ.nm bw.cz) (r:=163) (by omega) (by omega);exact(one.add (m.div (x.mul y) (pne (Qdv hz hw))) (r:=649) (by omega) (by omega)).mn (by omega)
def Uck{a b c:Rat}(ha:BQ a 650 650)(hb:BQ b 650 650)(hc:BQ c 650 650)(hm:(a*a-1)*(b*b-1)≠0):Qar ((c-a*b)*(c-a*b)/((a*a-1)*(b*b-1))):=by
 have one:BQ (1:Rat) 1 1:=BQ.int 1 1 (by decide);have d:=hc.sub (ha.mul hb) (r:=1952) (by omega) (by omega);have x:=(ha.mul ha).sub one (r:=1302) (by omega) (by omega);have y:=(hb.mul hb).sub one (r:=1302) (by omega) (by omega);exact((d.mul d).div (x.mul y) hm).short (by omega) (by omega)
def Qwj{M D t:Rat}(h:M-D=t*t):D<=M:=by
 have:=rsq t;grind
def Klu(a b:Rat):wx1 a b=(a*a-1)*(b*b-1):=rfl
def fr1{z w:QC}(bz:Bt z)(bw:Bt w)(hz:0<z.im)(hw:0<w.im):SCt 31 [gIi 1,.row ((Qah z).cells),.row ((Qah w).cells)] (.tup [.row (rF (Qdy z w)),gIi 0]) :=
 Ude z w bz.sh bw.sh (Qgz hz) (Qgz hw) ((Qsp bz bw hz hw).short (by omega) (by omega))
def Uqy{x z:QC}(bx:Bt x)(bz:Bt z)(hx:0<x.im)(hz:0<z.im)(n:¬x=z):∃ oa ob oc,hA 1 x (Qdy x z) oa ob oc/\hOz oa ob oc z:=by
 have gy:=Qpm hx hz n;have yb:=Qsp bx bz hx hz;have sy:Qar (Qdy x z):=yb.short (by omega) (by omega);have one:BQ (1:Rat) 1 1:=BQ.int 1 1 (by decide);have cs:Qno (1:Rat) (-x.re) (Kag x (Qdy x z)) (nm x):=by
  have w42:BQ (Kag x (Qdy x z)) 1000 1000:=(bx.2.add ((yb.sub one (r:=652) (by omega) (by omega)).mul bx.2) (r:=740) (by omega) (by omega)).mn (by omega);exact BQ.cir (one.mn (by omega)) (bx.1.neg.mn (by omega)) w42 ((BQ.nm bx.cz).mn (by omega)) (by decide) (n:=1000) (by omega)
 have C:=Kbn (Ukl x (Qdy x z) (Qgz hx) (Kio gy)) cs;exact⟨Qea ((1:Rat)/byF (1:Rat) (-x.re) (Kag x (Qdy x z))),Qah ⟨(-x.re)/byF (1:Rat) (-x.re) (Kag x (Qdy x z)),(Kag x (Qdy x z))/byF (1:Rat) (-x.re) (Kag x (Qdy x z))⟩,Qea ((nm x)/byF (1:Rat) (-x.re) (Kag x (Qdy x z))),Uuo x (Qdy x z) bx.sh (Qaf sy) (Qgz hx) sy (Kio gy) cs,C.on1 bz.sh (by rw[Qms,show vl (1:Rat) (-x.re) (Kag x (Qdy x z)) (nm x) z=0 from Ufa hx hz,Qxm])⟩
def Uyv{x z w:QC}(bx:Bt x)(bz:Bt z)(bw:Bt w)(hx:0<x.im)(hz:0<z.im)(hw:0<w.im)(hne:¬z=w):hT 1 x z w:=by
 have ba:=Qsp bx bz hx hz;have bb:=Qsp bx bw hx hw;have bc:=Qsp bz bw hz hw;have sa:Qar (Qdy x z):=ba.short (by omega) (by omega);have sb:Qar (Qdy x w):=bb.short (by omega) (by omega);have sc:Qar (Qdy z w):=bc.short (by omega) (by omega);have Fa:hFa 1 z x (Qdy x z):=by
  have k:=fr1 bz bx hz hx;rw[Kbx z x] at k;exact k
 have Fb:hFb 1 x w (Qdy x w):=fr1 bx bw hx hw;have Fc:hFc 1 z w (Qdy z w):=fr1 bz bw hz hw;obtain⟨t,ht⟩:=Utx hx hz hw;have c0:=Ukt (Qwj ht)
 by_cases e1:x=z
 .subst e1;have k:=Kby x;have D0:Qdy x w-Qdy x x*Qdy x w=0:=by rw[k];grind
  exact(Uwt 1 x x w bx.sh bx.sh bw.sh rfl _ _ _ sa sb sc k c0 (Qfg.2 (by rw[D0,Klu,k];grind)) (by rw[D0];decide) Fa Fb Fc (Uuq x x w bx.sh bx.sh bw.sh (Qgz hx) (Qgz hx) (Qgz hw) rfl))
 have ka:¬Qdy x z=1:=fun e=>by
  have g:=Qpm hx hz e1;rw[e] at g;exact absurd g (by decide)
 obtain⟨oa,ob,oc,A,Oz⟩:=Uqy bx bz hx hz e1
 by_cases e2:x=w
 .subst e2;have k:=Kby x;have D0:Qdy z x-Qdy x z*Qdy x x=0:=by rw[k,Kbx z x];grind
  exact(Uws 1 x z x bx.sh bz.sh bx.sh e1 rfl _ _ _ sa sb sc oa ob oc ka c0 (Qfg.2 (by rw[D0,Klu,k];grind)) (by rw[D0];decide) Fa Fb Fc (Uus z x x bz.sh bx.sh bx.sh (Qgz hz) (Qgz hx) (Qgz hx) e1 rfl) A Oz)
 have hm:wx1 (Qdy x z) (Qdy x w)≠0:=Kyo (Qpm hx hz e1) (Qpm hx hw e2);have sq:Qar (Kbu x z w*Kbu x z w/Ucx x z w):=Uck ba bb bc hm;have G:=Kjo x z w bx.sh bz.sh bw.sh (Qgz hx) (Qgz hz) (Qgz hw) e1 e2 (by rw[Uki x z w hx hz hw];exact sq);rw[Uqw x z w hx hz hw,Uki x z w hx hz hw] at G;replace G:hG 1 x z w _ _:=G;have hq:Kbu x z w*Kbu x z w/Ucx x z w*wx1 (Qdy x z) (Qdy x w)=(Qdy z w-Qdy x z*Qdy x w)*(Qdy z w-Qdy x z*Qdy x w):=by
  show Kbu x z w*Kbu x z w/Ucx x z w*Ucx x z w=Kbu x z w*Kbu x z w;have h:Ucx x z w≠0:=hm;generalize Kbu x z w*Kbu x z w=u;grind
 have B:=Uuu z x w bz.sh bx.sh bw.sh (Qgz hz) (Qgz hx) (Qgz hw) e1 e2 hne;simp only[Ura x z w hx hz hw,Urc x z w hx hz hw,Qfp,Qfg] at B
 by_cases h:0<Kbu x z w/\Kbu x z w*Kbu x z w=Ucx x z w
 .exact Uwr 1 x z w bx.sh bz.sh bw.sh e1 e2 _ _ _ sa sb sc oa ob oc _ _ sq ka c0 (Qfg.2 h.2) (by have:=Qfp.2 h.1;exact Int.le_of_lt this) hq rfl Fa Fb Fc (B.t h) A Oz G
 .by_cases k:Qff ((Qdy z w-Qdy x z*Qdy x w)*(Qdy z w-Qdy x z*Qdy x w)) (wx1 (Qdy x z) (Qdy x w))=0
  .refine Uwp 1 x z w bx.sh bz.sh bw.sh e1 e2 _ _ _ sa sb sc oa ob oc _ _ sq ka c0 k (fun q=>h ⟨?_,Qfg.1 k⟩) hq rfl Fa Fb Fc (B.f h) A Oz G;rcases Int.lt_or_eq_of_le q with q|q
   .exact Qfp.1 q
   .exact absurd (Qfg.1 k).symm (by
     have z0:Qdy z w-Qdy x z*Qdy x w=0:=sgz q.symm;rw[z0];intro z1;exact hm (by rw[z1,Rat.zero_mul]))
  .exact Uwq 1 x z w bx.sh bz.sh bw.sh e1 e2 _ _ _ sa sb sc oa ob oc _ _ sq ka c0 k hq rfl Fa Fb Fc (B.f h) A Oz G
def fr2{z w:QC}(bz:Bt z)(bw:Bt w)(hz:0<1-nm z)(hw:0<1-nm w):SCt 31 [gIi 2,.row ((Qah z).cells),.row ((Qah w).cells)] (.tup [.row (rF (Qdo z w)),gIi 0]) :=
 Unm z w bz.sh bw.sh (Qgz hz) (Qgz hw) ((Qsq bz bw hz hw).short (by omega) (by omega))
def Uqz{x z:QC}(bx:Bt x)(bz:Bt z)(hx:0<1-nm x)(hz:0<1-nm z)(n:¬x=z):∃ oa ob oc,hA 2 x (Qdo x z) oa ob oc/\hOz oa ob oc z:=by
 have gy:=Qpn hx hz n;have yb:=Qsq bx bz hx hz;have sy:Qar (Qdo x z):=yb.short (by omega) (by omega);have one:BQ (1:Rat) 1 1:=BQ.int 1 1 (by decide);have cs:Qno (Kbb x (Qdo x z)) (-x.re) x.im (Kox x (Qdo x z)):=by
  have nx:=BQ.nm bx.cz;have w43:BQ (Kez x (Qdo x z)) 815 812:=by
   unfold Kez;exact((yb.sub one (r:=652) (by omega) (by omega)).mul (one.sub nx (r:=163) (by omega) (by omega))).mn (by omega)
  have w2:BQ (Kez x (Qdo x z)/(2:Rat)) 816 814:=(w43.div (show BQ (2:Rat) 2 1 from BQ.int 2 2 (by decide)) (by decide)).mn (by omega);have p43:0<Kez x (Qdo x z):=Qdv (by grind) hx;exact BQ.cir ((one.add w2 (r:=818) (by omega) (by omega)).mn (by omega)) (bx.1.neg.mn (by omega)) (bx.2.mn (by omega)) ((nx.sub w2 (r:=990) (by omega) (by omega)).mn (by omega)) (by unfold Kbb;grind) (n:=1000) (by omega)
 have C:=Kbn (Ukm x (Qdo x z) (Qgz hx) (Kio gy)) cs;exact⟨Qea ((Kbb x (Qdo x z))/byF (Kbb x (Qdo x z)) (-x.re) x.im),Qah ⟨(-x.re)/byF (Kbb x (Qdo x z)) (-x.re) x.im,x.im/byF (Kbb x (Qdo x z)) (-x.re) x.im⟩,Qea ((Kox x (Qdo x z))/byF (Kbb x (Qdo x z)) (-x.re) x.im),Uup x (Qdo x z) bx.sh (Qaf sy) (Qgz hx) sy (Kio gy) cs,C.on1 bz.sh (by rw[Qms,show vl (Kbb x (Qdo x z)) (-x.re) x.im (Kox x (Qdo x z)) z=0 from by show vl (1+Kez x (Qdo x z)/2) (-x.re) x.im (nm x-Kez x (Qdo x z)/2) z=0;exact Ufb hx hz (by unfold Kez;grind),Qxm])⟩
def Uyw{x z w:QC}(bx:Bt x)(bz:Bt z)(bw:Bt w)(hx:0<1-nm x)(hz:0<1-nm z)(hw:0<1-nm w)(hne:¬z=w):hT 2 x z w:=by
 have ba:=Qsq bx bz hx hz;have bb:=Qsq bx bw hx hw;have bc:=Qsq bz bw hz hw;have sa:Qar (Qdo x z):=ba.short (by omega) (by omega);have sb:Qar (Qdo x w):=bb.short (by omega) (by omega);have sc:Qar (Qdo z w):=bc.short (by omega) (by omega);have Fa:hFa 2 z x (Qdo x z):=by
  have k:=fr2 bz bx hz hx;rw[Kbz z x] at k;exact k
 have Fb:hFb 2 x w (Qdo x w):=fr2 bx bw hx hw;have Fc:hFc 2 z w (Qdo z w):=fr2 bz bw hz hw;obtain⟨t,ht⟩:=Uty hx hz hw;have c0:=Ukt (Qwj ht)
 by_cases e1:x=z
 .subst e1;have k:=Kca x;have D0:Qdo x w-Qdo x x*Qdo x w=0:=by rw[k];grind
  exact(Uwt 2 x x w bx.sh bx.sh bw.sh rfl _ _ _ sa sb sc k c0 (Qfg.2 (by rw[D0,Klu,k];grind)) (by rw[D0];decide) Fa Fb Fc (Uur x x w bx.sh bx.sh bw.sh (Qgz hx) (Qgz hx) (Qgz hw) rfl))
 have ka:¬Qdo x z=1:=fun e=>by
  have g:=Qpn hx hz e1;rw[e] at g;exact absurd g (by decide)
 obtain⟨oa,ob,oc,A,Oz⟩:=Uqz bx bz hx hz e1
 by_cases e2:x=w
 .subst e2;have k:=Kca x;have D0:Qdo z x-Qdo x z*Qdo x x=0:=by rw[k,Kbz z x];grind
  exact(Uws 2 x z x bx.sh bz.sh bx.sh e1 rfl _ _ _ sa sb sc oa ob oc ka c0 (Qfg.2 (by rw[D0,Klu,k];grind)) (by rw[D0];decide) Fa Fb Fc (Uut z x x bz.sh bx.sh bx.sh (Qgz hz) (Qgz hx) (Qgz hx) e1 rfl) A Oz)
 have hm:wx1 (Qdo x z) (Qdo x w)≠0:=Kyo (Qpn hx hz e1) (Qpn hx hw e2);have sq:Qar (Kbv x z w*Kbv x z w/Ucy x z w):=Uck ba bb bc hm;have G:=Kzo x z w bx.sh bz.sh bw.sh (Qgz hx) (Qgz hz) (Qgz hw) e1 e2 (by rw[Ukj x z w hx hz hw];exact sq);rw[Uqx x z w hx hz hw,Ukj x z w hx hz hw] at G;replace G:hG 2 x z w _ _:=G;have hq:Kbv x z w*Kbv x z w/Ucy x z w*wx1 (Qdo x z) (Qdo x w)=(Qdo z w-Qdo x z*Qdo x w)*(Qdo z w-Qdo x z*Qdo x w):=by
  show Kbv x z w*Kbv x z w/Ucy x z w*Ucy x z w=Kbv x z w*Kbv x z w;have h:Ucy x z w≠0:=hm;generalize Kbv x z w*Kbv x z w=u;grind
 have B:=Uuv z x w bz.sh bx.sh bw.sh (Qgz hz) (Qgz hx) (Qgz hw) e1 e2 hne;simp only[Urb x z w hx hz hw,Urd x z w hx hz hw,Qfp,Qfg] at B
 by_cases h:0<Kbv x z w/\Kbv x z w*Kbv x z w=Ucy x z w
 .exact Uwr 2 x z w bx.sh bz.sh bw.sh e1 e2 _ _ _ sa sb sc oa ob oc _ _ sq ka c0 (Qfg.2 h.2) (by have:=Qfp.2 h.1;exact Int.le_of_lt this) hq rfl Fa Fb Fc (B.t h) A Oz G
 .by_cases k:Qff ((Qdo z w-Qdo x z*Qdo x w)*(Qdo z w-Qdo x z*Qdo x w)) (wx1 (Qdo x z) (Qdo x w))=0
  .refine Uwp 2 x z w bx.sh bz.sh bw.sh e1 e2 _ _ _ sa sb sc oa ob oc _ _ sq ka c0 k (fun q=>h ⟨?_,Qfg.1 k⟩) hq rfl Fa Fb Fc (B.f h) A Oz G;rcases Int.lt_or_eq_of_le q with q|q
   .exact Qfp.1 q
   .exact absurd (Qfg.1 k).symm (by
     have z0:Qdo z w-Qdo x z*Qdo x w=0:=sgz q.symm;rw[z0];intro z1;exact hm (by rw[z1,Rat.zero_mul]))
  .exact Uwq 2 x z w bx.sh bz.sh bw.sh e1 e2 _ _ _ sa sb sc oa ob oc _ _ sq ka c0 k hq rfl Fa Fb Fc (B.f h) A Oz G
def Umq{a b e d:Rat}(hq:Qao a b e d 0 0 1 0=0):e=0:=by
 unfold Qao at hq;grind
def Uhc{a b e d:Rat}{z:QC}(C:CO a b e d)(he:e=0)(hz:0<z.im):rfD a b e d z≠⟨0,0⟩:=by
 subst he;exact(Kfz (z:=z) (w:=z) (by have:=C.hp;unfold Qao at this;grind) hz hz).2.1
def Uuk{v:V5}(C:CO v.a v.b v.e v.d)(hI:IF v.a v.b v.e v.d 330)(he:v.e=0)(bx:Bt v.z)(hx:0<v.z.im):∃ ua ub uc,hU 1 (Qea v.a) (Qah ⟨v.b,v.e⟩) (Qea v.d) v.z ua ub uc/\hOx ua ub uc v.z /\
  (hFn 1 (Qea v.a) (Qah ⟨v.b,v.e⟩) (Qea v.d) v.z\/∃ y,Qac y/\hFy 1 (Qea v.a) (Qah ⟨v.b,v.e⟩) (Qea v.d) v.z y/\hOc (Qea v.a) (Qah ⟨v.b,v.e⟩) (Qea v.d) y/\hOu ua ub uc y/\hH 1 y):=by
 have ft:=Ush C hI he bx hx;have hq:Qao v.a v.b v.e v.d 0 0 1 0=0:=by rw[he];unfold Qao;grind
 have iU:IF (Qbp v) (Qcw v) (Qcx v) (Qdz v) 498:=bx.upr (p:=1) hI;have hPU:0<Qao (Qbp v) (Qcw v) (Qcx v) (Qdz v) (Qbp v) (Qcw v) (Qcx v) (Qdz v):=Klk he hx C.hp;have cs:Qno (Qbp v) (Qcw v) (Qcx v) (Qdz v):=iU.cir (Qld hPU) (by decide);have CU:=Kbn hPU cs;refine⟨_,_,_,C.up1 bx.sh hx hq cs hPU,CU.on1 bx.sh (by rw[Qms,show vl (Qbp v) (Qcw v) (Qcx v) (Qdz v) v.z=0 from Uds 1 v.a v.b v.e v.d v.z (by simpa using he),Qxm]),?_⟩;rcases ft with F|⟨y,sy,F,Fy⟩
 .exact .inl F
 .have f1:0<y.im:=F.1;exact .inr ⟨y,sy,Fy,C.on1 sy F.2.1,CU.on1 sy (by rw[Qms,show vl (Qbp v) (Qcw v) (Qcx v) (Qdz v) y=0 from F.2.2,Qxm]),Ulx y sy (Qgz f1)⟩
def Kzc(x z w:QC)(bx:Bt x)(bz:Bt z)(bw:Bt w)(hx:0<x.im)(hz:0<z.im)(hw:0<w.im)(Wt:hWt 1 (Qah x) (Qah z) (Qah w)):SCt 4 [gIi 1,.row ((Qah x).cells++(Qah z).cells++(Qah w).cells)] (.r gTt):=by
 by_cases hne:z=w
 .exact Uwg 1 x z w bx.sh bz.sh bw.sh hne Wt
 have iL:IF (Qei z w) (Qej z w) (Qek z w) (Qhb z w) 330:=bz.lin1 bw;have pL:=Umo hz hw hne;have csL:Qno (Qei z w) (Qej z w) (Qek z w) (Qhb z w):=iL.cir (Qld pL) (by decide);have C:=Kbn pL csL;have hq:Qao (Qei z w/(byF (Qei z w) (Qej z w) (Qek z w))) (Qej z w/(byF (Qei z w) (Qej z w) (Qek z w))) (Qek z w/(byF (Qei z w) (Qej z w) (Qek z w))) (Qhb z w/(byF (Qei z w) (Qej z w) (Qek z w))) 0 0 1 0=0:=by rw[Kkk,Umh,Qxm]
 have L:hL 1 z w (Qea (Qei z w/(byF (Qei z w) (Qej z w) (Qek z w)))) (Qah ⟨Qej z w/(byF (Qei z w) (Qej z w) (Qek z w)),Qek z w/(byF (Qei z w) (Qej z w) (Qek z w))⟩) (Qea (Qhb z w/(byF (Qei z w) (Qej z w) (Qek z w)))):=Uno z w bz.sh bw.sh (Qgz hz) (Qgz hw) hne csL;have O2:Uyy (Qea (Qei z w/(byF (Qei z w) (Qej z w) (Qek z w)))) (Qah ⟨Qej z w/(byF (Qei z w) (Qej z w) (Qek z w)),Qek z w/(byF (Qei z w) (Qej z w) (Qek z w))⟩) (Qea (Qhb z w/(byF (Qei z w) (Qej z w) (Qek z w)))) z w:=C.on2 bz.sh bw.sh (by rw[Qms,Umj,Qxm]) (by rw[Qms,Umi,Qxm]);have I:hI 1 (Qea (Qei z w/(byF (Qei z w) (Qej z w) (Qek z w)))) (Qah ⟨Qej z w/(byF (Qei z w) (Qej z w) (Qek z w)),Qek z w/(byF (Qei z w) (Qej z w) (Qek z w))⟩) (Qea (Qhb z w/(byF (Qei z w) (Qej z w) (Qek z w)))):=CO.is1 (v:=⟨_,_,_,_,z⟩) C hq;have iM:IF (Qep z w) (Qeq z w) (Qer z w) (Qhl z w) 327:=bz.mid1 bw;have pM:=Umz hz hw hne;have csM:Qno (Qep z w) (Qeq z w) (Qer z w) (Qhl z w):=iM.cir (Qld pM) (by decide);have CM:=Kbn pM csM;have hqM:Qao (Qep z w/(byF (Qep z w) (Qeq z w) (Qer z w))) (Qeq z w/(byF (Qep z w) (Qeq z w) (Qer z w))) (Qer z w/(byF (Qep z w) (Qeq z w) (Qer z w))) (Qhl z w/(byF (Qep z w) (Qeq z w) (Qer z w))) 0 0 1 0=0:=by rw[Kkk,Umv,Qxm]
 have M:hM 1 z w (Qea (Qep z w/(byF (Qep z w) (Qeq z w) (Qer z w)))) (Qah ⟨Qeq z w/(byF (Qep z w) (Qeq z w) (Qer z w)),Qer z w/(byF (Qep z w) (Qeq z w) (Qer z w))⟩) (Qea (Qhl z w/(byF (Qep z w) (Qeq z w) (Qer z w)))):=Udf z w bz.sh bw.sh (Qgz hz) (Qgz hw) hne csM;have nd:=Uhc CM (Umq hqM) hz;have eo:=Kjn (Umt z w) nd;have V:hV 1 (Qea (Qep z w/(byF (Qep z w) (Qeq z w) (Qer z w)))) (Qah ⟨Qeq z w/(byF (Qep z w) (Qeq z w) (Qer z w)),Qer z w/(byF (Qep z w) (Qeq z w) (Qer z w))⟩) (Qea (Qhl z w/(byF (Qep z w) (Qeq z w) (Qer z w)))) z w:=CO.ov1 (v:=⟨_,_,_,_,z⟩) CM bz.sh hz hqM nd eo bw.sh;have T:=Uyv bx bz bw hx hz hw hne;obtain⟨ua,ub,uc,U,Ox,F|⟨v,sv,Fy,Oc,Ou,Hv⟩⟩:=Uuk (v:=⟨_,_,_,_,x⟩) C (iL.div (Qld pL)) (Umq hq) bx hx
 .exact Uwh 1 x z w bx.sh bz.sh bw.sh hne _ _ _ _ _ _ ua ub uc Wt L O2 I M V U Ox F T
 .exact Uwi 1 x z w bx.sh bz.sh bw.sh hne _ _ _ _ _ _ ua ub uc v sv Wt L O2 I M V U Ox Fy Oc Ou Hv T
def Umr{a b e d:Rat}(hq:Qao a b e d 1 0 0 (-1)=0):a=d:=by
 unfold Qao at hq;grind
def Uhd{a b e d:Rat}{z:QC}(C:CO a b e d)(he:a=d)(hz:0<1-nm z):rfD a b e d z≠⟨0,0⟩:=by
 subst he;exact(Kga (z:=z) (w:=z) (by have:=C.hp;unfold Qao at this;grind) hz hz).2.1
def Uul{v:V5}(C:CO v.a v.b v.e v.d)(hI:IF v.a v.b v.e v.d 330)(he:v.a=v.d)(bx:Bt v.z)(hx:0<1-nm v.z):∃ ua ub uc,hU 2 (Qea v.a) (Qah ⟨v.b,v.e⟩) (Qea v.d) v.z ua ub uc/\hOx ua ub uc v.z /\
  (hFn 2 (Qea v.a) (Qah ⟨v.b,v.e⟩) (Qea v.d) v.z\/∃ y,Qac y/\hFy 2 (Qea v.a) (Qah ⟨v.b,v.e⟩) (Qea v.d) v.z y/\hOc (Qea v.a) (Qah ⟨v.b,v.e⟩) (Qea v.d) y/\hOu ua ub uc y/\hH 2 y):=by
 have ft:=Usi C hI he bx hx;have hq:Qao v.a v.b v.e v.d 1 0 0 (-1)=0:=by rw[he];unfold Qao;grind
 have iU:IF (Qbm v) (Qcu v) (Qcv v) (Qdx v) 498:=bx.upr (p:=2) hI;have hPU:0<Qao (Qbm v) (Qcu v) (Qcv v) (Qdx v) (Qbm v) (Qcu v) (Qcv v) (Qdx v):=Kll he hx C.hp;have cs:Qno (Qbm v) (Qcu v) (Qcv v) (Qdx v):=iU.cir (Qld hPU) (by decide);have CU:=Kbn hPU cs;refine⟨_,_,_,C.up2 bx.sh hx hq cs hPU,CU.on1 bx.sh (by rw[Qms,show vl (Qbm v) (Qcu v) (Qcv v) (Qdx v) v.z=0 from Uds 2 v.a v.b v.e v.d v.z (by simpa using he),Qxm]),?_⟩;rcases ft with F|⟨y,sy,F,Fy⟩
 .exact .inl F
 .have f1:0<1-nm y:=F.1;exact .inr ⟨y,sy,Fy,C.on1 sy F.2.1,CU.on1 sy (by rw[Qms,show vl (Qbm v) (Qcu v) (Qcv v) (Qdx v) y=0 from F.2.2,Qxm]),Uly y sy (Qgz f1)⟩
def Kzd(x z w:QC)(bx:Bt x)(bz:Bt z)(bw:Bt w)(hx:0<1-nm x)(hz:0<1-nm z)(hw:0<1-nm w)(Wt:hWt 2 (Qah x) (Qah z) (Qah w)):SCt 4 [gIi 2,.row ((Qah x).cells++(Qah z).cells++(Qah w).cells)] (.r gTt):=by
 by_cases hne:z=w
 .exact Uwg 2 x z w bx.sh bz.sh bw.sh hne Wt
 have iL:IF (Qel z w) (Qem z w) (Qen z w) (Qhc z w) 330:=bz.lin2 bw;have pL:=Ump hz hw hne;have csL:Qno (Qel z w) (Qem z w) (Qen z w) (Qhc z w):=iL.cir (Qld pL) (by decide);have C:=Kbn pL csL;have hq:Qao (Qel z w/(byF (Qel z w) (Qem z w) (Qen z w))) (Qem z w/(byF (Qel z w) (Qem z w) (Qen z w))) (Qen z w/(byF (Qel z w) (Qem z w) (Qen z w))) (Qhc z w/(byF (Qel z w) (Qem z w) (Qen z w))) 1 0 0 (-1)=0:=by rw[Kkk,Uml,Qxm]
 have L:hL 2 z w (Qea (Qel z w/(byF (Qel z w) (Qem z w) (Qen z w)))) (Qah ⟨Qem z w/(byF (Qel z w) (Qem z w) (Qen z w)),Qen z w/(byF (Qel z w) (Qem z w) (Qen z w))⟩) (Qea (Qhc z w/(byF (Qel z w) (Qem z w) (Qen z w)))):=Unp z w bz.sh bw.sh (Qgz hz) (Qgz hw) hne csL;have O2:Uyy (Qea (Qel z w/(byF (Qel z w) (Qem z w) (Qen z w)))) (Qah ⟨Qem z w/(byF (Qel z w) (Qem z w) (Qen z w)),Qen z w/(byF (Qel z w) (Qem z w) (Qen z w))⟩) (Qea (Qhc z w/(byF (Qel z w) (Qem z w) (Qen z w)))) z w:=C.on2 bz.sh bw.sh (by rw[Qms,Umn,Qxm]) (by rw[Qms,Umm,Qxm]);have I:hI 2 (Qea (Qel z w/(byF (Qel z w) (Qem z w) (Qen z w)))) (Qah ⟨Qem z w/(byF (Qel z w) (Qem z w) (Qen z w)),Qen z w/(byF (Qel z w) (Qem z w) (Qen z w))⟩) (Qea (Qhc z w/(byF (Qel z w) (Qem z w) (Qen z w)))):=CO.is2 (v:=⟨_,_,_,_,z⟩) C hq;have iM:IF (Qfm z w) (Qfn z w) (Qfo z w) (Qhn z w) 327:=bz.mid2 bw;have pM:=Una hz hw hne;have csM:Qno (Qfm z w) (Qfn z w) (Qfo z w) (Qhn z w):=iM.cir (Qld pM) (by decide);have CM:=Kbn pM csM;have hqM:Qao (Qfm z w/(byF (Qfm z w) (Qfn z w) (Qfo z w))) (Qfn z w/(byF (Qfm z w) (Qfn z w) (Qfo z w))) (Qfo z w/(byF (Qfm z w) (Qfn z w) (Qfo z w))) (Qhn z w/(byF (Qfm z w) (Qfn z w) (Qfo z w))) 1 0 0 (-1)=0:=by rw[Kkk,Umy,Qxm]
 have M:hM 2 z w (Qea (Qfm z w/(byF (Qfm z w) (Qfn z w) (Qfo z w)))) (Qah ⟨Qfn z w/(byF (Qfm z w) (Qfn z w) (Qfo z w)),Qfo z w/(byF (Qfm z w) (Qfn z w) (Qfo z w))⟩) (Qea (Qhn z w/(byF (Qfm z w) (Qfn z w) (Qfo z w)))):=Unq z w bz.sh bw.sh (Qgz hz) (Qgz hw) hne csM;have nd:=Uhd CM (Umr hqM) hz;have eo:=Kjn (Umw z w) nd;have V:hV 2 (Qea (Qfm z w/(byF (Qfm z w) (Qfn z w) (Qfo z w)))) (Qah ⟨Qfn z w/(byF (Qfm z w) (Qfn z w) (Qfo z w)),Qfo z w/(byF (Qfm z w) (Qfn z w) (Qfo z w))⟩) (Qea (Qhn z w/(byF (Qfm z w) (Qfn z w) (Qfo z w)))) z w:=CO.ov2 (v:=⟨_,_,_,_,z⟩) CM bz.sh hz hqM nd eo bw.sh;have T:=Uyw bx bz bw hx hz hw hne;obtain⟨ua,ub,uc,U,Ox,F|⟨v,sv,Fy,Oc,Ou,Hv⟩⟩:=Uul (v:=⟨_,_,_,_,x⟩) C (iL.div (Qld pL)) (Umr hq) bx hx
 .exact Uwh 2 x z w bx.sh bz.sh bw.sh hne _ _ _ _ _ _ ua ub uc Wt L O2 I M V U Ox F T
 .exact Uwi 2 x z w bx.sh bz.sh bw.sh hne _ _ _ _ _ _ ua ub uc v sv Wt L O2 I M V U Ox Fy Oc Ou Hv T
def Udl{g1 g2 g3:Qeb}(h:¬Udj g1 g2 g3):(g1.s1.size<=5/\g1.s2.size<=5/\g1.s3.size<=5/\g1.s4.size<=5)/\(g2.s1.size<=5/\g2.s2.size<=5/\g2.s3.size<=5/\g2.s4.size<=5)/\(g3.s1.size<=5/\g3.s2.size<=5/\g3.s3.size<=5/\g3.s4.size<=5):=by
 have k:∀ k,k<12->¬Udk g1 g2 g3 k:=fun k hk e=>h ⟨k,hk,e⟩
 have a0:=k 0 (by decide);have a1:=k 1 (by decide);have a2:=k 2 (by decide);have a3:=k 3 (by decide);have a4:=k 4 (by decide);have a5:=k 5 (by decide);have a6:=k 6 (by decide);have a7:=k 7 (by decide);have a8:=k 8 (by decide);have a9:=k 9 (by decide);have a10:=k 10 (by decide);have a11:=k 11 (by decide);simp[Udk,Sz] at a0 a1 a2 a3 a4 a5 a6 a7 a8 a9 a10 a11;exact⟨⟨by omega,by omega,by omega,by omega⟩,⟨by omega,by omega,by omega,by omega⟩,by omega,by omega,by omega,by omega⟩
def Kmu{z:QC}(h:(Qah z).s1.size<=5/\(Qah z).s2.size<=5/\(Qah z).s3.size<=5/\(Qah z).s4.size<=5):Bt z:=⟨BQ.of_size h.1 h.2.1,BQ.of_size h.2.2.1 h.2.2.2⟩
def Ufy(l1 l2 l3:Qeb):SCt 4 [.c (gxi 1),.row (l1.cells++l2.cells++l3.cells)] (.r gTt):=by
 by_cases k1:GOk l1.val
 .obtain⟨x,rfl,sx⟩:=Qpp k1
  by_cases k2:GOk l2.val
  .obtain⟨z,rfl,sz⟩:=Qpp k2
   by_cases k3:GOk l3.val
   .obtain⟨w,rfl,sw⟩:=Qpp k3
    by_cases hx:x.im.num.sign<=0
    .exact Qmy 1 _ _ _ (Qpo 1 _ _ _ (Ugd x z w sx sz sw hx))
    by_cases hz:z.im.num.sign<=0
    .exact Qmy 1 _ _ _ (Qpo 1 _ _ _ (Uge x z w sx sz sw hx hz))
    by_cases hw:w.im.num.sign<=0
    .exact Qmy 1 _ _ _ (Qpo 1 _ _ _ (Ugf x z w sx sz sw hx hz hw))
    have q0:=Ugc x z w sx sz sw hx hz hw
    by_cases hs:Udj (Qah x) (Qah z) (Qah w)
    .exact Qmy 1 _ _ _ (Usd _ _ _ hs q0)
    .obtain⟨a1,a2,a3⟩:=Udl hs;exact Kzc x z w (Kmu a1) (Kmu a2) (Kmu a3) (Qdf hx) (Qdf hz) (Qdf hw) (Usc _ _ _ hs q0)
   .exact Qmy 1 _ _ _ (Kfo 1 _ _ _ (Une x z l3 sx sz k3))
  .exact Qmy 1 _ _ _ (Kfo 1 _ _ _ (Und x l2 l3 sx k2))
 .exact Qmy 1 _ _ _ (Kfo 1 _ _ _ (Unc l1 l2 l3 k1))
def Ufz(l1 l2 l3:Qeb):SCt 4 [.c (gxi 2),.row (l1.cells++l2.cells++l3.cells)] (.r gTt):=by
 by_cases k1:GOk l1.val
 .obtain⟨x,rfl,sx⟩:=Qpp k1
  by_cases k2:GOk l2.val
  .obtain⟨z,rfl,sz⟩:=Qpp k2
   by_cases k3:GOk l3.val
   .obtain⟨w,rfl,sw⟩:=Qpp k3
    by_cases hx:(((1:Rat)-(nm x)).num.sign)<=0
    .exact Qmy 2 _ _ _ (Qpo 2 _ _ _ (Ugh x z w sx sz sw hx))
    by_cases hz:(((1:Rat)-(nm z)).num.sign)<=0
    .exact Qmy 2 _ _ _ (Qpo 2 _ _ _ (Ugi x z w sx sz sw hx hz))
    by_cases hw:(((1:Rat)-(nm w)).num.sign)<=0
    .exact Qmy 2 _ _ _ (Qpo 2 _ _ _ (Ugj x z w sx sz sw hx hz hw))
    have q0:=Ugg x z w sx sz sw hx hz hw
    by_cases hs:Udj (Qah x) (Qah z) (Qah w)
    .exact Qmy 2 _ _ _ (Usf _ _ _ hs q0)
    .obtain⟨a1,a2,a3⟩:=Udl hs;exact Kzd x z w (Kmu a1) (Kmu a2) (Kmu a3) (Qdf hx) (Qdf hz) (Qdf hw) (Use _ _ _ hs q0)
   .exact Qmy 2 _ _ _ (Kfo 2 _ _ _ (Unh x z l3 sx sz k3))
  .exact Qmy 2 _ _ _ (Kfo 2 _ _ _ (Ung x l2 l3 sx k2))
 .exact Qmy 2 _ _ _ (Kfo 2 _ _ _ (Unf l1 l2 l3 k1))
def Ksm(p:Int)(l1 l2 l3:Qeb):SCt 4 [.c (gxi p),.row (l1.cells++l2.cells++l3.cells)] (.r gTt):=by
 by_cases hp1:p=1
 .subst hp1;exact Ufy l1 l2 l3
 by_cases hp2:p=2
 .subst hp2;exact Ufz l1 l2 l3
 exact Qmy p _ _ _ (Kfo p _ _ _ (Uyi p l1 l2 l3 hp1 hp2))
