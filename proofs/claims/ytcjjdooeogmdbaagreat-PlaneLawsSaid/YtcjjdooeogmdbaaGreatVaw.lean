/- Laws. -/
import Derived.Test.YtcjjdooeogmdbaaGreatVav
set_option linter.all false
set_option maxHeartbeats 4000000
set_option maxRecDepth 100000
open Go.Lib (hid)
namespace Go.Proofs.YtcjjdooeogmdbaaGreat
open Go.RowKit Tr Proofs.Tryz
def Knc(neg:Bool)(s:ByteArray)(r:Bool)(hr:r=true↔Qlc neg s)(w:World) :
  Calls prog 186 #[.agg #[.bool neg,.string s]] w fun e w'=>e=.returned (.bool r)/\Below w.heap.size w w':=by
 have HB:=hid (show Below w.heap.size w (w.alloc (.cells #[.bool neg,.string s] 24)) from br.alloc lr _);rcases Nat.eq_zero_or_pos s.size with h0|h0
 .have:=Qon h0;subst this;have hr2:r=!neg:=by
   have:Qlc neg ⟨#[]⟩↔neg=false:=⟨fun h=>h.1 rfl,fun h=>⟨fun _=>h,Qpw⟩⟩
   rw[this] at hr;cases neg<;>cases r<;>simp_all
  subst hr2;clear hr h0
  go_enter func186,Tryz.ntmps186
  go_wp2
  all_goals go_ret
  all_goals exact⟨rfl,HB.out⟩
 .have hne:¬s.toList=[]:=fun h=>by
   have h2:s.toList.length=s.size:=by rw[ByteArray.toList_eq];simp
   rw[h] at h2;simp at h2;omega
  have hne2:s.toList.isEmpty=false:=by simpa using hne
  have hr2:r=((s[0].toNat:Int) != 0):=by
   have h1:Qlc neg s↔s[0].toNat≠0:=⟨fun h=>(Qob h0).1 h.2,fun h=>⟨fun h=>by omega,(Qob h0).2 h⟩⟩
   rw[h1] at hr
   by_cases h:s[0].toNat=0
   .rw[h] at hr ⊢;cases r;rfl;simp at hr
   .have h3:((s[0].toNat:Int) != 0)=true:=by simpa using h
    rw[h3];exact hr.2 h
  subst hr2;clear hr hne
  go_enter func186,Tryz.ntmps186
  go_wp2
  all_goals go_ret
  all_goals exact⟨rfl,HB.out⟩
def Qns{x y:Int}:Qhv x y=0↔x=y:=by unfold Qhv;split;omega;split<;>omega
def Kcc{n1:Bool}{s1 s2:ByteArray}(h1:Qlc n1 s1)(h2:Qlc false s2){q:Rat} :
  Value.agg #[.bool n1,.string s1,.bool false,.string s2]=Qgf q↔q.num=sgn n1 (Qgm s1)/\(q.den:Int)=sgn false (Qgm s2):=by
 constructor
 .intro h;obtain⟨a,b,c,d⟩:=Qcn h;refine⟨?_,?_⟩
  .rw[a,b,Qdq,Qrx]
  .rw[d,Qdq];rfl
 .rintro⟨a,b⟩;have e1:=h1.enc;have e2:=h2.enc;rw[<-a] at e1;rw[<-b] at e2;unfold Qfh at e1 e2;simp only[Value.agg.injEq,Array.mk.injEq,List.cons.injEq,Value.bool.injEq,Value.string.injEq,and_true] at e1 e2;unfold Qgf;rw[<-e1.1,<-e1.2,e2.2];simp
open Classical in
noncomputable def Kry(neg:Bool)(s:ByteArray):Bool:=decide (Qlc neg s)
def Qli{neg:Bool}{s:ByteArray}:Kry neg s=true↔Qlc neg s:=by unfold Kry;simp
def Upk(v:Value)(base:Nat)(u:Value)(w:World)(A:Nat->Prop):Prop:=(¬Qgp v/\u=.pointer none)\/∃ q,v=Qgf q/\Qgp v/\Kya base q u w A
def Qxo(n1 n2:Bool)(s1 s2:ByteArray)(h1:s1.size<274877906944)(h2:s2.size<274877906944)(w:World) :
  Calls prog 105 #[.agg #[.bool n1,.string s1,.bool n2,.string s2]] w fun e w'=>∃ u,e=.returned u/\Upk (.agg #[.bool n1,.string s1,.bool n2,.string s2]) w.heap.size u w' NoA/\Below w.heap.size w w':=by
 have HF:=hid (fun(w':World) (h:¬Qgp (.agg #[.bool n1,.string s1,.bool n2,.string s2]))=>show Upk (.agg #[.bool n1,.string s1,.bool n2,.string s2]) w.heap.size (.pointer none) w' NoA from .inl ⟨h,rfl⟩);have HAL:=hid (show Below w.heap.size w (w.alloc (.cells #[.bool n1,.string s1,.bool n2,.string s2] 26)) from br.alloc lr _);have HP:=hid (fun(h:Qgp (.agg #[.bool n1,.string s1,.bool n2,.string s2]))=>show Qlc n1 s1/\Qlc n2 s2/\s1.size<=1024/\s2.size<=1024/\n2=false/\0<s2.size by
  obtain⟨q,e,k1,k2⟩:=h;obtain⟨rfl,rfl,rfl,rfl⟩:=Qcn e;refine⟨(Qrs _ (by omega)).1,?_,k1,k2,rfl,?_⟩
  .have:=(Qrs (q.den:Int) (by simp;omega)).1;rw[show decide ((q.den:Int)<0)=false by simp] at this;simpa using this
  .rcases Nat.eq_zero_or_pos (Qcj q.den).size with h0|h0
   .have:=(Qgw (Qgl q.den)).2 h0;rw[Qdq] at this;exact absurd this q.den_nz
   .exact h0)
 have HK:=hid (fun n s w=>Knc n s (Kry n s) Qli w)
 go_enter func105,Tryz.ntmps105
 go_wp2_with fail
 refine(HK.out n1 s1 _).mono ?_;rintro e w1 ⟨rfl,hb1⟩;obtain⟨e0,e1,e2,e3,_⟩:=Qgi w _ _ _ _ _ hb1;cases c1:Kry n1 s1
 .go_wp2
  go_ret
  exact⟨_,rfl,HF.out _ (fun hk=>by have:=Qli.2 (HP.out hk).1;rw[c1] at this;cases this),HAL.out.trans (hb1.mono (by simp))⟩
 .go_wp2_with fail
  refine(HK.out n2 s2 _).mono ?_;rintro e w2 ⟨rfl,hb2⟩;have hb12:=hb1.trans (hb2.mono hb1.size);clear e0 e1 e2 e3;obtain⟨e0,e1,e2,e3,_⟩:=Qgi w _ _ _ _ _ hb12;cases c2:Kry n2 s2
  .go_wp2
   go_ret
   exact⟨_,rfl,HF.out _ (fun hk=>by have:=Qli.2 (HP.out hk).2.1;rw[c2] at this;cases this),HAL.out.trans (hb12.mono (by simp))⟩
  .cases n2
   .rcases Nat.eq_zero_or_pos s2.size with h0|h0
    .have h00:=Qon h0;subst h00
     go_wp2
     all_goals go_ret
     all_goals exact⟨_,rfl,HF.out _ (fun hk=>by have:=(HP.out hk).2.2.2.2.2;exact absurd this (by decide)),HAL.out.trans (hb12.mono (by simp))⟩
    .have hne:s2.toList.isEmpty=false:=by
      have h2:s2.toList.length=s2.size:=by rw[ByteArray.toList_eq];simp
      cases h:s2.toList
      .rw[h] at h2;simp at h2;omega
      .rfl
     by_cases c3:(1024:Int)<(s1.size:Int)
     .go_wp2
      all_goals go_ret
      all_goals exact⟨_,rfl,HF.out _ (fun hk=>by have:=(HP.out hk).2.2.1;omega),HAL.out.trans (hb12.mono (by simp))⟩
     .by_cases c4:(1024:Int)<(s2.size:Int)
      .go_wp2
       all_goals go_ret
       all_goals exact⟨_,rfl,HF.out _ (fun hk=>by have:=(HP.out hk).2.2.2.1;omega),HAL.out.trans (hb12.mono (by simp))⟩
      .have hlt:w.heap.size<w2.heap.size:=by have:=hb12.size;simp at this;omega
       have HQ:=hid (And.intro (Qli.1 c1) (And.intro (Qli.1 c2) (And.intro h0 (HAL.out.trans (hb12.mono (by simp))))));clear c1 c2 hb1 hb2 hb12 HAL HK HP
       go_wp2_with fail
       obtain⟨zn,hzn⟩:∃ zn,zn=sgn n1 (Qgm s1):=⟨_,rfl⟩
       obtain⟨zd,hzd⟩:∃ zd,zd=sgn false (Qgm s2):=⟨_,rfl⟩
       have hN1:=fun w=>Qvx n1 s1 h1 w
       have hN2:=fun w=>Qvx false s2 h2 w
       rw[<-hzn] at hN1;rw[<-hzd] at hN2;have hd0:zd≠0:=fun h=>by
        have h3:Qgm s2=0:=by rw[hzd] at h;unfold sgn at h;simpa using h
        have:=(Qgw HQ.out.2.1.2).1 h3;omega
       have l1:(Qad zn.natAbs).length<=1024:=by rw[hzn,Qck];exact Nat.le_trans (Qnh rfl) (by omega)
       have l2:(Qad zd.natAbs).length<=1024:=by rw[hzd,Qck];exact Nat.le_trans (Qnh rfl) (by omega)
       have HI:=hid (fun q=>Kcc HQ.out.1 HQ.out.2.1 (q:=q));have HZ:=hid (And.intro hzn hzd);have hsz:s1.size<=1024/\s2.size<=1024:=by omega
       rw[<-hzn,<-hzd] at HI;have HG:=hid (And.intro hN1 (And.intro hN2 (And.intro hd0 (And.intro l1 (And.intro l2 hsz)))));have hBw:=HQ.out.2.2.2;clear hN1 hN2 hzn hzd hd0 l1 l2 hsz HQ;refine Qat [(.lit,[]),(.lit,[]),(.val,[]),(.lit,[]),(.lit,[]),(.val,[])]
        (Qfv [(2,Qce zn),(5,Qce zd)]) (by kernel_rfl) ?_ ?_ (by simp) (by simp) (by kernel_rfl)
       .exact Qbc (by simp[Qce.keeps])
       .repeat (refine⟨_,fun f w1 h1=>by(have d0:=ct h1 hlt e0;have d1:=ct h1 hlt e1;have d2:=ct h1 hlt e2;have d3:=ct h1 hlt e3;go_simp;rfl),?_⟩)
        simp only[Act.put,nrA,nrB,nrC,Nat.reduceAdd];refine⟨fun f w1 A1 k1 hA hN hd K hK=>by
         go_simp
         refine(HG.out.1 w1).mono ?_;rintro e w' ⟨v,rfl,hn⟩;exact hK _ _ hn.1 (hn.2 A1 hA),?_⟩
        repeat (refine⟨_,fun f w1 h1=>by(have d0:=ct h1 hlt e0;have d1:=ct h1 hlt e1;have d2:=ct h1 hlt e2;have d3:=ct h1 hlt e3;go_simp;rfl),?_⟩)
        simp only[Act.put,nrA,nrB,nrC,Nat.reduceAdd];refine⟨fun f w1 A1 k1 hA hN hd K hK=>by
         go_simp
         refine(HG.out.2.1 w1).mono ?_;rintro e w' ⟨v,rfl,hn⟩;exact hK _ _ hn.1 (hn.2 A1 hA),?_⟩
        intro f w3 k3 hF;have i1:Qce zn (f 2) w3 NoA:=hF.1.2;have i2:Qce zd (f 5) w3 NoA:=hF.2;clear hF;simp only[Act.put,nrA,nrB,nrC];generalize f 2=vn at *
        generalize f 5=vd at *
        have hb3:Below w.heap.size w w3:=hBw.trans ((br.drew.trans k3).mono hBw.size);clear e0 e1 e2 e3 hlt hBw k3;have hal:=(Below.refl w3.heap.size w3).alloc lr zR;have HS:=hid (Qfb w3.heap.size _ zn zd HG.out.2.2.1 vn vd NoA (w3.alloc zR) (heap_alloc_new w3 _) (by decide) Qcy (i1.below hal) (i2.below hal) (by have:=HG.out.2.2.2.1;omega) (by have:=HG.out.2.2.2.2.1;omega));have HJ:=hid (And.intro i1 (And.intro i2 hb3));clear i1 i2 hb3 hal
        go_wp2_with fail
        refine HS.out.mono ?_;rintro e w4 ⟨rfl,hp4⟩;obtain⟨q,hq⟩:∃ q,q=Rat.divInt zn zd:=⟨_,rfl⟩
        rw[<-hq] at hp4;have hr4:=(hp4.ratP (Qbu _)).noA;have hb34:Below w3.heap.size w3 w4:=Qhi hp4.1;have hql:RL q 1024:=by rw[hq];exact Qhy HG.out.2.2.1 HG.out.2.2.2.1 HG.out.2.2.2.2.1
        have HI2:=hid (fun q' (h:Value.agg #[.bool n1,.string s1,.bool false,.string s2]=Qgf q')=>show q'=q by rw[hq,HZ.out.1,HZ.out.2];exact(Qsn h).symm);have HN:=hid (Qxq q _ NoA w4 hr4 (hql.mono (by decide)));have HR4:=hid (And.intro hr4 (And.intro hb34 hql));clear HS hq hp4 hr4 hb34 hql
        go_wp2_with fail
        refine HN.out.mono ?_;rintro e w5 ⟨v5,rfl,hn5⟩;have HC:=hid (Qxn q.num zn v5 vn NoA w5 (hn5.2 NoA (Qbu _)) ((HJ.out.1.below HR4.out.2.1).below hn5.1) (by have:=HR4.out.2.2.1;omega) (by have:=HG.out.2.2.2.1;omega))
        go_wp2_with fail
        refine HC.out.mono ?_;rintro e w6 ⟨rfl,hb6⟩;have hb46:Below w4.heap.size w4 w6:=hn5.1.trans (hb6.mono hn5.1.size);clear HN HC hn5 hb6
        by_cases c5:Qhv q.num zn=0
        .have HD:=hid (Qnp q _ NoA w6 (HR4.out.1.below hb46) (HR4.out.2.2.mono (by decide)));rw[c5]
         go_wp2_with fail
         refine HD.out.mono ?_;rintro e w7 ⟨v7,rfl,hn7⟩;have hb47:=hb46.trans (hn7.1.mono hb46.size);have HC:=hid (Qxn q.den zd v7 vd NoA w7 (hn7.2 NoA (Qbu _)) ((HJ.out.2.1.below HR4.out.2.1).below hb47) (by have:=HR4.out.2.2.2;simp;omega) (by have:=HG.out.2.2.2.2.1;omega))
         go_wp2_with fail
         refine HC.out.mono ?_;rintro e w8 ⟨rfl,hb8⟩;have hb48:=hb47.trans (hb8.mono hb47.size);clear HD HC hn7 hb8 hb47
         by_cases c6:Qhv q.den zd=0
         .rw[c6]
          go_wp2
          go_ret
          have he:=(HI.out q).2 ⟨Qns.1 c5,Qns.1 c6⟩;obtain⟨_,a,_,b⟩:=Qcn he;refine⟨_,rfl,.inr ⟨q,he,⟨q,he,?_,?_⟩,w3.heap.size,rfl,HJ.out.2.2.size,HR4.out.1.below hb48⟩,HJ.out.2.2.trans ((HR4.out.2.1.trans (hb48.mono HR4.out.2.1.size)).mono HJ.out.2.2.size)⟩
          .rw[<-a];exact HG.out.2.2.2.2.2.1
          .rw[<-b];exact HG.out.2.2.2.2.2.2
         .have hc6:(Qhv q.den zd != 0)=true:=by simpa using c6
          go_wp2
          all_goals go_ret
          all_goals exact⟨_,rfl,HF.out _ (fun hk=>by
           obtain⟨q',hq',_⟩:=hk;have:=HI2.out q' hq';subst this;exact c6 (Qns.2 ((HI.out q').1 hq').2)),HJ.out.2.2.trans ((HR4.out.2.1.trans (hb48.mono HR4.out.2.1.size)).mono HJ.out.2.2.size)⟩
        .have hc5:(Qhv q.num zn != 0)=true:=by simpa using c5
         go_wp2
         all_goals go_ret
         all_goals exact⟨_,rfl,HF.out _ (fun hk=>by
          obtain⟨q',hq',_⟩:=hk;have:=HI2.out q' hq';subst this;exact c5 (Qns.2 ((HI.out q').1 hq').1)),HJ.out.2.2.trans ((HR4.out.2.1.trans (hb46.mono HR4.out.2.1.size)).mono HJ.out.2.2.size)⟩
   .go_wp2
    all_goals go_ret
    all_goals exact⟨_,rfl,HF.out _ (fun hk=>by have:=(HP.out hk).2.2.2.2.1;cases this),HAL.out.trans (hb12.mono (by simp))⟩
abbrev Un(A0 A:Nat->Prop):Nat->Prop:=fun b=>A b\/A0 b
def Qfj{A0 A:Nat->Prop}{w:World}(h0:Rcv A0 w)(h:Rcv A w):Rcv (Un A0 A) w:=fun b hb=>hb.elim (h b) (h0 b)
def Qbd(A0:Nat->Prop)(R:Qcp):Qcp:=fun v w A=>R v w (Un A0 A)
def Qbd.keeps{A0:Nat->Prop}{R:Qcp}(h:R.Keeps):(Qbd A0 R).Keeps:=by
 intro v w w' A A' hs hk hR;refine h v w w' _ _ hs (fun b hb hn=>?_) hR;obtain⟨k1,k2⟩:=hk b hb (fun h=>hn (.inl h));exact⟨k1,fun h=>h.elim k2 (fun h=>hn (.inr h))⟩
def Qbd.start{A0:Nat->Prop}{R:Qcp}(h:R.Keeps){v:Value}{w:World}(hR:R v w A0):Qbd A0 R v w NoA :=
 h v w w A0 _ lr (fun b _ hn=>⟨rfl,fun h=>h.elim (fun h=>h.elim) hn⟩) hR
def Qbd.done{A0:Nat->Prop}{R:Qcp}(h:R.Keeps){v:Value}{w:World}(hR:Qbd A0 R v w NoA):R v w A0 :=
 h v w w _ A0 lr (fun b _ hn=>⟨rfl,fun h=>hn (.inr h)⟩) hR
def Qml.ratU{m base:Nat}{q:Rat}{w w':World}(h:Qml m q w w'){A0 A:Nat->Prop}(hA0:Rcv A0 w)(hA:Rcv A w)(hm:base<=m)(h0:∀ b,A0 b->b<base):Qbd A0 (Qbl q) (.pointer (some ⟨m,0,none⟩)) w' (fun b=>A b/\b≠m) :=
 (h.ratP (Qfj hA0 hA)).wider fun b hb=>hb.elim (fun h=>⟨.inl h.1,h.2⟩) (fun h=>⟨.inr h,fun e=>by have:=h0 b h;omega⟩)
def Qfe(q:Rat):Qcp:=fun v w A=>(v=.pointer none/\q=0)\/Qbl q v w A
def Qfe.keeps(q:Rat):(Qfe q).Keeps:=fun v w w' A A' hs hk h=>h.imp id (Qbl.keeps q v w w' A A' hs hk)
def Qfe.below{q:Rat}{v:Value}{w w':World}{A:Nat->Prop}(h:Qfe q v w A)(hb:Below w.heap.size w w'):Qfe q v w' A:=Qcp.Keeps.below (Qfe.keeps q) hb h
def Qbl.zero{m:Nat}{w:World}{A:Nat->Prop}(h:w.heap[m]?=some zR)(hA:¬A m):Qbl 0 (.pointer (some ⟨m,0,none⟩)) w A:=by
 have hlt:=(Array.getElem?_eq_some_iff.1 h).1;have hn:Qkv A w (.slice none 0 0) (Qad 0):=by rw[Qax];exact⟨none,0,rfl,Nat.le_refl _,fun h=>absurd rfl h⟩
 refine⟨m,rfl,⟨m,0,.slice none 0 0,rfl,hlt,hA,by simp[World.cell?,h],by simp[World.cell?,h],hn⟩,.inr ⟨rfl,m,2,.slice none 0 0,rfl,hlt,hA,by simp[World.cell?,h],by simp[World.cell?,h],hn⟩⟩
def Qes(q:Rat)(v:Value)(A:Nat->Prop)(w:World)(hx:Qfe q v w A)(hA:Rcv A w) :
  Calls prog 167 #[v] w fun e w'=>∃ u,e=.returned u/\Below w.heap.size w w'/\Qbl q u w' A:=by
 rcases hx with⟨rfl,rfl⟩|hx
 .have hb:=(Below.refl w.heap.size w).alloc lr zR
  go_enter func167,Tryz.ntmps167
  go_wp2
  go_ret
  exact⟨_,rfl,hb,Qbl.zero (heap_alloc_new w _) (fun h=>by have:=hA.lt h;omega)⟩
 .obtain⟨b,rfl⟩:=hx.shape;have HX:=hid hx;clear hx
  go_enter func167,Tryz.ntmps167
  go_wp2
  go_ret
  exact⟨_,rfl,Below.refl _ _,HX.out⟩
def Qhw(x y:Rat)(vx vy:Value)(A:Nat->Prop)(w:World)(hx:Qfe x vx w A)(hy:Qfe y vy w A)(hA:Rcv A w)(k l:Nat)(hlx:RL x k)(hly:RL y l)(hkl:k+l<137438953472) :
  Calls prog 196 #[vx,vy] w fun e w'=>∃ u,e=.returned u/\Below w.heap.size w w'/\Qbl (x*y) u w' A:=by
 have hal:=(Below.refl w.heap.size w).alloc lr zR;have HA:=hid (And.intro hA hal);have H1:=hid (Qes x vx A (w.alloc zR) (hx.below hal) (hA.below hal));have HY:=hid hy;clear hx hy hal hA
 go_enter func196,Tryz.ntmps196
 go_wp2_with fail
 refine H1.out.mono ?_;rintro e w1 ⟨u1,rfl,hb1,hr1⟩;have hb01:Below w.heap.size w w1:=HA.out.2.trans (hb1.mono (by simp));have H2:=hid (Qes y vy A w1 (HY.out.below hb01) (HA.out.1.below hb01));have HR1:=hid hr1;clear hr1
 go_wp2_with fail
 refine H2.out.mono ?_;rintro e w2 ⟨u2,rfl,hb2,hr2⟩;have hm:w2.heap[w.heap.size]?=some zR:=(hb2.block _ (by have:=hb1.size;simp at this;omega)).trans ((hb1.block _ (by simp)).trans (heap_alloc_new w _));have HM:=hid (Kif w.heap.size _ x y u1 u2 A w2 hm (by decide) Qcy (HR1.out.below hb2) hr2 k l hlx hly hkl);have HB:=hid (hb01.trans (hb2.mono hb01.size));clear H1 H2 HR1 hb1 hb2 hb01 hr2 hm
 go_wp2_with fail
 refine HM.out.mono ?_;rintro e w3 ⟨rfl,hp⟩;have hn:=hp.newAt HB.out lr;have HN:=hid hn;clear hn hp HM
 go_wp2
 go_ret
 exact⟨_,rfl,HN.out.1,HN.out.2 A HA.out.1⟩
def Qir(a b:Rat):Qcp:=fun v w A=>∃ u1 u2,v=.agg #[u1,u2]/\Qfe a u1 w A/\Qfe b u2 w A
def Qir.keeps(a b:Rat):(Qir a b).Keeps:=fun v w w' A A' hs hk ⟨u1,u2,h1,h2,h3⟩=>⟨u1,u2,h1,Qfe.keeps a _ _ _ _ _ hs hk h2,Qfe.keeps b _ _ _ _ _ hs hk h3⟩
def Qir.below{a b:Rat}{v:Value}{w w':World}{A:Nat->Prop}(h:Qir a b v w A)(hb:Below w.heap.size w w'):Qir a b v w' A:=Qcp.Keeps.below (Qir.keeps a b) hb h
abbrev Mo(A:Nat->Prop)(n:Nat):Nat->Prop:=fun b=>A b\/b=n
def Qiw(R:Qcp)(hR:R.Keeps){n o:Nat}{A:Nat->Prop}{x y:Value}{w:World}(h:R x w (Mo A n)):R x (w.setCell ⟨n,o,none⟩ y) (Mo A n) :=
 hR _ _ _ _ _ (by simp[World.setCell]) (fun b _ hn=>⟨Below.heap_setCell _ _ _ _ (fun e=>hn (.inr e)),hn⟩) h
def Qoc(R:Qcp)(hR:R.Keeps){n:Nat}{A:Nat->Prop}{x:Value}{w:World}(h:R x w (Mo A n)):R x w A :=
 hR _ _ _ _ _ lr (fun b _ hn=>⟨rfl,fun h=>hn (.inl h)⟩) h
def Qqc{a b:Rat}{v1 v2:Value}{w w1:World}{A:Nat->Prop}{n:Nat}(hb:Below w.heap.size w w1)(h1:Qbl a v1 w1 (Mo A n))(h2:Qbl b v2 w1 (Mo A n))(hn:w.heap.size<=n) :
  ∃ u,Ending.returned (.agg #[v1,v2])=.returned u/\Below w.heap.size w ((w1.setCell ⟨n,0,none⟩ v1).setCell ⟨n,1,none⟩ v2)/\Qir a b u ((w1.setCell ⟨n,0,none⟩ v1).setCell ⟨n,1,none⟩ v2) A:=by
 refine⟨_,rfl,(hb.setCell (p:=⟨n,0,none⟩) hn _).setCell (p:=⟨n,1,none⟩) hn _,v1,v2,rfl,.inr ?_,.inr ?_⟩
 .exact Qoc _ (Qbl.keeps a) (Qiw _ (Qbl.keeps a) (Qiw _ (Qbl.keeps a) h1))
 .exact Qoc _ (Qbl.keeps b) (Qiw _ (Qbl.keeps b) (Qiw _ (Qbl.keeps b) h2))
def Qds{R:Qcp}(hR:R.Keeps){n:Nat}{A:Nat->Prop}{x:Value}{w w1:World}(hb:Below w.heap.size w w1)(hn:w.heap.size<=n)(h:R x w A):Qbd (Mo A n) R x w1 NoA :=
 hR _ _ _ _ _ hb.size (fun b hlt hna=>⟨hb.block b hlt,fun h=>h.elim (fun h=>h) (fun h=>h.elim hna (fun e=>by omega))⟩) h
def Qyn(v1 v2:Value)(h1:∃ p,v1=.pointer p)(h2:∃ p,v2=.pointer p)(T:TypeId):NoW (.cells #[v1,v2] T (0,0)):=by
 obtain⟨p,rfl⟩:=h1;obtain⟨q,rfl⟩:=h2;intro cs T fr e i k x;cases e;rcases i with _|_|i<;>simp
def Kre(w:World)(u1 u2:Value)(A:Nat->Prop)(hA:Rcv A w) :
  ∃ W,Hid (W=(w.alloc (.cells #[u1,u2] 96)).alloc (.cells #[.pointer none,.pointer none] 96)/\Below w.heap.size w W/\Rcv (Mo A (w.heap.size+1)) W/\∀ w1,Below W.heap.size W w1->w1.cell? ⟨w.heap.size+1,0,none⟩=some (.pointer none)/\w1.cell? ⟨w.heap.size+1,1,none⟩=some (.pointer none)/\w1.frozen? ⟨w.heap.size+1,0,none⟩=false/\w1.frozen? ⟨w.heap.size+1,1,none⟩=false)/\w.heap.size<W.heap.size/\W.cell? ⟨w.heap.size,0,none⟩=some u1/\W.cell? ⟨w.heap.size,1,none⟩=some u2:=by
 have hb1:=(Below.refl (w.alloc (.cells #[u1,u2] 96)).heap.size (w.alloc (.cells #[u1,u2] 96))).alloc lr (.cells #[.pointer none,.pointer none] 96);have hb:Below w.heap.size w ((w.alloc (.cells #[u1,u2] 96)).alloc (.cells #[.pointer none,.pointer none] 96)):=(br.alloc lr _).alloc (by simp) _;obtain⟨e0,e1,_⟩:=Qid w u1 u2 96 hb1;have hz:(w.alloc (.cells #[u1,u2] 96)).heap.size=w.heap.size+1:=by simp
 have hn:=heap_alloc_new (w.alloc (.cells #[u1,u2] 96)) (.cells #[.pointer none,.pointer none] 96 (0,0));rw[hz] at hn;refine⟨_,hid ⟨rfl,hb,fun b h=>h.elim (fun h=>(hA.below hb) b h) (fun h=>by subst h;exact⟨_,hn,Qyn _ _ ⟨_,rfl⟩ ⟨_,rfl⟩ _⟩),fun w1 h=>?_⟩,by simp;omega,e0,e1⟩;have:=Qid (w.alloc (.cells #[u1,u2] 96)) (.pointer none) (.pointer none) 96 h;rw[hz] at this;exact this
def Kmp(a b s:Rat)(v vs:Value)(A:Nat->Prop)(w:World)(hv:Qir a b v w A)(hs:Qfe s vs w A)(hA:Rcv A w)(k l:Nat)(hla:RL a k)(hlb:RL b k)(hls:RL s l)(hkl:k+l<137438953472) :
  Calls prog 118 #[v,vs] w fun e w'=>∃ u,e=.returned u/\Below w.heap.size w w'/\Qir (a*s) (b*s) u w' A:=by
 obtain⟨u1,u2,rfl,h1,h2⟩:=hv;obtain⟨W,HV,hs2,e0,e1⟩:=Kre w u1 u2 A hA;have h1:=Qds (Qfe.keeps a) (n:=w.heap.size+1) HV.out.2.1 (by omega) h1;have h2:=Qds (Qfe.keeps b) (n:=w.heap.size+1) HV.out.2.1 (by omega) h2;have hs:=Qds (Qfe.keeps s) (n:=w.heap.size+1) HV.out.2.1 (by omega) hs;clear hA
 go_enter func118,Tryz.ntmps118
 go_wp2_with fail
 rw[<-HV.out.1];refine Qat [(.lit,[]),(.lit,[]),(.lit,[]),(.val,[]),(.lit,[]),(.lit,[]),(.lit,[]),(.val,[])]
  (Qfv [(3,Qbd (Mo A (w.heap.size+1)) (Qbl (a*s))),(7,Qbd (Mo A (w.heap.size+1)) (Qbl (b*s)))]) (by kernel_rfl) ?_ ?_ (by simp) (by simp) (by kernel_rfl)
 .exact Qbc (by simp only[List.mem_cons,List.not_mem_nil,or_false];rintro p (rfl|rfl)<;>exact Qbd.keeps (Qbl.keeps _))
 .repeat (refine⟨_,fun f w1 h1=>by(have d0:=ct h1 hs2 e0;have d1:=ct h1 hs2 e1;go_simp;rfl),?_⟩)
  simp only[Act.put,nrA,nrB,nrC,Nat.reduceAdd];refine⟨fun f w1 A1 k1 hA hN hd K hK=>by
   go_simp
   refine(Qhw a s u1 vs (Un (Mo A (w.heap.size+1)) A1) w1 (Qdp (Qbd.keeps (Qfe.keeps _)) h1 k1 hN) (Qdp (Qbd.keeps (Qfe.keeps _)) hs k1 hN) (Qfj (HV.out.2.2.1.below (br.drew.trans k1)) hA) k l hla hls hkl).mono ?_;rintro e w' ⟨v,rfl,hb,hr⟩;exact hK _ _ hb hr,?_⟩
  repeat (refine⟨_,fun f w1 h1=>by(have d0:=ct h1 hs2 e0;have d1:=ct h1 hs2 e1;go_simp;rfl),?_⟩)
  simp only[Act.put,nrA,nrB,nrC,Nat.reduceAdd];refine⟨fun f w1 A1 k1 hA hN hd K hK=>by
   go_simp
   refine(Qhw b s u2 vs (Un (Mo A (w.heap.size+1)) A1) w1 (Qdp (Qbd.keeps (Qfe.keeps _)) h2 k1 hN) (Qdp (Qbd.keeps (Qfe.keeps _)) hs k1 hN) (Qfj (HV.out.2.2.1.below (br.drew.trans k1)) hA) k l hlb hls hkl).mono ?_;rintro e w' ⟨v,rfl,hb,hr⟩;exact hK _ _ hb hr,?_⟩
  intro f w1 k1 hF;have i1:Qbl (a*s) (f 3) w1 (Mo A (w.heap.size+1)):=Qbd.done (Qbl.keeps _) hF.1.2;have i2:Qbl (b*s) (f 7) w1 (Mo A (w.heap.size+1)):=Qbd.done (Qbl.keeps _) hF.2;clear hF;simp only[Act.put,nrA,nrB,nrC];generalize f 3=v1 at *
  generalize f 7=v2 at *
  have hb1:Below W.heap.size W w1:=br.drew.trans k1;obtain⟨c0,c1,f0,f1⟩:=HV.out.2.2.2 w1 hb1;have hbw:=HV.out.2.1.trans (hb1.mono HV.out.2.1.size);have HE:=hid (And.intro i1 (And.intro i2 hbw));obtain⟨m1,rfl⟩:=i1.shape;obtain⟨m2,rfl⟩:=i2.shape;clear e0 e1 h1 h2 hs i1 i2 hbw hb1 k1
  go_wp2_with fail
  refine bodyPost_ret (v:=.agg #[.pointer (some ⟨m1,0,none⟩),.pointer (some ⟨m2,0,none⟩)]) (by simp[results,Tryz.results118,go_sem,c0,c1]) rfl ?_;exact Qqc HE.out.2.2 HE.out.1 HE.out.2.1 (by omega)
