/- Laws for the walk. -/
import Derived.Test.YtjlhiaafnpompaaGreatZbl
set_option linter.unusedVariables false
set_option maxHeartbeats 4000000
namespace Go.Proofs.YtjlhiaafnpompaaGreat
open Go.RowKit Tr
open Classical
def rM(q:Q4)(t:Bool):RawM:=⟨rawQ q.1,rawQ q.2.1,rawQ q.2.2.1,rawQ q.2.2.2,t⟩
theorem rM_one{q:Q4}{t:Bool}:rM q t=oneM↔q=q1∧t=false:=by
 obtain⟨a,b,c,d⟩:=q
 simp only[rM,oneM,q1,RawM.mk.injEq,rawQ_inj,Prod.mk.injEq,and_assoc]
theorem ordS_le(s:QC):ordS s=0∧(s≠⟨0,0⟩∧s≠⟨1,0⟩∧s≠⟨2,0⟩∧s≠⟨3,0⟩)∨ordS s=2∧s=⟨0,0⟩∨ordS s=3∧s=⟨1,0⟩∨ordS s=4∧s=⟨2,0⟩∨ordS s=6∧s=⟨3,0⟩:=by
 unfold ordS
 by_cases h0:s=⟨0,0⟩
 ·rw[if_pos h0]; exact .inr (.inl ⟨rfl,h0⟩)
 rw[if_neg h0]
 by_cases h1:s=⟨1,0⟩
 ·rw[if_pos h1]; exact .inr (.inr (.inl ⟨rfl,h1⟩))
 rw[if_neg h1]
 by_cases h2:s=⟨2,0⟩
 ·rw[if_pos h2]; exact .inr (.inr (.inr (.inl ⟨rfl,h2⟩)))
 rw[if_neg h2]
 by_cases h3:s=⟨3,0⟩
 ·rw[if_pos h3]; exact .inr (.inr (.inr (.inr ⟨rfl,h3⟩)))
 ·rw[if_neg h3]; exact .inl ⟨rfl,h0,h1,h2,h3⟩
theorem chain_ord{s:QC}{f:FuncId}{fa:List FR}{r2 r3 r4 r6 r0:FV}(A:SpecC Tryz.prog true f fa (if s=⟨0,0⟩ then r2 else if s=⟨1,0⟩ then r3 else if s=⟨2,0⟩ then r4 else if s=⟨3,0⟩ then r6 else r0)) :
  SpecC Tryz.prog true f fa (if ordS s=2 then r2 else if ordS s=3 then r3 else if ordS s=4 then r4 else if ordS s=6 then r6 else r0):=by
 rcases ordS_le s with⟨e,h0,h1,h2,h3⟩|⟨e,h⟩|⟨e,h⟩|⟨e,h⟩|⟨e,h⟩
 ·rw[e]; rw[if_neg h0,if_neg h1,if_neg h2,if_neg h3] at A; exact A
 ·rw[e]; rw[if_pos h] at A; exact A
 ·rw[e]; rw[if_neg (by rw[h]; decide +kernel),if_pos h] at A; exact A
 ·rw[e]; rw[if_neg (by rw[h]; decide +kernel),if_neg (by rw[h]; decide +kernel),if_pos h] at A; exact A
 ·rw[e]; rw[if_neg (by rw[h]; decide +kernel),if_neg (by rw[h]; decide +kernel),if_neg (by rw[h]; decide +kernel),if_pos h] at A; exact A
theorem scal_mp{a b c d:QC}(h:Scal (a,b,c,d))(k:Nat):Scal (mp a b c d k):=by
 obtain⟨h1,h2,h3⟩:=h
 simp only at h1 h2 h3
 subst h1; subst h2; subst h3
 rw[mp_rp]
 refine⟨?_,?_,rfl⟩<;>simp only<;>exact qmul0.2 (.inr rfl)
theorem qcomm(x y:QC):x*y=y*x:=by apply qc_ext<;>simp only[qmr,qmi]<;>grind
theorem sdet{a b c d:QC}(hd:¬(((a*d) - (b*c))=(⟨0,0⟩:QC))):e1 a b c d*(a*d - b*c)=(a+d)*(a+d):=by
 rw[qcomm]; exact qdm hd
abbrev OrdC(q:Q4)(t:Bool)(n:Nat):Prop:=SpecC Tryz.prog true 12 [.row (cM (rM q t))] (.tup [.c (gx (.int .i64 (n:Int))),.c (gl (.int .i64 0))])
abbrev KindC(q:Q4)(t:Bool)(k:Int):Prop:=SpecC Tryz.prog true 11 [.row (cM (rM q t))] (.tup [.c (gx (.int .i64 k)),.c (gl (.int .i64 0))])
theorem ordF{a b c d:QC}(hm:MapOk (a,b,c,d)):∃ n:Nat,n≤12∧OrdC (a,b,c,d) false n∧(∀ k,k<12→(Scal (mp a b c d k)↔0<n∧(k+1) % n=0))∧(n=1↔Scal (a,b,c,d))∧(2≤n→e1 a b c d=⟨0,0⟩∨e1 a b c d=⟨1,0⟩∨e1 a b c d=⟨2,0⟩∨e1 a b c d=⟨3,0⟩):=by
 obtain⟨⟨ha,hb,hc,hd⟩,hn,hdt⟩:=hm
 have A:=fOrder a b c d ha hb hc hd hdt hn
 by_cases hs:b=⟨0,0⟩∧c=⟨0,0⟩∧a=d
 ·exact⟨1,by decide,((A.t hs.1).t hs.2.1).t hs.2.2,fun k _=>⟨fun _=>⟨by decide,Nat.mod_one _⟩,fun _=>scal_mp hs k⟩,⟨fun _=>hs,fun _=>rfl⟩,fun h=>absurd h (by decide)⟩
 have P:∀ k,k<12→(Scal (mp a b c d k)↔ordS (e1 a b c d)≠0∧(k+1) % ordS (e1 a b c d)=0):=fun k hk=>still_pow (s:=e1 a b c d) hs hdt (sdet hdt) k hk
 have A:=chain_ord (show SpecC _ _ _ _ (if(e1 a b c d)=⟨0,0⟩ then _ else if(e1 a b c d)=⟨1,0⟩ then _ else if(e1 a b c d)=⟨2,0⟩ then _ else if(e1 a b c d)=⟨3,0⟩ then _ else _) from by
  by_cases k1:b=⟨0,0⟩
  ·have A:=A.t k1
   by_cases k2:c=⟨0,0⟩
   ·exact(A.t k2).f (fun k3=>hs ⟨k1,k2,k3⟩)
   ·exact A.f k2
  ·exact A.f k1)
 suffices ∃ n:Nat,ordS (e1 a b c d)=n∧n≠1∧n≤12∧OrdC (a,b,c,d) false n∧(2≤n→e1 a b c d=⟨0,0⟩∨e1 a b c d=⟨1,0⟩∨e1 a b c d=⟨2,0⟩∨e1 a b c d=⟨3,0⟩) from by
  obtain⟨n,e,h1,h12,hC,h2⟩:=this
  exact⟨n,h12,hC,fun k hk=>by rw[P k hk,e]; constructor<;>rintro⟨x,y⟩<;>exact⟨by omega,y⟩,⟨fun h=>absurd h h1,fun h=>absurd h hs⟩,h2⟩
 rcases ordS_le (e1 a b c d) with⟨e,_⟩|⟨e,h⟩|⟨e,h⟩|⟨e,h⟩|⟨e,h⟩
 ·rw[e] at A; exact⟨0,e,by decide,by decide,A,fun h=>absurd h (by decide)⟩
 ·rw[e] at A; exact⟨2,e,by decide,by decide,A,fun _=>.inl h⟩
 ·rw[e] at A; exact⟨3,e,by decide,by decide,A,fun _=>.inr (.inl h)⟩
 ·rw[e] at A; exact⟨4,e,by decide,by decide,A,fun _=>.inr (.inr (.inl h))⟩
 ·rw[e] at A; exact⟨6,e,by decide,by decide,A,fun _=>.inr (.inr (.inr h))⟩
theorem ordT{a b c d:QC}(hm:MapOk (a,b,c,d)):∃ n:Nat,n≤12∧OrdC (a,b,c,d) true n∧(∀ k,k<12→((k % 2=1∧Scal (mtn a b c d k))↔0<n∧(k+1) % n=0))∧n≠1:=by
 obtain⟨⟨ha,hb,hc,hd⟩,hn,hdt⟩:=hm
 have ht:¬((((tA a b c d)*(tD a b c d)) - ((tB a b c d)*(tC a b c d)))=(⟨0,0⟩:QC)):=dq_stp (t:=true) (p:=(a,b,c,d)) hdt hdt
 have A:=fOrderT a b c d ha hb hc hd hdt hn ht
 have Q:∀ k,k % 2=1→mtn a b c d k=mp (tA a b c d) (tB a b c d) (tC a b c d) (tD a b c d) (k / 2):=fun k hk=>by
  have h:=mtn_mp a b c d (k / 2)
  rw[show 2*(k / 2)+1=k by omega] at h
  exact h
 by_cases hs:tB a b c d=⟨0,0⟩∧tC a b c d=⟨0,0⟩∧tA a b c d=tD a b c d
 ·refine⟨2,by decide,((A.t hs.1).t hs.2.1).t hs.2.2,fun k _=>⟨fun h=>⟨by decide,by omega⟩,fun h=>?_⟩,by decide⟩
  have hk:k % 2=1:=by omega
  exact⟨hk,by rw[Q k hk]; exact scal_mp hs _⟩
 have P:∀ k,k<12→(Scal (mp (tA a b c d) (tB a b c d) (tC a b c d) (tD a b c d) k)↔ordS (e2 a b c d)≠0∧(k+1) % ordS (e2 a b c d)=0):=fun k hk=>still_pow (s:=e2 a b c d) hs ht (sdet ht) k hk
 have A:=chain_ord (show SpecC _ _ _ _ (if(e2 a b c d)=⟨0,0⟩ then _ else if(e2 a b c d)=⟨1,0⟩ then _ else if(e2 a b c d)=⟨2,0⟩ then _ else if(e2 a b c d)=⟨3,0⟩ then _ else _) from by
  by_cases k1:tB a b c d=⟨0,0⟩
  ·have A:=A.t k1
   by_cases k2:tC a b c d=⟨0,0⟩
   ·exact(A.t k2).f (fun k3=>hs ⟨k1,k2,k3⟩)
   ·exact A.f k2
  ·exact A.f k1)
 have P2:∀ k,k<12→((k % 2=1∧Scal (mtn a b c d k))↔k % 2=1∧ordS (e2 a b c d)≠0∧(k / 2+1) % ordS (e2 a b c d)=0):=fun k hk=>and_congr_right fun hk2=>by
  rw[Q k hk2]; exact P (k / 2) (by omega)
 rcases ordS_le (e2 a b c d) with⟨e,_⟩|⟨e,h⟩|⟨e,h⟩|⟨e,h⟩|⟨e,h⟩
 ·rw[e] at A; exact⟨0,by decide,A,fun k hk=>by rw[P2 k hk,e]; omega,by decide⟩
 ·rw[e] at A; exact⟨4,by decide,A,fun k hk=>by rw[P2 k hk,e]; omega,by decide⟩
 ·rw[e] at A; exact⟨6,by decide,A,fun k hk=>by rw[P2 k hk,e]; omega,by decide⟩
 ·rw[e] at A; exact⟨8,by decide,A,fun k hk=>by rw[P2 k hk,e]; omega,by decide⟩
 ·rw[e] at A; exact⟨12,by decide,A,fun k hk=>by rw[P2 k hk,e]; omega,by decide⟩
theorem kindF{a b c d:QC}(hm:MapOk (a,b,c,d)):∃ q:Int,KindC (a,b,c,d) false q∧q≠6∧(q=1↔(a=(⟨1,0⟩:QC)∧b=(⟨0,0⟩:QC)∧c=(⟨0,0⟩:QC)∧d=(⟨1,0⟩:QC))) ∧
  ((e1 a b c d=⟨0,0⟩∨e1 a b c d=⟨1,0⟩∨e1 a b c d=⟨2,0⟩∨e1 a b c d=⟨3,0⟩)→q≠1→q=3):=by
 obtain⟨⟨ha,hb,hc,hd⟩,hn,hdt⟩:=hm
 have A:=fKind a b c d ha hb hc hd hdt hn
 by_cases h1:(a=(⟨1,0⟩:QC)∧b=(⟨0,0⟩:QC)∧c=(⟨0,0⟩:QC)∧d=(⟨1,0⟩:QC))
 ·exact⟨1,A.t h1,by decide,⟨fun _=>h1,fun _=>rfl⟩,fun _ h=>absurd rfl h⟩
 have A:=A.f h1
 by_cases he:e1 a b c d=⟨0,0⟩∨e1 a b c d=⟨1,0⟩∨e1 a b c d=⟨2,0⟩∨e1 a b c d=⟨3,0⟩
 ·refine⟨3,?_,by decide,⟨fun h=>absurd h (by decide),fun h=>absurd h h1⟩,fun _ _=>rfl⟩
  rcases he with h|h|h|h<;>rw[h] at A<;>exact(((A.t (by decide +kernel)).f (by decide +kernel)).t (by decide +kernel)).t (by decide +kernel)
 suffices ∃ q:Int,KindC (a,b,c,d) false q∧q≠6∧q≠1 from by
  obtain⟨q,hq,k6,k1⟩:=this
  exact⟨q,hq,k6,⟨fun h=>absurd h k1,fun h=>absurd h h1⟩,fun h=>absurd h he⟩
 by_cases i1:(((e1 a b c d).im).num.sign)=0
 ·have A:=A.t i1
  by_cases i2:(cmpR ((e1 a b c d).re) (4:Rat))=0
  ·exact⟨2,A.t i2,by decide,by decide⟩
  have A:=A.f i2
  by_cases i3:(cmpR ((e1 a b c d).re) (4:Rat))=(-1)
  ·have A:=A.t i3
   by_cases i4:(((e1 a b c d).re).num.sign)≥0
   ·exact⟨3,A.t i4,by decide,by decide⟩
   have A:=A.f i4
   by_cases i5:(cmpR ((e1 a b c d).re) (4:Rat))=1
   ·exact⟨4,A.t i5,by decide,by decide⟩
   ·exact⟨5,A.f i5,by decide,by decide⟩
  have A:=A.f i3
  by_cases i5:(cmpR ((e1 a b c d).re) (4:Rat))=1
  ·exact⟨4,A.t i5,by decide,by decide⟩
  ·exact⟨5,A.f i5,by decide,by decide⟩
 ·exact⟨5,A.f i1,by decide,by decide⟩
theorem kindT{a b c d:QC}(hm:MapOk (a,b,c,d)):KindC (a,b,c,d) true 6:=by
 obtain⟨⟨ha,hb,hc,hd⟩,hn,hdt⟩:=hm
 exact fKindT a b c d ha hb hc hd hdt hn
section
variable(t:Bool)(m:Q4)
def sX:Nat→Q4
 | 0=>m
 | k+1=>nm4 (stp t m.1 m.2.1 m.2.2.1 m.2.2.2 (sX k))
def sU:Nat→Bool
 | 0=>t
 | k+1=>(t != sU k)
end
theorem sU_f:∀ k,sU false k=false
 | 0=>rfl
 | k+1=>by unfold sU; rw[sU_f k]; rfl
theorem sU_t:∀ k,sU true k=decide (k % 2=0)
 | 0=>rfl
 | k+1=>by
  unfold sU; rw[sU_t k]
  by_cases h:k % 2=0
  ·rw[decide_eq_true h,decide_eq_false (by omega)]; rfl
  ·rw[decide_eq_false h,decide_eq_true (by omega)]; rfl
theorem sX_dq{t:Bool}{m:Q4}(h:MapOk m):∀ k,dq (sX t m k)≠⟨0,0⟩
 | 0=>h.2.2
 | k+1=>nm4_dq (dq_stp h.2.2 (sX_dq h k))
theorem sX_nf{t:Bool}{m:Q4}(h:MapOk m):∀ k,Nf (sX t m k)
 | 0=>h.2.1
 | k+1=>nm4_nf (dq_stp h.2.2 (sX_dq h k))
theorem sX_one{t:Bool}{m:Q4}(h:MapOk m)(k:Nat):Scal (pw t m.1 m.2.1 m.2.2.1 m.2.2.2 k)↔sX t m k=q1:=by
 obtain⟨u,hu,e⟩:=pow_chain (t:=t) (a:=m.1) (b:=m.2.1) (c:=m.2.2.1) (d:=m.2.2.2) (X:=sX t m) (n:=k) rfl (fun i _ =>
  ⟨_,by4_ne (dq_stp h.2.2 (sX_dq h i)),nm4_smul (dq_stp (t:=t) h.2.2 (sX_dq h i))⟩) k (Nat.le_refl _)
 exact one_scal hu e (sX_nf h k)
def zMr:RawM:=⟨zeroG,zeroG,zeroG,zeroG,false⟩
theorem compRaw{t u:Bool}{m p:Q4}(hm:MapOk m)(hp:MapOk p):∃(y:RawM) (e:Int),CompC (rM m t) (rM p u) y e ∧
  (Sh4 (nm4 (stp t m.1 m.2.1 m.2.2.1 m.2.2.2 p))→y=rM (nm4 (stp t m.1 m.2.1 m.2.2.1 m.2.2.2 p)) (t != u)∧e=0)∧(¬Sh4 (nm4 (stp t m.1 m.2.1 m.2.2.1 m.2.2.2 p))→e=4):=by
 have A:=eComp2 t u m p hm hp
 by_cases h:Sh4 (nm4 (stp t m.1 m.2.1 m.2.2.1 m.2.2.2 p))
 ·exact⟨rM (nm4 (stp t m.1 m.2.1 m.2.2.1 m.2.2.2 p)) (t != u),0,A.t h,fun _=>⟨rfl,rfl⟩,fun k=>absurd h k⟩
 ·exact⟨zMr,4,A.f h,fun k=>absurd k h,fun _=>rfl⟩
noncomputable def stg(t:Bool){m:Q4}(hm:MapOk m)(n:Nat)(i:Nat):Stg :=
 if h:MapOk (sX t m i) then⟨rM m t,n,min (i+1) 13,rM (sX t m i) (sU t i),_,_,by omega,(compRaw (t:=t) (u:=sU t i) hm h).choose_spec.choose_spec.1⟩
 else⟨rM m t,n,min (i+1) 13,rM m t,_,_,by omega,(compRaw (t:=t) (u:=t) hm hm).choose_spec.choose_spec.1⟩
section
variable{t:Bool}{m:Q4}(hm:MapOk m)(n:Nat)
theorem stg_m(i:Nat):(stg t hm n i).m=rM m t:=by unfold stg; split<;>rfl
theorem stg_n(i:Nat):(stg t hm n i).n=n:=by unfold stg; split<;>rfl
theorem stg_k(i:Nat)(hi:i≤12):(stg t hm n i).k=i+1:=by unfold stg; split<;>exact Nat.min_eq_left (by omega)
theorem stg_x{i:Nat}(h:Sh4 (sX t m i)):(stg t hm n i).x=rM (sX t m i) (sU t i):=by
 unfold stg; rw[dif_pos (show MapOk (sX t m i) from⟨h,sX_nf hm i,sX_dq hm i⟩)]
theorem stg_y{i:Nat}(h:Sh4 (sX t m i))(h':Sh4 (sX t m (i+1))):(stg t hm n i).y=rM (sX t m (i+1)) (sU t (i+1))∧(stg t hm n i).e=0:=by
 have k:MapOk (sX t m i):=⟨h,sX_nf hm i,sX_dq hm i⟩
 unfold stg; rw[dif_pos k]
 exact(compRaw (t:=t) (u:=sU t i) hm k).choose_spec.choose_spec.2.1 h'
theorem stg_e{i:Nat}(h:Sh4 (sX t m i))(h':¬Sh4 (sX t m (i+1))):(stg t hm n i).e=4:=by
 have k:MapOk (sX t m i):=⟨h,sX_nf hm i,sX_dq hm i⟩
 unfold stg; rw[dif_pos k]
 exact(compRaw (t:=t) (u:=sU t i) hm k).choose_spec.choose_spec.2.2 h'
end
theorem tail_ok(t:Bool){m:Q4}(hm:MapOk m):Tail16 (rM m t):=by
 have key:∃(n:Nat) (q:Int),n≤12∧OrdC m t n∧KindC m t q∧(q=6↔t=true)∧(n=1↔q=1)∧(n<2∨q=3∨t=true)∧(∀ k,k<12→(rM (sX t m k) (sU t k)=oneM↔0<n∧(k+1) % n=0)):=by
  obtain⟨a,b,c,d⟩:=m
  cases t
  ·obtain⟨n,h12,hN,hP,h1,h2⟩:=ordF hm
   obtain⟨q,hK,k6,k1,k3⟩:=kindF hm
   have hq1:n=1↔q=1:=by
    rw[h1,k1]
    have e:=sX_one (t:=false) hm 0
    have e2:Scal (a,b,c,d)↔(a,b,c,d)=q1:=e
    rw[e2]
    simp only[q1,Prod.mk.injEq]
   refine⟨n,q,h12,hN,hK,⟨fun h=>absurd h k6,fun h=>by cases h⟩,hq1,?_,fun k hk=>?_⟩
   ·by_cases h:n<2
    ·exact .inl h
    ·exact .inr (.inl (k3 (h2 (by omega)) (fun e=>by have:=hq1.2 e; omega)))
   ·rw[rM_one,sU_f,←sX_one hm k,←hP k hk]
    exact⟨fun h=>h.1,fun h=>⟨h,rfl⟩⟩
  ·obtain⟨n,h12,hN,hP,h1⟩:=ordT hm
   refine⟨n,6,h12,hN,kindT hm,⟨fun _=>rfl,fun _=>rfl⟩,⟨fun h=>absurd h h1,fun h=>by cases h⟩,.inr (.inr rfl),fun k hk=>?_⟩
   rw[rM_one,sU_t,←sX_one hm k,←hP k hk,decide_eq_false_iff_not]
   constructor
   ·rintro⟨x,y⟩; exact⟨by omega,x⟩
   ·rintro⟨x,y⟩; exact⟨y,by omega⟩
 obtain⟨n,q,h12,hN,hK,h6,h1,h3,ho⟩:=key
 refine⟨n,q,?_⟩
 by_cases hall:∀ i,i≤12→Sh4 (sX t m i)
 ·refine tailX (rM m t) n q h12 hN hK h6 h1 h3 fun cx0 hi hh=>loop12 (rM m t) n q (stg t hm n) (stg_m hm n) (stg_n hm n) (stg_k hm n) (stg_x hm n hm.1) (fun i hi=>?_) (fun i hi=>?_) (fun i hi=>?_) cx0 hi hh
  ·rw[stg_x hm n (hall (i+1) (by omega)),(stg_y hm n (hall i (by omega)) (hall (i+1) (by omega))).1]
  ·exact(stg_y hm n (hall i (by omega)) (hall (i+1) (by omega))).2
  ·rw[stg_x hm n (hall i (by omega))]; exact ho i hi
 ·have:∃ k,k<13∧¬Sh4 (sX t m k):=by
   refine Classical.byContradiction fun h=>hall fun i hi=>Classical.byContradiction fun k=>h ⟨i,by omega,k⟩
  obtain⟨j,hj,hp,hl⟩:=leastk this
  have h0:j≠0:=fun e=>by subst e; exact hp hm.1
  obtain⟨J,rfl⟩:∃ J,j=J+1:=⟨j - 1,by omega⟩
  have hs:∀ i,i≤J→Sh4 (sX t m i):=fun i hi=>Classical.byContradiction fun k=>hl i (by omega) k
  refine tailR (rM m t) n q h12 hN hK h6 h1 fun cx0 hi hh=>loopBig (rM m t) n q (stg t hm n) J (by omega) (stg_m hm n) (stg_n hm n) (stg_k hm n) (stg_x hm n hm.1) (fun i hi=>?_) (fun i hi=>?_) (stg_e hm n (hs J (Nat.le_refl _)) hp) (fun i hi=>?_) cx0 hi hh
  ·rw[stg_x hm n (hs (i+1) (by omega)),(stg_y hm n (hs i (by omega)) (hs (i+1) (by omega))).1]
  ·exact(stg_y hm n (hs i (by omega)) (hs (i+1) (by omega))).2
  ·rw[stg_x hm n (hs i hi)]; exact ho i (by omega)
end Go.Proofs.YtjlhiaafnpompaaGreat
namespace Go.Proofs.YtjlhiaafnpompaaGreat
open Go.RowKit Tr
open Classical
theorem rawPt_inj{p q:Pt}:rawPt p=rawPt q↔p=q:=⟨fun h=>encP_inj' (by rw[←rawPt_val,←rawPt_val,h]),fun h=>by rw[h]⟩
def cnd(a b c d:QC)(p:Pt):Prop:=((a*(ptX p))+(b*(ptY p)))*(ptY p)=(ptX p)*((c*(ptX p))+(d*(ptY p)))
theorem cnd_none{a b c d:QC}:cnd a b c d none↔c=⟨0,0⟩:=by
 have e1:((a*(⟨1,0⟩:QC))+(b*(⟨0,0⟩:QC)))*(⟨0,0⟩:QC)=⟨0,0⟩:=by apply qc_ext<;>simp only[qmr,qmi,qar,qai]<;>grind
 have e2:(⟨1,0⟩:QC)*((c*(⟨1,0⟩:QC))+(d*(⟨0,0⟩:QC)))=c:=by apply qc_ext<;>simp only[qmr,qmi,qar,qai]<;>grind
 unfold cnd ptX ptY
 simp only[e1,e2]
 exact eq_comm
theorem cnd_some{a b c d z:QC}:cnd a b c d (some z)↔a*z+b=z*(c*z+d):=by
 have e1:((a*z)+(b*(⟨1,0⟩:QC)))*(⟨1,0⟩:QC)=a*z+b:=by apply qc_ext<;>simp only[qmr,qmi,qar,qai]<;>grind
 have e2:z*((c*z)+(d*(⟨1,0⟩:QC)))=z*(c*z+d):=by apply qc_ext<;>simp only[qmr,qmi,qar,qai]<;>grind
 unfold cnd ptX ptY
 simp only[e1,e2]
theorem qcancel{u x y:QC}(hu:u≠⟨0,0⟩)(h:u*x=u*y):x=y:=by
 have k:u*(x - y)=⟨0,0⟩:=by
  have h1:=congrArg QC.re h
  have h2:=congrArg QC.im h
  simp only[qmr,qmi] at h1 h2
  apply qc_ext<;>simp only[qmr,qmi,qsr,qsi]<;>grind
 exact qc_sub0.1 ((qmul0.1 k).elim (fun k=>absurd k hu) id)
theorem cnd_0{a b z:QC}(ha:a≠⟨1,0⟩):cnd a b ⟨0,0⟩ ⟨1,0⟩ (some z)↔z=b / (⟨1,0⟩ - a):=by
 have h1:(⟨1,0⟩:QC) - a≠⟨0,0⟩:=fun e=>ha (qc_sub0.1 e).symm
 have hd:=qdm (x:=b) h1
 rw[cnd_some]
 constructor
 ·intro h
  refine qcancel h1 ?_
  rw[hd]
  have k1:=congrArg QC.re h
  have k2:=congrArg QC.im h
  simp only[qmr,qmi,qar,qai] at k1 k2
  apply qc_ext<;>simp only[qmr,qmi,qsr,qsi]<;>grind
 ·intro h
  rw[←h] at hd
  have k1:=congrArg QC.re hd
  have k2:=congrArg QC.im hd
  simp only[qmr,qmi,qsr,qsi] at k1 k2
  apply qc_ext<;>simp only[qmr,qmi,qar,qai]<;>grind
theorem qhalf{x z:QC}:z=x / ⟨2,0⟩↔(⟨2,0⟩:QC)*z=x:=by
 have hd:=qdm (x:=x) (y:=⟨2,0⟩) (by decide +kernel)
 constructor
 ·intro h; rw[h,hd]
 ·intro h; exact qcancel (by decide +kernel) (h.trans hd.symm)
theorem cnd_1{a b d z r:QC}(hr:r*r=((a - d)*(a - d))+(b*(⟨4,0⟩:QC))):cnd a b ⟨1,0⟩ d (some z)↔z=((a - d)+r) / ⟨2,0⟩∨z=((a - d) - r) / ⟨2,0⟩:=by
 rw[cnd_some,qhalf,qhalf]
 have key:(((⟨2,0⟩:QC)*z - ((a - d)+r))*((⟨2,0⟩:QC)*z - ((a - d) - r)))=(⟨4,0⟩:QC)*(z*(⟨1,0⟩*z+d) - (a*z+b)):=by
  have k1:=congrArg QC.re hr
  have k2:=congrArg QC.im hr
  simp only[qmr,qmi,qar,qai,qsr,qsi] at k1 k2
  apply qc_ext<;>simp only[qmr,qmi,qar,qai,qsr,qsi]<;>grind
 constructor
 ·intro h
  have h0:(((⟨2,0⟩:QC)*z - ((a - d)+r))*((⟨2,0⟩:QC)*z - ((a - d) - r)))=⟨0,0⟩:=by
   rw[key,qmul0]; exact .inr (qc_sub0.2 h.symm)
  exact(qmul0.1 h0).imp qc_sub0.1 qc_sub0.1
 ·intro h
  have h0:(((⟨2,0⟩:QC)*z - ((a - d)+r))*((⟨2,0⟩:QC)*z - ((a - d) - r)))=⟨0,0⟩:=qmul0.2 (h.imp qc_sub0.2 qc_sub0.2)
  rw[key,qmul0] at h0
  exact(qc_sub0.1 (h0.resolve_left (by decide +kernel))).symm
theorem out_ok{x y:QC}(h0:y≠⟨0,0⟩)(h:outPC x y=0):outR x y=rawPt (some (x / y))∧ShortZ (x / y):=by
 have hs:ShortZ (x / y):=by
  unfold outPC at h
  rw[if_neg h0] at h
  split at h
  ·assumption
  ·cases h
 exact⟨outR_is h0 rfl hs,hs⟩
theorem out_none:outR ⟨1,0⟩ ⟨0,0⟩=rawPt none:=by unfold outR; rw[if_pos rfl]
theorem lgM_sz{g1 g2 g3 g4:RawG}(h:¬lgMC g1 g2 g3 g4):g1.Sz∧g2.Sz∧g3.Sz∧g4.Sz:=by
 have k:∀ j,j<16→¬lgMP g1 g2 g3 g4 j:=fun j hj hp=>h ⟨j,hj,hp⟩
 have e:∀{s:ByteArray},¬(Sz s)>12→s.size≤1000000000:=fun h=>by unfold _root_.Go.Proofs.YtjlhiaafnpompaaGreat.Sz at h; omega
 exact⟨⟨e (k 0 (by decide)),e (k 1 (by decide)),e (k 2 (by decide)),e (k 3 (by decide))⟩,⟨e (k 4 (by decide)),e (k 5 (by decide)),e (k 6 (by decide)),e (k 7 (by decide))⟩,⟨e (k 8 (by decide)),e (k 9 (by decide)),e (k 10 (by decide)),e (k 11 (by decide))⟩,⟨e (k 12 (by decide)),e (k 13 (by decide)),e (k 14 (by decide)),e (k 15 (by decide))⟩⟩
theorem lgP_sz{p:RawP}(h:¬lgPC p.g):p.Sz:=by
 have k:∀ j,j<4→¬lgPP p.g j:=fun j hj hp=>h ⟨j,hj,hp⟩
 have e:∀{s:ByteArray},¬(Sz s)>12→s.size≤1000000000:=fun h=>by unfold _root_.Go.Proofs.YtjlhiaafnpompaaGreat.Sz at h; omega
 exact⟨e (k 0 (by decide)),e (k 1 (by decide)),e (k 2 (by decide)),e (k 3 (by decide))⟩
section
variable{a b c d:QC}
theorem stayV(hm:MapOk (a,b,c,d))(q:Pt)(hq:ShortP q)(v:Bool)(hv:v=true↔cnd a b c d q):StaysC (rM (a,b,c,d) false) (rawPt q) v 0:=by
 obtain⟨⟨h1,h2,h3,h4⟩,hn,hd⟩:=hm
 have A:=fStaysf a b c d q h1 h2 h3 h4 hq hd hn
 cases v
 ·exact A.f (fun h=>by cases hv.2 h)
 ·exact A.t (hv.1 rfl)
theorem stayN(hm:MapOk (a,b,c,d))(t:Bool)(p:RawP)(hs:p.Sz)(hp:¬POk p.val):StaysC (rM (a,b,c,d) t) p false 2:=by
 obtain⟨⟨h1,h2,h3,h4⟩,hn,hd⟩:=hm
 exact fStaysB a b c d t p h1 h2 h3 h4 hs hd hn hp
theorem stayA(hm:MapOk (a,b,c,d))(t:Bool)(p:RawP)(hs:p.Sz):∃ r k,StaysC (rM (a,b,c,d) t) p r k:=by
 by_cases hp:POk p.val
 ·obtain⟨q,rfl,hq⟩:=pOk_raw hp
  cases t
  ·exact⟨decide (cnd a b c d q),0,stayV hm q hq _ decide_eq_true_iff⟩
  ·obtain⟨⟨h1,h2,h3,h4⟩,hn,hd⟩:=hm
   have A:=fStayst a b c d q h1 h2 h3 h4 hq hd hn
   by_cases h:(ws7 a b q)*(ptY q)=(ptX q)*(ws8 c d q)
   ·exact⟨true,0,A.t h⟩
   ·exact⟨false,0,A.f h⟩
 ·exact⟨false,2,stayN hm t p hs hp⟩
theorem one_pt(hm:MapOk (a,b,c,d))(p:RawP)(hs:p.Sz)(x:Pt)(hx:ShortP x)(h:∀ q,cnd a b c d q↔q=x):Part Tryz.prog lawF true TR (L41 (rM (a,b,c,d) false) p (rawPt x)) (mid4 1) c4:=by
 have HX:=stayV hm x hx true ⟨fun _=>(h x).2 rfl,fun _=>rfl⟩
 by_cases hp:POk p.val
 ·obtain⟨q,rfl,hq⟩:=pOk_raw hp
  exact part1 _ _ _ (decide (cnd a b c d q)) (by rw[decide_eq_true_iff,h q,rawPt_inj]; exact eq_comm) (stayV hm q hq _ decide_eq_true_iff) HX (tail_ok false hm)
 ·exact part1N _ _ _ _ (stayN hm false p hs hp) HX (tail_ok false hm)
theorem two_pt(hm:MapOk (a,b,c,d))(p:RawP)(hs:p.Sz)(x y:Pt)(hx:ShortP x)(hy:ShortP y)(h:∀ q,cnd a b c d q↔q=x∨q=y):Part Tryz.prog lawF true TR (L42 (rM (a,b,c,d) false) p (rawPt x) (rawPt y)) (mid4 2) c4:=by
 have HX:=stayV hm x hx true ⟨fun _=>(h x).2 (.inl rfl),fun _=>rfl⟩
 have HY:=stayV hm y hy true ⟨fun _=>(h y).2 (.inr rfl),fun _=>rfl⟩
 by_cases hp:POk p.val
 ·obtain⟨q,rfl,hq⟩:=pOk_raw hp
  refine part2 _ _ _ _ (decide (q=x)) (decide (q=y)) (decide (cnd a b c d q)) (by rw[decide_eq_true_iff,rawPt_inj]; exact eq_comm) (by rw[decide_eq_true_iff,rawPt_inj]; exact eq_comm) ?_ (stayV hm q hq _ decide_eq_true_iff) HX HY (tail_ok false hm)
  rw[Bool.eq_iff_iff,Bool.or_eq_true,decide_eq_true_iff,decide_eq_true_iff,decide_eq_true_iff]
  exact h q
 ·exact part2N _ _ _ _ _ (stayN hm false p hs hp) HX HY (tail_ok false hm)
end
theorem short_inf:ShortP none:=trivial
theorem law_true(m:RawM)(p:RawP):SpecC Tryz.prog true 4 [.row (cM m),.row p.cells] TR:=by
 by_cases hl:lgMC m.a m.b m.c m.d
 ·exact law_1 m.a m.b m.c m.d m.t p hl
 by_cases hq:lgPC p.g
 ·exact law_2 m.a m.b m.c m.d m.t p hl hq
 obtain⟨s1,s2,s3,s4⟩:=lgM_sz hl
 have hs:=lgP_sz hq
 by_cases hM:MOk m
 ·obtain⟨a,b,c,d,⟨h1,h2,h3,h4⟩,⟨ha,hb,hc,hd⟩,hn,hdt⟩:=hM
  obtain⟨x1,x2,x3,x4,t⟩:=m
  simp only at h1 h2 h3 h4
  subst h1; subst h2; subst h3; subst h4
  have hm:MapOk (a,b,c,d):=⟨⟨ha,hb,hc,hd⟩,hn,hdt⟩
  have HE:∀(t:Bool) (e:Int),e≠0→Part Tryz.prog lawF true TR (L4E (rM (a,b,c,d) t) p e) mid4E c4:=fun t e he=>by
   obtain⟨r,k,HP⟩:=stayA hm t p hs
   exact partE _ _ e he r k HP (tail_ok t hm)
  cases t
  ·by_cases g0:a=(⟨1,0⟩:QC)∧b=(⟨0,0⟩:QC)∧c=(⟨0,0⟩:QC)∧d=(⟨1,0⟩:QC)
   ·exact ptA0 a b c d p ha hb hc hd hdt hn hl hq g0 (HE false 250 (by decide))
   by_cases g1:c=(⟨0,0⟩:QC)
   ·have d1:d=⟨1,0⟩:=by
     rcases hn with h|h
     ·rw[g1] at h; exact absurd h (by decide +kernel)
     ·exact h.2
    by_cases g2:a=(⟨1,0⟩:QC)
    ·refine ptA1 a b c d p ha hb hc hd hdt hn hl hq g0 g1 g2 ?_
     rw[out_none]
     refine one_pt hm p hs none short_inf fun q=>?_
     cases q with
     | none=>rw[cnd_none]; exact⟨fun _=>rfl,fun _=>g1⟩
     | some z =>
      rw[cnd_some]
      refine⟨fun h=>absurd ?_ g0,fun h=>by cases h⟩
      subst g1; subst d1; subst g2
      refine⟨rfl,?_,rfl,rfl⟩
      have k1:=congrArg QC.re h
      have k2:=congrArg QC.im h
      simp only[qmr,qmi,qar,qai] at k1 k2
      apply qc_ext<;>simp only<;>grind
    ·have hy:(⟨1,0⟩:QC) - a≠⟨0,0⟩:=fun e=>g2 (qc_sub0.1 e).symm
     by_cases g3:(outPC b ((⟨1,0⟩:QC) - a))=0
     ·obtain⟨e,hsh⟩:=out_ok hy g3
      refine ptA2 a b c d p ha hb hc hd hdt hn hl hq g0 g1 g2 g3 ?_
      rw[out_none,e]
      refine two_pt hm p hs none (some _) short_inf hsh fun q=>?_
      subst g1; subst d1
      cases q with
      | none=>rw[cnd_none]; exact⟨fun _=>.inl rfl,fun _=>rfl⟩
      | some z =>
       rw[cnd_0 g2,Option.some.injEq]
       exact⟨.inr,fun h=>h.elim (fun h=>by cases h) id⟩
     ·exact ptA3 a b c d p ha hb hc hd hdt hn hl hq g0 g1 g2 g3 (HE false _ g3)
   ·have c1:c=⟨1,0⟩:=hn.resolve_right fun h=>g1 h.1
    by_cases g2:HasQ (e3 a b d)
    ·have hr:=(rt_ok g2).1
     have h2:(⟨2,0⟩:QC)≠⟨0,0⟩:=by decide +kernel
     have C1:∀ q,cnd a b c d q↔q=some (((a - d)+(rt (e3 a b d))) / ⟨2,0⟩)∨q=some (((a - d) - (rt (e3 a b d))) / ⟨2,0⟩):=fun q=>by
      cases q with
      | none=>rw[cnd_none]; exact⟨fun h=>absurd h g1,fun h=>h.elim (fun h=>by cases h) (fun h=>by cases h)⟩
      | some z=>subst c1; rw[cnd_1 hr,Option.some.injEq,Option.some.injEq]
     by_cases g3:(rt (e3 a b d))=(⟨0,0⟩:QC)
     ·by_cases g4:(outPC ((a - d)+(rt (e3 a b d))) (⟨2,0⟩:QC))=0
      ·obtain⟨e,hsh⟩:=out_ok h2 g4
       refine ptA4 a b c d p ha hb hc hd hdt hn hl hq g0 g1 g2 g3 g4 ?_
       rw[e]
       refine one_pt hm p hs (some _) hsh fun q=>?_
       rw[C1 q]
       have e0:(a - d) - (rt (e3 a b d))=(a - d)+(rt (e3 a b d)):=by
        rw[g3]
        apply qc_ext<;>simp only[qar,qai,qsr,qsi]<;>grind
       rw[e0,or_self]
      ·exact ptA5 a b c d p ha hb hc hd hdt hn hl hq g0 g1 g2 g3 g4 (HE false _ g4)
     ·by_cases g4:(outPC ((a - d)+(rt (e3 a b d))) (⟨2,0⟩:QC))=0
      ·by_cases g5:(outPC ((a - d) - (rt (e3 a b d))) (⟨2,0⟩:QC))=0
       ·obtain⟨e,hsh⟩:=out_ok h2 g4
        obtain⟨e',hsh'⟩:=out_ok h2 g5
        refine ptA6 a b c d p ha hb hc hd hdt hn hl hq g0 g1 g2 g3 g4 g5 ?_
        rw[e,e']
        exact two_pt hm p hs (some _) (some _) hsh hsh' C1
       ·exact ptA7 a b c d p ha hb hc hd hdt hn hl hq g0 g1 g2 g3 g4 g5 (HE false _ g5)
      ·exact ptA8 a b c d p ha hb hc hd hdt hn hl hq g0 g1 g2 g3 g4 (HE false _ g4)
    ·exact ptA9 a b c d p ha hb hc hd hdt hn hl hq g0 g1 g2 (HE false 7 (by decide))
  ·exact ptA10 a b c d p ha hb hc hd hdt hn hl hq (HE true 250 (by decide))
 ·exact law_3 m.a m.b m.c m.d m.t p s1 s2 s3 s4 hl hq hM
end Go.Proofs.YtjlhiaafnpompaaGreat
