/- Laws for the walk. -/
import Derived.Test.YtgjkifdilflcbaaGreatZba
set_option linter.unusedVariables false
set_option maxHeartbeats 4000000
set_option linter.unusedSimpArgs false
namespace Go.Proofs.YtgjkifdilflcbaaGreat
open Go.RowKit Tr
theorem qc_ext{x y:QC}(h1:x.re=y.re)(h2:x.im=y.im):x=y:=by cases x; cases y; simp at h1 h2; rw[h1,h2]
theorem qmr(x y:QC):(x*y).re=x.re*y.re - x.im*y.im:=rfl
theorem qmi(x y:QC):(x*y).im=x.re*y.im+x.im*y.re:=rfl
theorem qar(x y:QC):(x+y).re=x.re+y.re:=rfl
theorem qai(x y:QC):(x+y).im=x.im+y.im:=rfl
theorem qsr(x y:QC):(x - y).re=x.re - y.re:=rfl
theorem qsi(x y:QC):(x - y).im=x.im - y.im:=rfl
def pol(cs:List Int)(z:QC):QC:=cs.foldl (fun s c=>s*z+⟨c,0⟩) ⟨0,0⟩
def frm(cs:List Int)(a b n:Int):Int×Int×Int:=cs.foldl (fun s c=>(s.1*a - s.2.1*b+c*s.2.2,s.1*b+s.2.1*a,s.2.2*n)) (0,0,1)
def frm8(cs:List Int)(a b n:BitVec 3):BitVec 3×BitVec 3×BitVec 3:=cs.foldl (fun s c=>(s.1*a - s.2.1*b+BitVec.ofInt 3 c*s.2.2,s.1*b+s.2.1*a,s.2.2*n)) (0,0,1)
theorem frm_step8(cs:List Int)(a b n:Int):∀(s:Int×Int×Int),
  (cs.foldl (fun s c=>(s.1*BitVec.ofInt 3 a - s.2.1*BitVec.ofInt 3 b+BitVec.ofInt 3 c*s.2.2,s.1*BitVec.ofInt 3 b+s.2.1*BitVec.ofInt 3 a,s.2.2*BitVec.ofInt 3 n)) (BitVec.ofInt 3 s.1,BitVec.ofInt 3 s.2.1,BitVec.ofInt 3 s.2.2):BitVec 3×BitVec 3×BitVec 3) =
  (let r:=cs.foldl (fun s c=>(s.1*a - s.2.1*b+c*s.2.2,s.1*b+s.2.1*a,s.2.2*n)) s; (BitVec.ofInt 3 r.1,BitVec.ofInt 3 r.2.1,BitVec.ofInt 3 r.2.2)):=by
 induction cs with
 | nil=>intro s; rfl
 | cons c cs ih =>
  intro s
  simp only[List.foldl_cons]
  rw[←ih]
  congr 1
  simp only[BitVec.ofInt_add,BitVec.ofInt_mul,Int.sub_eq_add_neg,BitVec.ofInt_neg,BitVec.sub_eq_add_neg]
theorem frm_mod(cs:List Int)(a b n:Int):frm8 cs (BitVec.ofInt 3 a) (BitVec.ofInt 3 b) (BitVec.ofInt 3 n)=(BitVec.ofInt 3 (frm cs a b n).1,BitVec.ofInt 3 (frm cs a b n).2.1,BitVec.ofInt 3 (frm cs a b n).2.2):=frm_step8 cs a b n (0,0,1)
def NoRoot(cs:List Int):Prop:=∀ a b n:BitVec 3,(frm8 cs a b n).1=0→(frm8 cs a b n).2.1=0→a.toNat % 2=0∧b.toNat % 2=0∧n.toNat % 2=0
instance (cs:List Int):Decidable (NoRoot cs):=by unfold NoRoot; infer_instance
theorem nr1:NoRoot [1,-3,1]:=by decide +kernel
theorem nr2:NoRoot [1,-5,6,-1]:=by decide +kernel
theorem nr3:NoRoot [1,-4,2]:=by decide +kernel
theorem nr4:NoRoot [1,-6,9,-1]:=by decide +kernel
theorem nr5:NoRoot [1,-5,5]:=by decide +kernel
theorem nr6:NoRoot [1,-9,28,-35,15,-1]:=by decide +kernel
theorem nr7:NoRoot [1,-4,1]:=by decide +kernel
theorem even_of(a:Int)(h:(BitVec.ofInt 3 a).toNat % 2=0):a % 2=0:=by
 rw[BitVec.toNat_ofInt] at h
 simp at h
 omega
theorem frm_pol (cs : List Int) (z : QC) (a b n : Int) (ha : z.re * n = a) (hb : z.im * n = b) : ∀ (s : QC) (t : Int × Int × Int),(t.1 : Rat) * n = t.2.2 * s.re → (t.2.1 : Rat) * n = t.2.2 * s.im →
    (((cs.foldl (fun s c=>(s.1*a - s.2.1*b+c*s.2.2,s.1*b+s.2.1*a,s.2.2*n)) t).1:Rat)*n=(cs.foldl (fun s c=>(s.1*a - s.2.1*b+c*s.2.2,s.1*b+s.2.1*a,s.2.2*n)) t).2.2*(cs.foldl (fun s c=>s*z+⟨(c:Int),0⟩) s).re ∧
     ((cs.foldl (fun s c=>(s.1*a - s.2.1*b+c*s.2.2,s.1*b+s.2.1*a,s.2.2*n)) t).2.1:Rat)*n=(cs.foldl (fun s c=>(s.1*a - s.2.1*b+c*s.2.2,s.1*b+s.2.1*a,s.2.2*n)) t).2.2*(cs.foldl (fun s c=>s*z+⟨(c:Int),0⟩) s).im):=by
  induction cs with
  | nil=>intro s t h1 h2; exact⟨h1,h2⟩
  | cons c cs ih =>
    intro s t h1 h2
    simp only[List.foldl_cons]
    apply ih
    · simp only[qmr,qmi,qar,qai,Rat.intCast_add,Rat.intCast_sub,Rat.intCast_mul,←ha,←hb]
      grind
    · simp only[qmr,qmi,qar,qai,Rat.intCast_add,Rat.intCast_sub,Rat.intCast_mul,←ha,←hb]
      grind
theorem no_root{cs:List Int}(h:NoRoot cs)(z:QC):∀(k:Nat) (a b n:Int),n.natAbs≤k→n≠0→z.re*n=a→z.im*n=b→pol cs z≠⟨0,0⟩:=by
 intro k
 induction k with
 | zero=>intro a b n h1 h2; omega
 | succ k ih =>
  intro a b n h1 h2 ha hb h0
  obtain⟨e1,e2⟩:=frm_pol cs z a b n ha hb ⟨0,0⟩ (0,0,1) (by simp) (by simp)
  have hn:(n:Rat)≠0:=by exact_mod_cast h2
  have f1:(frm cs a b n).1=0:=by
   have:((frm cs a b n).1:Rat)*n=0:=by
    refine e1.trans ?_
    rw[show cs.foldl (fun s c=>s*z+(⟨(c:Int),0⟩:QC)) ⟨0,0⟩=⟨0,0⟩ from h0]
    simp
   rcases Rat.mul_eq_zero.1 this with h|h
   ·exact_mod_cast h
   ·exact absurd h hn
  have f2:(frm cs a b n).2.1=0:=by
   have:((frm cs a b n).2.1:Rat)*n=0:=by
    refine e2.trans ?_
    rw[show cs.foldl (fun s c=>s*z+(⟨(c:Int),0⟩:QC)) ⟨0,0⟩=⟨0,0⟩ from h0]
    simp
   rcases Rat.mul_eq_zero.1 this with h|h
   ·exact_mod_cast h
   ·exact absurd h hn
  obtain⟨p1,p2,p3⟩:=h (BitVec.ofInt 3 a) (BitVec.ofInt 3 b) (BitVec.ofInt 3 n) (by rw[frm_mod,f1]; rfl) (by rw[frm_mod,f2]; rfl)
  have p1:=even_of a p1
  have p2:=even_of b p2
  have p3:=even_of n p3
  have c1:a=2*(a / 2):=by omega
  have c2:b=2*(b / 2):=by omega
  have c3:n=2*(n / 2):=by omega
  refine ih (a / 2) (b / 2) (n / 2) (by omega) (by omega) ?_ ?_ h0
  ·rw[c1,c3,Rat.intCast_mul,Rat.intCast_mul] at ha
   have:((2:Int):Rat)=2:=rfl
   rw[this] at ha
   grind
  ·rw[c2,c3,Rat.intCast_mul,Rat.intCast_mul] at hb
   have:((2:Int):Rat)=2:=rfl
   rw[this] at hb
   grind
theorem num_den(q:Rat):q*((q.den:Int):Rat)=q.num:=by
 have h:=Rat.num_divInt_den q
 rw[Rat.divInt_eq_div] at h
 have hd:((q.den:Int):Rat)≠0:=by exact_mod_cast q.den_nz
 have key:∀(x n d:Rat),n / d=x→d≠0→x*d=n:=by intros; grind
 exact key _ _ _ h hd
theorem no_root_any{cs:List Int}(h:NoRoot cs)(z:QC):pol cs z≠⟨0,0⟩:=by
 refine no_root h z _ (z.re.num*z.im.den) (z.im.num*z.re.den) (z.re.den*z.im.den) (Nat.le_refl _) ?_ ?_ ?_
 ·have:=z.re.den_nz; have:=z.im.den_nz
  exact Int.mul_ne_zero (by omega) (by omega)
 ·rw[Rat.intCast_mul,Rat.intCast_mul,←num_den z.re]
  grind
 ·rw[Rat.intCast_mul,Rat.intCast_mul,←num_den z.im]
  grind
theorem qmul0{x y:QC}:x*y=⟨0,0⟩↔x=⟨0,0⟩∨y=⟨0,0⟩:=by
 constructor
 ·intro h
  have h1:x.re*y.re - x.im*y.im=0:=congrArg QC.re h
  have h2:x.re*y.im+x.im*y.re=0:=congrArg QC.im h
  have h3:(x.re*x.re+x.im*x.im)*(y.re*y.re+y.im*y.im)=0:=by grind
  rcases Rat.mul_eq_zero.1 h3 with h|h
  ·have:=sq_nonneg x.re; have:=sq_nonneg x.im
   have e1:x.re*x.re=0:=by grind
   have e2:x.im*x.im=0:=by grind
   exact .inl (qc_ext (by rcases Rat.mul_eq_zero.1 e1 with h|h<;>exact h) (by rcases Rat.mul_eq_zero.1 e2 with h|h<;>exact h))
  ·have:=sq_nonneg y.re; have:=sq_nonneg y.im
   have e1:y.re*y.re=0:=by grind
   have e2:y.im*y.im=0:=by grind
   exact .inr (qc_ext (by rcases Rat.mul_eq_zero.1 e1 with h|h<;>exact h) (by rcases Rat.mul_eq_zero.1 e2 with h|h<;>exact h))
 ·rintro(rfl|rfl)<;>apply qc_ext<;>simp only[qmr,qmi]<;>grind
def rp(t d:QC):Nat→QC×QC
 | 0=>(⟨1,0⟩,⟨0,0⟩)
 | n+1=>(t*(rp t d n).1 - d*(rp t d n).2,(rp t d n).1)
def fg(s:QC):Nat→QC×QC
 | 0=>(⟨1,0⟩,⟨0,0⟩)
 | k+1=>(s*((fg s k).1 - (fg s k).2) - (fg s k).1,(fg s k).1 - (fg s k).2)
def dp(d:QC):Nat→QC
 | 0=>⟨1,0⟩
 | k+1=>d*dp d k
theorem rp_fg(t d s:QC)(h:s*d=t*t)(k:Nat):(rp t d (2*k)).1=dp d k*(fg s k).1∧(rp t d (2*k+1)).1=t*(dp d k*(fg s (k+1)).2):=by
 have h1:s.re*d.re - s.im*d.im=t.re*t.re - t.im*t.im:=congrArg QC.re h
 have h2:s.re*d.im+s.im*d.re=t.re*t.im+t.im*t.re:=congrArg QC.im h
 induction k with
 | zero=>constructor<;>apply qc_ext<;>simp only[rp,fg,dp,qmr,qmi,qsr,qsi]<;>grind
 | succ k ih =>
  obtain⟨i1,i2⟩:=ih
  have j1:(rp t d (2*(k+1))).1=dp d (k+1)*(fg s (k+1)).1:=by
   show t*(rp t d (2*k+1)).1 - d*(rp t d (2*k)).1=_
   rw[i1,i2]
   simp only[fg,dp]
   generalize fg s k=p
   generalize dp d k=q
   obtain⟨f,g⟩:=p
   apply qc_ext<;>simp only[qmr,qmi,qsr,qsi]<;>grind
  refine⟨j1,?_⟩
  show t*(rp t d (2*(k+1))).1 - d*(rp t d (2*k+1)).1=_
  rw[j1,i2]
  simp only[fg,dp]
  generalize fg s k=p
  generalize dp d k=q
  obtain⟨f,g⟩:=p
  apply qc_ext<;>simp only[qmr,qmi,qsr,qsi]<;>grind
theorem dp_ne{d:QC}(h:d≠⟨0,0⟩):∀ k,dp d k≠⟨0,0⟩
 | 0=>by intro e; have:=congrArg QC.re e; simp[dp] at this
 | k+1=>fun e=>by exact(qmul0.1 e).elim h (dp_ne h k)
theorem pol_lin(s:QC)(c:Int):pol [1,c] s=⟨0,0⟩↔s=⟨(-c:Int),0⟩:=by
 have e:pol [1,c] s=⟨s.re+c,s.im⟩:=by apply qc_ext<;>simp only[pol,List.foldl_cons,List.foldl_nil,qmr,qmi,qar,qai]<;>grind
 rw[e]
 constructor
 ·intro h
  have h1:s.re+c=0:=congrArg QC.re h
  have h2:s.im=0:=congrArg QC.im h
  apply qc_ext
  ·simp only[Rat.intCast_neg]; grind
  ·exact h2
 ·rintro rfl; simp only[Rat.intCast_neg]; congr 1; grind
theorem fg_tab(s:QC):(fg s 1).1=pol [1,-1] s∧(fg s 2).2=pol [1,-2] s∧(fg s 2).1=pol [1,-3,1] s∧(fg s 3).2=pol [1,-1] s*pol [1,-3] s∧(fg s 3).1=pol [1,-5,6,-1] s ∧
  (fg s 4).2=pol [1,-2] s*pol [1,-4,2] s∧(fg s 4).1=pol [1,-1] s*pol [1,-6,9,-1] s∧(fg s 5).2=pol [1,-3,1] s*pol [1,-5,5] s∧(fg s 5).1=pol [1,-9,28,-35,15,-1] s ∧
  (fg s 6).2=pol [1,-1] s*(pol [1,-2] s*(pol [1,-3] s*pol [1,-4,1] s)):=by
 obtain⟨x,y⟩:=s
 refine⟨?_,?_,?_,?_,?_,?_,?_,?_,?_,?_⟩<;>apply qc_ext<;>simp only[pol,fg,List.foldl_cons,List.foldl_nil,qmr,qmi,qar,qai,qsr,qsi]<;>grind
noncomputable def ordS(s:QC):Nat:=open Classical in if s=⟨0,0⟩ then 2 else if s=⟨1,0⟩ then 3 else if s=⟨2,0⟩ then 4 else if s=⟨3,0⟩ then 6 else 0
theorem rp_zero{t d s:QC}(h:s*d=t*t)(hd:d≠⟨0,0⟩)(k:Nat)(hk:k<12):(rp t d k).1=⟨0,0⟩↔ordS s≠0∧(k+1) % ordS s=0:=by
 obtain⟨f1,g2,f2,g3,f3,g4,f4,g5,f5,g6⟩:=fg_tab s
 have f0:(fg s 0).1≠⟨0,0⟩:=by intro e; have:=congrArg QC.re e; simp[fg] at this
 have g1:(fg s 1).2≠⟨0,0⟩:=by
  have e:(fg s 1).2=⟨1,0⟩:=by apply qc_ext<;>simp only[fg,qsr,qsi]<;>grind
  rw[e]; intro e; have:=congrArg QC.re e; simp at this
 have l1:pol [1,-1] s=⟨0,0⟩↔s=⟨1,0⟩:=pol_lin s (-1)
 have l2:pol [1,-2] s=⟨0,0⟩↔s=⟨2,0⟩:=pol_lin s (-2)
 have l3:pol [1,-3] s=⟨0,0⟩↔s=⟨3,0⟩:=pol_lin s (-3)
 have n1:=no_root_any nr1 s
 have n2:=no_root_any nr2 s
 have n3:=no_root_any nr3 s
 have n4:=no_root_any nr4 s
 have n5:=no_root_any nr5 s
 have n6:=no_root_any nr6 s
 have n7:=no_root_any nr7 s
 have ht:t=⟨0,0⟩↔s=⟨0,0⟩:=by
  constructor
  ·rintro rfl
   have:s*d=⟨0,0⟩:=h.trans (qmul0.2 (.inl rfl))
   exact(qmul0.1 this).resolve_right hd
  ·rintro rfl
   have:t*t=⟨0,0⟩:=h.symm.trans (qmul0.2 (.inl rfl))
   exact(qmul0.1 this).elim id id
 have even:∀ j,(rp t d (2*j)).1=⟨0,0⟩↔(fg s j).1=⟨0,0⟩:=fun j=>by
  rw[(rp_fg t d s h j).1,qmul0]; exact⟨fun e=>e.resolve_left (dp_ne hd j),.inr⟩
 have odd:∀ j,(rp t d (2*j+1)).1=⟨0,0⟩↔s=⟨0,0⟩∨(fg s (j+1)).2=⟨0,0⟩:=fun j=>by
  rw[(rp_fg t d s h j).2,qmul0,qmul0,ht]; exact⟨fun e=>e.imp_right (fun e=>e.resolve_left (dp_ne hd j)),fun e=>e.imp_right .inr⟩
 have d01:¬(⟨0,0⟩:QC)=⟨1,0⟩:=by intro e; have:=congrArg QC.re e; simp at this
 have cs:∀ a b:Rat,a≠b→¬(⟨a,0⟩:QC)=⟨b,0⟩:=fun a b hab e=>hab (congrArg QC.re e)
 rcases(by omega:k=0∨k=1∨k=2∨k=3∨k=4∨k=5∨k=6∨k=7∨k=8∨k=9∨k=10∨k=11) with rfl|rfl|rfl|rfl|rfl|rfl|rfl|rfl|rfl|rfl|rfl|rfl
 all_goals first
  | (rw[even 0])
  | (rw[even 1,f1,l1])|(rw[even 2,f2])|(rw[even 3,f3])|(rw[even 4,f4,qmul0,l1])|(rw[even 5,f5])
  | (rw[odd 0])|(rw[odd 1,g2,l2])|(rw[odd 2,g3,qmul0,l1,l3])|(rw[odd 3,g4,qmul0,l2])|(rw[odd 4,g5,qmul0])|(rw[odd 5,g6,qmul0,qmul0,qmul0,l1,l2,l3])
 all_goals
  try simp only[f0,g1,n1,n2,n3,n4,n5,n6,n7,or_false]
  unfold ordS
  by_cases e0:s=⟨0,0⟩
  ·simp[e0]
  by_cases e1:s=⟨1,0⟩
  ·simp[e1]
  by_cases e2:s=⟨2,0⟩
  ·simp[e2]
  by_cases e3:s=⟨3,0⟩
  ·simp[e3]
  simp[e0,e1,e2,e3]
def mp(a b c d:QC):Nat→QC×QC×QC×QC
 | 0=>(a,b,c,d)
 | n+1=>let p:=mp a b c d n; (a*p.1+b*p.2.2.1,a*p.2.1+b*p.2.2.2,c*p.1+d*p.2.2.1,c*p.2.1+d*p.2.2.2)
def Scal(p:QC×QC×QC×QC):Prop:=p.2.1=⟨0,0⟩∧p.2.2.1=⟨0,0⟩∧p.1=p.2.2.2
theorem mp_rp(a b c d:QC)(k:Nat):mp a b c d k=((rp (a+d) (a*d - b*c) k).1*a - (a*d - b*c)*(rp (a+d) (a*d - b*c) k).2,(rp (a+d) (a*d - b*c) k).1*b,(rp (a+d) (a*d - b*c) k).1*c,(rp (a+d) (a*d - b*c) k).1*d - (a*d - b*c)*(rp (a+d) (a*d - b*c) k).2):=by
 induction k with
 | zero =>
  simp only[mp,rp]
  refine Prod.ext ?_ (Prod.ext ?_ (Prod.ext ?_ ?_))<;>apply qc_ext<;>simp only[qmr,qmi,qar,qai,qsr,qsi]<;>grind
 | succ k ih =>
  simp only[mp,rp]
  rw[ih]
  generalize rp (a+d) (a*d - b*c) k=r
  obtain⟨r,q⟩:=r
  refine Prod.ext ?_ (Prod.ext ?_ (Prod.ext ?_ ?_))<;>apply qc_ext<;>simp only[qmr,qmi,qar,qai,qsr,qsi]<;>grind
theorem qc_sub0{x y:QC}:x - y=⟨0,0⟩↔x=y:=by
 constructor
 ·intro h
  have h1:x.re - y.re=0:=congrArg QC.re h
  have h2:x.im - y.im=0:=congrArg QC.im h
  apply qc_ext<;>grind
 ·rintro rfl; apply qc_ext<;>simp only[qsr,qsi]<;>grind
theorem still_pow{a b c d s:QC}(hs:¬Scal (a,b,c,d))(hd:a*d - b*c≠⟨0,0⟩)(h:s*(a*d - b*c)=(a+d)*(a+d))(k:Nat)(hk:k<12):Scal (mp a b c d k)↔ordS s≠0∧(k+1) % ordS s=0:=by
 rw[←rp_zero h hd k hk,mp_rp]
 generalize rp (a+d) (a*d - b*c) k=r
 obtain⟨r,q⟩:=r
 simp only[Scal]
 rw[qmul0,qmul0]
 have e:(r*a - (a*d - b*c)*q=r*d - (a*d - b*c)*q)↔r=⟨0,0⟩∨a=d:=by
  rw[←qc_sub0,←@qc_sub0 a d,←qmul0]
  have:r*a - (a*d - b*c)*q - (r*d - (a*d - b*c)*q)=r*(a - d):=by apply qc_ext<;>simp only[qmr,qmi,qar,qai,qsr,qsi]<;>grind
  rw[this]
 rw[e]
 constructor
 ·rintro⟨h1,h2,h3⟩
  rcases h1 with h|h1
  ·exact h
  rcases h2 with h|h2
  ·exact h
  rcases h3 with h|h3
  ·exact h
  exact absurd ⟨h1,h2,h3⟩ hs
 ·intro h; exact⟨.inl h,.inl h,.inl h⟩
def cj(z:QC):QC:=⟨z.re,-z.im⟩
def mtn(a b c d:QC):Nat→QC×QC×QC×QC
 | 0=>(a,b,c,d)
 | n+1=>let p:=mtn a b c d n; (a*cj p.1+b*cj p.2.2.1,a*cj p.2.1+b*cj p.2.2.2,c*cj p.1+d*cj p.2.2.1,c*cj p.2.1+d*cj p.2.2.2)
theorem mtn_mp(a b c d:QC)(j:Nat):mtn a b c d (2*j+1)=mp (a*cj a+b*cj c) (a*cj b+b*cj d) (c*cj a+d*cj c) (c*cj b+d*cj d) j:=by
 induction j with
 | zero=>rfl
 | succ j ih =>
  show mtn a b c d (2*j+1+1+1)=_
  simp only[mtn]
  simp only[mtn] at ih
  rw[mp,←ih]
  generalize mtn a b c d (2*j)=p
  obtain⟨p,q,r,s⟩:=p
  simp only[cj]
  refine Prod.ext ?_ (Prod.ext ?_ (Prod.ext ?_ ?_))<;>apply qc_ext<;>simp only[qmr,qmi,qar,qai]<;>grind
end Go.Proofs.YtgjkifdilflcbaaGreat
namespace Go.Proofs.YtgjkifdilflcbaaGreat
open Go.RowKit Tr
theorem natAbs_shl(x:Int)(N:Nat):(x*2 ^ N).natAbs=x.natAbs*2 ^ N:=by
 rw[Int.natAbs_mul]; congr 1
theorem neg_shl(x:Int)(N:Nat):decide (x*2 ^ N<0)=(decide (x<0) && decide (wv (words (x*2 ^ N).natAbs)≠0)):=by
 rw[wv_words,natAbs_shl]
 have hp:(0:Int)<2 ^ N:=Int.pow_pos (by decide)
 have hn:0<2 ^ N:=Nat.two_pow_pos N
 by_cases h:x<0
 ·have h1:x*2 ^ N<0:=Int.mul_neg_of_neg_of_pos h hp
  have h2:x.natAbs*2 ^ N≠0:=Nat.ne_of_gt (Nat.mul_pos (by omega) hn)
  simp[h,h1]; omega
 ·have h1:¬x*2 ^ N<0:=Int.not_lt.2 (Int.mul_nonneg (by omega) (Int.le_of_lt hp))
  simp[h,h1]
theorem Lsh_any(m o:Nat)(C:Array Value)(T:TypeId)(x:Int)(vx:Value)(N:Nat)(A:Nat→Prop)(w:World)(hm:w.heap[m]?=some (.cells C T (0,0)))(ho:o+1<C.size)(hC:NoW (.cells C T (0,0)))(hx:IntP x vx w A)(hn:(words x.natAbs).length<274877906944)(hN:N<1099511627776)(hl:(words (x.natAbs*2 ^ N)).length<1099511627776) :
  Calls Tryz.prog 176 #[.pointer (some ⟨m,o,none⟩),vx,.int .u64 N] w fun e w'=>e=.returned (.pointer (some ⟨m,o,none⟩))∧Put m o C T (x*2 ^ N) w w':=by
 obtain⟨b,bo,sl,rfl,hb,_,c0,c1,hsl⟩:=hx
 have hw:=hsl.wsl
 have hmlt:m<w.heap.size:=(Array.getElem?_eq_some_iff.1 hm).1
 have eN:IntKind.i64.wrap (N:Int)=(N:Int):=by rw[IntKind.wrap_i64]; omega
 have hleft:=fun(w1:World) (h1:Below w.heap.size w w1)=>left_any (words x.natAbs) N sl w1 (wok_words _) (hw.below h1) (by omega) hN
 rw[wv_words] at hleft
 have HL:=Lib.hid hleft
 have HN:=Lib.hid (And.intro hl eN)
 clear hleft hl eN
 go_enter Tryz.func176,Tryz.ntmps176
 go_wp2_with fail
 refine wp_region_inv [(.lit,[]),(.lit,[]),(.lit,[]),(.lit,[]),(.lit,[]),(.lit,[]),(.lit,[]),(.lit,[]),(.lit,[]),(.lit,[]),(.lit,[]),(.val,[])] (pickF [(11,fun v w A=>WSlA A w v (words (x.natAbs*2 ^ N)))]) (by kernel_rfl) ?_ ?_ (by simp) (by simp) (by kernel_rfl)
 ·exact keeps_pick (by simp[keeps_wsla])
 ·refine⟨_,fun f w1 h1=>by go_simp; rfl,?_⟩
  refine⟨_,fun f w1 h1=>by go_simp; rfl,?_⟩
  refine⟨_,fun f w1 h1=>by go_simp; rfl,?_⟩
  refine⟨_,fun f w1 h1=>by go_simp; rfl,?_⟩
  refine⟨_,fun f w1 h1=>by have:=ct h1 hb c0; go_simp; rfl,?_⟩
  refine⟨_,fun f w1 h1=>by go_simp; rfl,?_⟩
  refine⟨_,fun f w1 h1=>by go_simp; rfl,?_⟩
  refine⟨_,fun f w1 h1=>by go_simp; rfl,?_⟩
  refine⟨_,fun f w1 h1=>by have:=ct h1 hb c1; go_simp; rfl,?_⟩
  refine⟨_,fun f w1 h1=>by go_simp; rfl,?_⟩
  refine⟨.int .i64 N,fun f w1 h1=>by have:=HN.out.2; go_simp,?_⟩
  simp only[Act.put,nrA,nrB,nrC,Nat.reduceAdd]
  refine⟨fun f w1 A1 h1 hA hN' hd K hK=>?_,?_⟩
  ·go_simp
   refine(HL.out w1 (br.drew.trans h1)).mono ?_
   rintro e w' ⟨v',rfl,hv,hb'⟩
   exact hK v' w' hb' (hv.avoids (hA.below hb'))
  ·intro f w1 h1 hF
   have hv:WSlA NoA w1 (f 11) (words (x.natAbs*2 ^ N)):=hF.2
   have hv:=hv.wsl
   clear hF
   simp only[Act.put,nrA,nrB,nrC]
   generalize f 11=v9 at *
   have h1':Below w.heap.size w w1:=br.drew.trans h1
   have his:=is_put m o C T (decide (x<0)) (words (x.natAbs*2 ^ N)) v9 w1 (x*2 ^ N) ((h1.block m hmlt).trans hm) ho hC (wok_words _) hv HN.out.1 (by rw[wv_words]; exact natAbs_shl x N) (by rw[←natAbs_shl]; exact neg_shl x N)
   have HI:=Lib.hid his
   clear his hm hC c0 c1
   go_wp2_with (go_at_call 120; refine HI.out.mono ?_; rintro e w' ⟨rfl,hp⟩)
   go_ret
   exact⟨rfl,hp.below h1'⟩
theorem nonneg_shr(n N:Nat):decide (((n / 2 ^ N:Nat):Int)<0)=(false && decide (wv (words (n / 2 ^ N))≠0)):=by
 have:=Int.natCast_nonneg (n / 2 ^ N)
 simp only[Bool.false_and,decide_eq_false_iff_not]; omega
theorem Rsh_any(m o:Nat)(C:Array Value)(T:TypeId)(n:Nat)(vx:Value)(N:Nat)(A:Nat→Prop)(w:World)(hm:w.heap[m]?=some (.cells C T (0,0)))(ho:o+1<C.size)(hC:NoW (.cells C T (0,0)))(hx:IntP (n:Int) vx w A)(hn:(words n).length<274877906944)(hN:N<1099511627776) :
  Calls Tryz.prog 177 #[.pointer (some ⟨m,o,none⟩),vx,.int .u64 N] w fun e w'=>e=.returned (.pointer (some ⟨m,o,none⟩))∧Put m o C T ((n / 2 ^ N:Nat):Int) w w':=by
 obtain⟨b,bo,sl,rfl,hb,_,c0,c1,hsl⟩:=hx
 rw[show((n:Int)).natAbs=n from rfl] at hsl
 rw[show decide ((n:Int)<0)=false by simp] at c0
 have hw:=hsl.wsl
 have hmlt:m<w.heap.size:=(Array.getElem?_eq_some_iff.1 hm).1
 have eN:IntKind.i64.wrap (N:Int)=(N:Int):=by rw[IntKind.wrap_i64]; omega
 have hright:=right_any (words n) N sl w (wok_words _) hw (by omega) hN
 rw[wv_words] at hright
 have hwl:(words (n / 2 ^ N)).length<1099511627776:=by
  have h1:=lt_words n
  have h2:n / 2 ^ N<4294967296 ^ (words n).length:=Nat.lt_of_le_of_lt (Nat.div_le_self _ _) h1
  have:=words_length_le h2; omega
 have his:=fun(w1:World) (h1:Below w.heap.size w w1) v (hv:WSl w1 v (words (n / 2 ^ N)))=>is_put m o C T false (words (n / 2 ^ N)) v w1 ((n / 2 ^ N:Nat):Int) ((h1.block m hmlt).trans hm) ho hC (wok_words _) hv hwl (by rw[wv_words]; rfl) (nonneg_shr n N)
 have hcell:=fun(w1:World) (h1:Below w.heap.size w w1)=>(h1.cell (p:=⟨b,bo,none⟩) hb).trans c0
 have HR:=Lib.hid hright
 have HI:=Lib.hid his
 have HC:=Lib.hid hcell
 clear hright his hm hC hw hsl hcell
 go_enter Tryz.func177,Tryz.ntmps177
 go_wp2_with (go_at_call 175; refine HR.out.mono ?_; rintro e w1 ⟨v7,rfl,hv,hb1⟩; have d0:=HC.out w1 hb1; have d1:∀ k,(w1.drewN k).cell? ⟨b,bo,none⟩=some (.bool false):=fun _=>d0; have HV:=Lib.hid hv; clear hv)
 have hbn:∀ k,Below w.heap.size w (w1.drewN k):=fun k=>hb1.trans ⟨rfl,rfl,rfl,Nat.le_refl _,fun _ _=>rfl⟩
 have hX:=fun k=>HI.out (w1.drewN k) (hbn k) v7 HV.out
 have HX:=Lib.hid hX
 clear hX
 go_quiet (fail)
 go_wp2_with (go_at_call 120; refine(HX.out _).mono ?_; rintro e w' ⟨rfl,hp⟩)
 go_ret
 exact⟨rfl,hp.below (hbn _)⟩
end Go.Proofs.YtgjkifdilflcbaaGreat
namespace Tr
theorem newton_step{x r:Nat}(hr:0<r):x<((x / r+r) / 2+1)*((x / r+r) / 2+1):=by
 obtain⟨q,hq⟩:∃ q,q=x / r:=⟨_,rfl⟩
 have h1:x<(q+1)*r:=by
  rw[hq]
  have:=Nat.div_add_mod x r
  have h2:=Nat.mod_lt x hr
  rw[Nat.add_mul,Nat.one_mul,Nat.mul_comm]; omega
 rw[←hq]
 obtain⟨s,hs⟩:∃ s,s=(q+r) / 2+1:=⟨_,rfl⟩
 rw[←hs]
 have h2:q+r+1≤2*s:=by omega
 have h3:(q+r+1)*(q+r+1)≤(2*s)*(2*s):=Nat.mul_le_mul h2 h2
 have h4:4*((q+1)*r)≤(q+r+1)*(q+r+1):=by
  have key:∀ a b:Nat,4*(a*b)≤(a+b)*(a+b):=fun a b=>by
   rcases Nat.le_total a b with h|h
   ·obtain⟨d,rfl⟩:=Nat.exists_eq_add_of_le h
    have:(a+(a+d))*(a+(a+d))=4*(a*(a+d))+d*d:=by
     simp only[Nat.mul_add,Nat.add_mul,Nat.mul_comm d a]; omega
    omega
   ·obtain⟨d,rfl⟩:=Nat.exists_eq_add_of_le h
    have:(b+d+b)*(b+d+b)=4*((b+d)*b)+d*d:=by
     simp only[Nat.mul_add,Nat.add_mul,Nat.mul_comm d b]; omega
    omega
  have:=key (q+1) r
  rw[show q+1+r=q+r+1 by omega] at this
  exact this
 have h5:(2*s)*(2*s)=4*(s*s):=by
  rw[Nat.mul_mul_mul_comm]
 omega
theorem newton_end{x r:Nat}(h:r≤(x / r+r) / 2):r*r≤x:=by
 have h1:r≤x / r:=by omega
 exact Nat.le_trans (Nat.mul_le_mul_right r h1) (Nat.div_mul_le_self x r)
theorem newton_pos{x r:Nat}(hx:0<x)(hr:0<r):0<(x / r+r) / 2:=by
 by_cases h:r=1
 ·subst h; rw[Nat.div_one]; omega
 ·generalize x / r=q
  omega
theorem newton_first{x N:Nat}(h:x<2 ^ N):x<(2 ^ (N / 2+1)+1)*(2 ^ (N / 2+1)+1):=by
 have h1:(2:Nat) ^ N≤2 ^ (N / 2+1)*2 ^ (N / 2+1):=by
  rw[←Nat.pow_add]; exact Nat.pow_le_pow_right (by decide) (by omega)
 have h2:2 ^ (N / 2+1)*2 ^ (N / 2+1)≤(2 ^ (N / 2+1)+1)*(2 ^ (N / 2+1)+1):=Nat.mul_le_mul (by omega) (by omega)
 omega
theorem root_one{x a b:Nat}(h1:a*a≤x)(h2:x<(a+1)*(a+1))(h3:b*b≤x)(h4:x<(b+1)*(b+1)):a=b:=by
 rcases Nat.lt_trichotomy a b with h|h|h
 ·have:=Nat.mul_le_mul (show a+1≤b from h) (show a+1≤b from h); omega
 ·exact h
 ·have:=Nat.mul_le_mul (show b+1≤a from h) (show b+1≤a from h); omega
end Tr
namespace Go.Proofs.YtgjkifdilflcbaaGreat
open Go.RowKit Tr
def OwnI(B:Nat)(z:Int)(w:World):Prop:=∃ C,w.heap[B]?=some (.cells C 118 (0,0))∧0+1<C.size∧NoW (.cells C 118 (0,0))∧IntP z (.pointer (some ⟨B,0,none⟩)) w NoA
theorem Put.own{B:Nat}{C:Array Value}{z:Int}{w w':World}(h:Put B 0 C 118 z w w')(ho:0+1<C.size)(hC:NoW (.cells C 118 (0,0))):OwnI B z w':=by
 have h1:=h.intP ho (A:=NoA) (fun _ h=>h.elim)
 obtain⟨h2,sl,h3,h4⟩:=h
 obtain⟨p,cap,rfl,_,_⟩:=id h4
 refine⟨_,h3,by simpa using ho,?_,h1.noA⟩
 intro cs T' fr e i k x hx
 cases e
 rw[Array.getElem?_setIfInBounds] at hx
 split at hx
 ·first|(split at hx<;>simp at hx; done)|(simp at hx; done)
 ·rw[Array.getElem?_setIfInBounds] at hx
  split at hx
  ·first|(split at hx<;>simp at hx; done)|(simp at hx; done)
  ·exact hC C _ (0,0) rfl i k x hx
theorem wsl_nil(w:World):WSl w (.slice none 0 0) []:=⟨none,0,rfl,Nat.le_refl _,fun h=>absurd rfl h⟩
theorem len_of_lt{n k:Nat}(h:n<4294967296 ^ k)(hk:k<274877906944):(words n).length<274877906944:=Nat.lt_of_le_of_lt (words_length_le h) hk
theorem sum_lt{a b i j:Nat}(h:a<4294967296 ^ i)(k:b<4294967296 ^ j):a+b<4294967296 ^ (i+j+1):=by
 have h1:4294967296 ^ i≤4294967296 ^ (i+j):=Nat.pow_le_pow_right (by decide) (by omega)
 have h2:4294967296 ^ j≤4294967296 ^ (i+j):=Nat.pow_le_pow_right (by decide) (by omega)
 rw[Nat.pow_succ]; omega
theorem shl_lt(k:Nat):2 ^ k<4294967296 ^ (k / 32+1):=by
 rw[show(4294967296:Nat)=2 ^ 32 by decide,←Nat.pow_mul]
 exact Nat.pow_lt_pow_right (by decide) (by omega)
theorem Sqrt_any(m o:Nat)(C:Array Value)(T:TypeId)(x R:Nat)(h1:R*R≤x)(h2:x<(R+1)*(R+1))(vx:Value)(A:Nat→Prop)(w:World)(hm:w.heap[m]?=some (.cells C T (0,0)))(ho:o+1<C.size)(hC:NoW (.cells C T (0,0)))(hx:IntP (x:Int) vx w A)(hn:(words x).length<1073741824) :
  Calls Tryz.prog 156 #[.pointer (some ⟨m,o,none⟩),vx] w fun e w'=>e=.returned (.pointer (some ⟨m,o,none⟩))∧Put m o C T (R:Int) w w':=by
 have hmlt:m<w.heap.size:=(Array.getElem?_eq_some_iff.1 hm).1
 have hsign:=Sign_any (x:Int) vx A w hx
 have HS:=Lib.hid hsign
 clear hsign
 by_cases hz:x=0
 ·have hR:R=0:=by
   rcases Nat.eq_zero_or_pos R with h|h
   ·exact h
   ·have:=Nat.mul_le_mul h h; omega
  subst hR
  have his:=is_put m o C T false [] (.slice none 0 0) w 0 hm ho hC wok_nil (wsl_nil w) (by simp) (by simp[wv]) (by simp)
  have HI:=Lib.hid his
  have e0:(x:Int).sign=0:=by rw[hz]; rfl
  have HE:=Lib.hid e0
  clear his hm hC hx e0
  go_enter Tryz.func156,Tryz.ntmps156
  go_wp2_with (first
   | (go_at_call 71; refine HS.out.mono ?_; rintro e w' ⟨rfl,rfl⟩; rw[HE.out])
   | (go_at_call 120; refine HI.out.mono ?_; rintro e w' ⟨rfl,hp⟩))
  go_ret
  exact⟨rfl,hp⟩
 ·have hpos:0<x:=Nat.pos_of_ne_zero hz
  have e1:(x:Int).sign=1:=Int.sign_eq_one_of_pos (by omega)
  have hx0:IntP (x:Int) vx w NoA:=hx.noA
  have hbit:=fun(w1:World) (hb:Below w.heap.size w w1)=>BitLen_any (x:Int) vx NoA w1 (hx0.below hb) (by rw[show((x:Int)).natAbs=x from rfl]; omega)
  have HB:=Lib.hid hbit
  have HE:=Lib.hid e1
  have HM:=Lib.hid (And.intro hm hC)
  have HX:=Lib.hid hx0
  have HN:=Lib.hid hn
  clear hm hC hx hx0 e1 hbit hn hz
  go_enter Tryz.func156,Tryz.ntmps156
  go_wp2_with (first
   | (go_at_call 71; refine HS.out.mono ?_; rintro e w' ⟨rfl,rfl⟩; rw[HE.out])
   | (go_at_call 70; refine(newInt_any 1 (by decide) (by decide) _).mono ?_; rintro e w2 ⟨v1,rfl,hv1⟩))
  have hb2:Below w.heap.size w w2:=(br.alloc (Nat.le_refl _) _).trans (hv1.1.mono (by simp))
  refine(HB.out w2 hb2).mono ?_
  rintro e w3 ⟨N,rfl,hN,hN2,hb3⟩
  have e2:(N:Int).tdiv 2=((N / 2:Nat):Int):=by rw[Int.tdiv_eq_ediv_of_nonneg (by omega)]; omega
  have hN3:N<34359738368:=by
   have:=HN.out
   rw[show((x:Int)).natAbs=x from rfl] at hN2; omega
  have e3:IntKind.u64.wrap (((N / 2:Nat):Int)+1)=((N / 2+1:Nat):Int):=by rw[IntKind.wrap_u64]; omega
  have e4:IntKind.i64.wrap (((N / 2:Nat):Int)+1)=((N / 2:Nat):Int)+1:=by rw[IntKind.wrap_i64]; omega
  go_wp2_with fail
  have e5:((N:Int) / 2+1)=((N / 2+1:Nat):Int):=by omega
  rw[e5]
  have k1:w2.heap[w.heap.size]?=some (.cells #[.bool false,.slice none 0 0] 118 (0,0)):=(hv1.1.block _ (by simp)).trans (heap_alloc_new w _)
  have k2:=(hb3.block w.heap.size (Array.getElem?_eq_some_iff.1 k1).1).trans k1
  have hi1:IntP (1:Int) v1 w3 NoA:=(hv1.2 NoA (fun _ h=>h.elim)).below hb3
  have hsl:=shl_lt (N / 2+1)
  refine(Lsh_any w.heap.size 0 _ _ (1:Int) v1 (N / 2+1) NoA w3 k2 (by decide) noW_zInt hi1 (by rw[show(1:Int).natAbs=1 from rfl]; exact len_of_lt (k:=1) (by decide) (by decide)) (by omega) (by
   rw[show(1:Int).natAbs=1 from rfl,Nat.one_mul]
   exact Nat.lt_of_le_of_lt (words_length_le hsl) (by omega))).mono ?_
  rintro e w4 ⟨rfl,hp4⟩
  obtain⟨C4,_,_,_,hi4⟩:=hp4.own (by decide) noW_zInt
  rw[Int.one_mul,show(2:Int) ^ (N / 2+1)=((2 ^ (N / 2+1):Nat):Int) by simp] at hi4
  have hb4:Below w.heap.size w w4:=(hb2.trans (hb3.mono hb2.size)).trans (hp4.1.below (Nat.le_refl _) (Nat.le_trans hb2.size hb3.size))
  have hf:=newton_first (x:=x) hN.out.1
  have hK:N / 2<17179869184:=by omega
  obtain⟨K,hKe⟩:∃ K,K=(N / 2+1) / 32+1:=⟨_,rfl⟩
  have hK2:K<536870914:=by omega
  rw[←hKe] at hsl
  obtain⟨g0,hg0⟩:∃ g0,g0=2 ^ (N / 2+1):=⟨_,rfl⟩
  have hg1:0<g0:=by rw[hg0]; exact Nat.two_pow_pos _
  rw[←hg0] at hf hsl hi4
  have HF:=Lib.hid (And.intro hf (And.intro hsl hg1))
  clear hf hsl hN hp4 hi1 k1 k2 hv1 hb3 hb2 e3 e4 e5 e2 hK hKe hg0 hg1 hN2 hN3
  go_wp2_with fail
  go_loopg [5,6] g0 (fun g p q wr=>IntP (g:Int) p wr NoA∧Hid (0<g)∧Hid (x<(g+1)*(g+1))∧Hid (g<4294967296 ^ K)∧Below w.heap.size w wr)
  case atStart=>exact⟨hi4,Lib.hid HF.out.2.2,Lib.hid HF.out.1,Lib.hid HF.out.2.1,hb4⟩
  case round =>
   obtain⟨hr,hg,hf,hl,hB⟩:=hrel
   have hxb:∀{w1:World},Below w.heap.size w w1→IntP (x:Int) vx w1 NoA:=fun h=>HX.out.below h
   have hlx:(words ((x:Int)).natAbs).length<274877906944:=by have:=HN.out; rw[show((x:Int)).natAbs=x from rfl]; omega
   have hlg:(words ((gk:Int)).natAbs).length<274877906944:=len_of_lt hl.out (by omega)
   have hq:x / gk<4294967296 ^ (words x).length:=Nat.lt_of_le_of_lt (Nat.div_le_self _ _) (lt_words x)
   have hsum:=sum_lt hq hl.out
   have hlq:=len_of_lt hq (by have:=HN.out; omega)
   have hls:=len_of_lt hsum (by have:=HN.out; omega)
   have hlr:(words ((x / gk+gk) / 2 ^ 1)).length<274877906944:=len_of_lt (Nat.lt_of_le_of_lt (Nat.div_le_self _ _) hsum) (by have:=HN.out; omega)
   have hsK:(x / gk+gk) / 2 ^ 1<gk→(x / gk+gk) / 2 ^ 1<4294967296 ^ K:=fun h=>Nat.lt_trans h hl.out
   have hstep:=newton_step (x:=x) hg.out
   have hspos:=newton_pos hpos hg.out
   have hend:=newton_end (x:=x) (r:=gk)
   obtain⟨s,hs⟩:∃ s,s=(x / gk+gk) / 2 ^ 1:=⟨_,rfl⟩
   rw[show(x / gk+gk) / 2=s by rw[hs]] at hstep hspos hend
   rw[←hs] at hlr hsK
   have HS2:=Lib.hid hs
   have HL:=Lib.hid (And.intro hlx (And.intro hlg (And.intro hlq (And.intro hls hlr))))
   have HW:=Lib.hid (And.intro hstep (And.intro hspos (And.intro hend hsK)))
   have HG:=Lib.hid (show(gk:Int)≠0 by have:=hg.out; omega)
   clear hq hsum hlx hlg hlq hls hlr hsK hstep hspos hend hs
   go_wp2_with fail
   have hb0:Below wr.heap.size wr (wr.alloc (.cells #[.bool false,.slice none 0 0] 118)):=br.alloc (Nat.le_refl _) _
   refine(Quo_any wr.heap.size 0 _ _ (x:Int) (gk:Int) HG.out vx u5 NoA _ (heap_alloc_new wr _) (by decide) noW_zInt (hxb (hB.trans (hb0.mono hB.size))) (hr.below hb0) HL.out.1).mono ?_
   rintro e w5 ⟨rfl,hp5⟩
   rw[show((x:Int)).tdiv (gk:Int)=((x / gk:Nat):Int) from rfl] at hp5
   obtain⟨C5,a1,a2,a3,a4⟩:=hp5.own (by decide) noW_zInt
   have hb5:Below wr.heap.size wr w5:=hb0.trans (hp5.1.below (Nat.le_refl _) hb0.size)
   go_wp2_with fail
   refine(Add_any wr.heap.size 0 C5 _ ((x / gk:Nat):Int) (gk:Int) _ u5 NoA w5 a1 a2 a3 a4 (hr.below hb5) HL.out.2.2.1 HL.out.2.1).mono ?_
   rintro e w6 ⟨rfl,hp6⟩
   rw[show((x / gk:Nat):Int)+(gk:Int)=((x / gk+gk:Nat):Int) by omega] at hp6
   obtain⟨C6,c1,c2,c3,c4⟩:=hp6.own a2 a3
   have hb6:Below wr.heap.size wr w6:=hb5.trans (hp6.1.below (Nat.le_refl _) hb5.size)
   go_wp2_with fail
   refine(Rsh_any wr.heap.size 0 C6 _ (x / gk+gk) _ 1 NoA w6 c1 c2 c3 c4 HL.out.2.2.2.1 (by decide)).mono ?_
   rintro e w7 ⟨rfl,hp7⟩
   rw[←HS2.out] at hp7
   obtain⟨C7,d1,d2,d3,d4⟩:=hp7.own c2 c3
   have hb7:Below wr.heap.size wr w7:=hb6.trans (hp7.1.below (Nat.le_refl _) hb6.size)
   clear hp5 hp6 hp7 a1 a2 a3 a4 c1 c2 c3 c4
   go_wp2_with fail
   refine(Cmp_any (s:Int) (gk:Int) _ u5 NoA w7 d4 (hr.below hb7) HL.out.2.2.2.2 HL.out.2.1).mono ?_
   rintro e w8 ⟨rfl,hb8⟩
   have hb9:Below wr.heap.size wr w8:=hb7.trans (hb8.mono hb7.size)
   by_cases hc:s<gk
   ·rw[show cmpI (s:Int) (gk:Int)=-1 by unfold cmpI; rw[if_pos (by omega)]]
    go_wp2_with fail
    go_roundg s
    case rel=>exact⟨d4.below hb8,Lib.hid HW.out.2.1,Lib.hid HW.out.1,Lib.hid (HW.out.2.2.2 hc),hB.trans (hb9.mono hB.size)⟩
    case measure=>exact hc
   ·have hR:gk=R:=root_one (HW.out.2.2.1 (by omega)) hf.out h1 h2
    have hset:=set_any m o C T (gk:Int) u5 NoA w8 ((hb9.block m (by have:=hB.size; omega)).trans ((hB.block m hmlt).trans HM.out.1)) ho HM.out.2 (hr.below hb9) HL.out.2.1
    have HT:=Lib.hid hset
    have hfin:Below w.heap.size w w8:=hB.trans (hb9.mono hB.size)
    clear hset d1 d2 d3 d4 hr
    by_cases hc2:gk<s
    ·rw[show cmpI (s:Int) (gk:Int)=1 by unfold cmpI; rw[if_neg (by omega),if_pos (by omega)]]
     go_wp2_with (go_at_call 140; refine HT.out.mono ?_; rintro e w9 ⟨rfl,hp9⟩)
     go_ret
     rw[hR] at hp9
     exact⟨rfl,hp9.below hfin⟩
    ·rw[show cmpI (s:Int) (gk:Int)=0 by unfold cmpI; rw[if_neg (by omega),if_neg (by omega)]]
     go_wp2_with (go_at_call 140; refine HT.out.mono ?_; rintro e w9 ⟨rfl,hp9⟩)
     go_ret
     rw[hR] at hp9
     exact⟨rfl,hp9.below hfin⟩
end Go.Proofs.YtgjkifdilflcbaaGreat
