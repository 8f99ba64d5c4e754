/- Laws for the walk. -/
import Derived.Test.YthklnbaddobieaaGreatUzz
import Derived.WalkKit
import Derived.WalkLawsBesides
import Derived.Deep.Draws
import Derived.Deep.QuietTactic
import Derived.BigQuiet
import Derived.StillTailTactics
import Derived.Test.YthklnbaddobieaaGreatRows
import Derived.WalkSpells
import Derived.Lib.Hide
set_option linter.unusedVariables false
set_option maxHeartbeats 4000000
namespace Tr
def wv:List Nat→Nat
 | []=>0
 | x :: l=>x+4294967296*wv l
def WOk(l:List Nat):Prop:=∀ x∈l,x<4294967296
def WNorm(l:List Nat):Prop:=∀ l' x,l=l'++[x]→x≠0
def words(n:Nat):List Nat:=if h:n=0 then[] else n % 4294967296 :: words (n / 4294967296)
termination_by n
decreasing_by omega
theorem words_zero:words 0=[]:=by unfold words; rfl
theorem words_pos{n:Nat}(h:n≠0):words n=n % 4294967296 :: words (n / 4294967296):=by
 rw[words,dif_neg h]
theorem wv_nil:wv []=0:=rfl
theorem wv_cons(x:Nat)(l:List Nat):wv (x :: l)=x+4294967296*wv l:=rfl
theorem wv_words(n:Nat):wv (words n)=n:=by
 induction n using Nat.strongRecOn with
 | ind n ih =>
  by_cases h:n=0
  ·subst h; rw[words_zero]; rfl
  ·rw[words_pos h,wv_cons,ih (n / 4294967296) (by omega)]; omega
theorem wok_nil:WOk []:=fun _ h=>by cases h
theorem wok_cons{x:Nat}{l:List Nat}:WOk (x :: l)↔x<4294967296∧WOk l:=by
 unfold WOk; simp
theorem wok_append{a b:List Nat}:WOk (a++b)↔WOk a∧WOk b:=by
 unfold WOk; simp only[List.mem_append]
 exact⟨fun h=>⟨fun x hx=>h x (.inl hx),fun x hx=>h x (.inr hx)⟩,fun h x hx=>hx.elim (h.1 x) (h.2 x)⟩
theorem wok_words(n:Nat):WOk (words n):=by
 induction n using Nat.strongRecOn with
 | ind n ih =>
  by_cases h:n=0
  ·subst h; rw[words_zero]; exact wok_nil
  ·rw[words_pos h,wok_cons]; exact⟨Nat.mod_lt _ (by decide),ih (n / 4294967296) (by omega)⟩
theorem words_eq_nil{n:Nat}:words n=[]↔n=0:=by
 constructor
 ·intro h
  by_cases h0:n=0
  ·exact h0
  ·rw[words_pos h0] at h; cases h
 ·rintro rfl; exact words_zero
theorem wnorm_nil:WNorm []:=fun l' x h=>by simp at h
theorem wnorm_words(n:Nat):WNorm (words n):=by
 induction n using Nat.strongRecOn with
 | ind n ih =>
  by_cases h:n=0
  ·subst h; rw[words_zero]; exact wnorm_nil
  ·rw[words_pos h]
   intro l' x hl
   cases l' with
   | nil =>
    simp at hl
    have:=words_eq_nil.1 hl.2
    omega
   | cons y l' =>
    simp at hl
    exact ih (n / 4294967296) (by omega) l' x hl.2
theorem wv_append(a b:List Nat):wv (a++b)=wv a+4294967296 ^ a.length*wv b:=by
 induction a with
 | nil=>simp[wv]
 | cons x a ih =>
  rw[List.cons_append,wv_cons,wv_cons,ih,List.length_cons,Nat.pow_succ,Nat.mul_add,←Nat.mul_assoc,Nat.mul_comm (4294967296 ^ a.length)]
  omega
theorem wv_lt{l:List Nat}(h:WOk l):wv l<4294967296 ^ l.length:=by
 induction l with
 | nil=>simp[wv]
 | cons x l ih =>
  obtain⟨hx,hl⟩:=wok_cons.1 h
  have:=ih hl
  rw[wv_cons,List.length_cons,Nat.pow_succ]
  omega
theorem wv_snoc(l:List Nat)(x:Nat):wv (l++[x])=wv l+4294967296 ^ l.length*x:=by
 rw[wv_append]; simp[wv]
theorem words_of{l:List Nat}(h:WOk l)(hn:WNorm l):words (wv l)=l:=by
 induction l with
 | nil=>exact words_zero
 | cons x l ih =>
  obtain⟨hx,hl⟩:=wok_cons.1 h
  have hn':WNorm l:=fun l' y e=>hn (x :: l') y (by rw[e]; rfl)
  have ih':=ih hl hn'
  by_cases h0:wv (x :: l)=0
  ·exfalso
   rw[wv_cons] at h0
   have h1:x=0:=by omega
   have h2:wv l=0:=by omega
   rw[h2,words_zero] at ih'
   subst ih'
   exact hn [] x rfl h1
  ·rw[words_pos h0,wv_cons]
   have e1:(x+4294967296*wv l) % 4294967296=x:=by omega
   have e2:(x+4294967296*wv l) / 4294967296=wv l:=by omega
   rw[e1,e2,ih']
theorem words_ext{l:List Nat}{n:Nat}(h:WOk l)(hn:WNorm l)(hv:wv l=n):l=words n:=by rw[←hv,words_of h hn]
theorem wv_zeros{l:List Nat}(h:∀ x∈l,x=0):wv l=0:=by
 induction l with
 | nil=>rfl
 | cons x l ih =>
  rw[wv_cons,h x (by simp),ih (fun y hy=>h y (by simp[hy]))]
theorem take_words{l:List Nat}{k:Nat}(hk:k≤l.length)(h:WOk l)(hz:∀ j,k≤j→j<l.length→l[j]?.getD 0=0)(hl:k=0∨l[k - 1]?.getD 0≠0) :
  l.take k=words (wv l):=by
 have hsplit:=(List.take_append_drop k l).symm
 have hd:wv (l.drop k)=0:=by
  refine wv_zeros fun x hx=>?_
  obtain⟨i,hi,rfl⟩:=List.getElem_of_mem hx
  simp at hi
  have:=hz (k+i) (by omega) (by omega)
  rw[List.getElem?_eq_getElem (by omega)] at this
  simpa using this
 have hv:wv (l.take k)=wv l:=by
  rw[hsplit,wv_append,hd]; simp
 refine words_ext (fun x hx=>h x (List.mem_of_mem_take hx)) ?_ hv
 intro l' x e
 rcases hl with rfl|hl
 ·simp at e
 ·have hlen:(l.take k).length=k:=by simp; omega
  have h2:l'.length+1=k:=by rw[←hlen,e]; simp
  have h3:(l.take k)[k - 1]?=some x:=by rw[e,show k - 1=l'.length by omega]; simp
  rw[List.getElem?_take_of_lt (by omega)] at h3
  rw[h3] at hl
  simpa using hl
theorem words_length_le{n k:Nat}(h:n<4294967296 ^ k):(words n).length≤k:=by
 induction k generalizing n with
 | zero=>simp at h; subst h; rw[words_zero]; simp
 | succ k ih =>
  by_cases h0:n=0
  ·subst h0; rw[words_zero]; simp
  ·rw[words_pos h0,List.length_cons]
   have:=ih (n:=n / 4294967296) (by rw[Nat.pow_succ] at h; exact Nat.div_lt_of_lt_mul (by rw[Nat.mul_comm]; exact h))
   omega
theorem words_length_gt{n k:Nat}(h:4294967296 ^ k≤n):k<(words n).length:=by
 rcases Nat.lt_or_ge k (words n).length with h1|h1
 ·exact h1
 ·have:=wv_lt (wok_words n)
  rw[wv_words] at this
  have:=Nat.pow_le_pow_right (show 0<4294967296 by decide) h1
  omega
theorem lt_words(n:Nat):n<4294967296 ^ (words n).length:=by
 have:=wv_lt (wok_words n); rwa[wv_words] at this
def cmpZ(a b:Nat):Int:=if a<b then -1 else if b<a then 1 else 0
theorem cmp_shorter{a b:Nat}(h:(words a).length<(words b).length):a<b:=by
 rcases Nat.lt_or_ge a b with h1|h1
 ·exact h1
 ·have:=words_length_le (n:=b) (k:=(words a).length) (Nat.lt_of_le_of_lt h1 (lt_words a))
  omega
theorem wv_split{l:List Nat}{i:Nat}(h:i<l.length):wv l=wv (l.take i)+4294967296 ^ i*(l[i]+4294967296*wv (l.drop (i+1))):=by
 have h1:l=l.take i++(l[i] :: l.drop (i+1)):=by
  rw[←List.drop_eq_getElem_cons h,List.take_append_drop]
 have h2:(l.take i).length=i:=by simp; omega
 conv=>lhs; rw[h1]
 rw[wv_append,wv_cons,h2]
theorem lt_of_word{a b:List Nat}{i:Nat}(ha:WOk a)(hi:i<a.length)(hj:i<b.length)(hd:a.drop (i+1)=b.drop (i+1))(h:a[i]<b[i]):wv a<wv b:=by
 rw[wv_split hi,wv_split hj,hd]
 have h1:=wv_lt (l:=a.take i) (fun x hx=>ha x (List.mem_of_mem_take hx))
 have h2:(a.take i).length=i:=by simp; omega
 rw[h2] at h1
 generalize 4294967296 ^ i=P at *
 have h3:P*(a[i]+4294967296*wv (b.drop (i+1)))+P≤P*(b[i]+4294967296*wv (b.drop (i+1))):=by
  rw[←Nat.mul_succ]
  exact Nat.mul_le_mul_left _ (by omega)
 omega
theorem wv_set{l:List Nat}{i:Nat}(h:i<l.length)(x:Nat):wv (l.set i x)+4294967296 ^ i*l[i]=wv l+4294967296 ^ i*x:=by
 have h1:=wv_split (l:=l.set i x) (i:=i) (by simpa using h)
 have h2:=wv_split h
 rw[List.take_set_of_le (Nat.le_refl i),List.drop_set_of_lt (by omega),List.getElem_set_self] at h1
 rw[h1,h2,Nat.mul_add,Nat.mul_add]
 omega
theorem wok_set{l:List Nat}(h:WOk l)(i x:Nat)(hx:x<4294967296):WOk (l.set i x):=by
 intro y hy
 rcases List.mem_or_eq_of_mem_set hy with h1|rfl
 ·exact h y h1
 ·exact hx
theorem wok_get{l:List Nat}(h:WOk l){i:Nat}(hi:i<l.length):l[i]<4294967296:=h _ (List.getElem_mem hi)
theorem wok_take{l:List Nat}(h:WOk l)(k:Nat):WOk (l.take k):=fun x hx=>h x (List.mem_of_mem_take hx)
theorem wok_drop{l:List Nat}(h:WOk l)(k:Nat):WOk (l.drop k):=fun x hx=>h x (List.mem_of_mem_drop hx)
theorem wok_replicate(n:Nat):WOk (List.replicate n 0):=fun x hx=>by simp at hx; omega
theorem wv_replicate(n:Nat):wv (List.replicate n 0)=0:=wv_zeros fun x hx=>by simp at hx; exact hx.2
theorem wv_take_succ{l:List Nat}{i:Nat}(h:i<l.length):wv (l.take (i+1))=wv (l.take i)+4294967296 ^ i*l[i]:=by
 rw[List.take_succ_eq_append_getElem h,wv_snoc]
 have h2:(l.take i).length=i:=by simp; omega
 rw[h2]
theorem wv_drop{l:List Nat}{i:Nat}(h:i<l.length):wv (l.drop i)=l[i]+4294967296*wv (l.drop (i+1)):=by
 rw[List.drop_eq_getElem_cons h,wv_cons]
def wat(l:List Nat)(i:Nat):Nat:=l[i]?.getD 0
theorem wat_lt{l:List Nat}(h:WOk l)(i:Nat):wat l i<4294967296:=by
 unfold wat
 by_cases hi:i<l.length
 ·rw[List.getElem?_eq_getElem hi]; exact wok_get h hi
 ·rw[List.getElem?_eq_none (by omega)]; decide
theorem wat_of{l:List Nat}{i:Nat}(h:i<l.length):wat l i=l[i]:=by unfold wat; rw[List.getElem?_eq_getElem h]; rfl
theorem wat_out{l:List Nat}{i:Nat}(h:l.length≤i):wat l i=0:=by unfold wat; rw[List.getElem?_eq_none h]; rfl
theorem wv_take_wat(l:List Nat)(i:Nat):wv (l.take (i+1))=wv (l.take i)+4294967296 ^ i*wat l i:=by
 by_cases h:i<l.length
 ·rw[wv_take_succ h,wat_of h]
 ·rw[wat_out (by omega),List.take_of_length_le (by omega),List.take_of_length_le (by omega)]; simp
theorem take_set_succ{l:List Nat}{i:Nat}(h:i<l.length)(x:Nat):(l.set i x).take (i+1)=l.take i++[x]:=by
 rw[List.take_succ_eq_append_getElem (by simpa using h),List.take_set_of_le (Nat.le_refl i),List.getElem_set_self]
theorem wv_take_set{l:List Nat}{i:Nat}(h:i<l.length)(x:Nat):wv ((l.set i x).take (i+1))=wv (l.take i)+4294967296 ^ i*x:=by
 rw[take_set_succ h,wv_snoc]
 have h2:(l.take i).length=i:=by simp; omega
 rw[h2]
theorem mul_split(P s:Nat):P*(s % 4294967296)+P*4294967296*(s / 4294967296)=P*s:=by
 have:P*s=P*(s % 4294967296+4294967296*(s / 4294967296)):=by rw[Nat.mod_add_div]
 rw[this,Nat.mul_add,Nat.mul_assoc]
theorem more_step{out la lb:List Nat}{i c:Nat}(ho:i<out.length)(h:wv (out.take i)+4294967296 ^ i*c=wv (la.take i)+wv (lb.take i)) :
  wv ((out.set i ((c+wat la i+wat lb i) % 4294967296)).take (i+1))+4294967296 ^ (i+1)*((c+wat la i+wat lb i) / 4294967296)=wv (la.take (i+1))+wv (lb.take (i+1)):=by
 rw[wv_take_set ho,wv_take_wat,wv_take_wat,Nat.pow_succ]
 have:=mul_split (4294967296 ^ i) (c+wat la i+wat lb i)
 rw[Nat.mul_add,Nat.mul_add] at this
 omega
theorem more_end{out la lb:List Nat}{n c:Nat}(ho:out.length=n+1)(ha:la.length=n)(hb:lb.length≤n)(h:wv (out.take n)+4294967296 ^ n*c=wv (la.take n)+wv (lb.take n)) :
  wv (out.set n c)=wv la+wv lb:=by
 have e:=wv_take_set (l:=out) (i:=n) (by omega) c
 rw[List.take_of_length_le (by simp; omega)] at e
 rw[e,h,List.take_of_length_le (by omega),List.take_of_length_le hb]
theorem less_step{out la lb:List Nat}{i c d:Nat}(ho:i<out.length){e:Nat}(he:wat la i+4294967296*e=d+wat lb i+c)(h:wv (out.take i)+wv (lb.take i)=wv (la.take i)+4294967296 ^ i*c) :
  wv ((out.set i d).take (i+1))+wv (lb.take (i+1))=wv (la.take (i+1))+4294967296 ^ (i+1)*e:=by
 rw[wv_take_set ho,wv_take_wat,wv_take_wat,Nat.pow_succ,Nat.mul_assoc]
 generalize 4294967296 ^ i=P at *
 have:P*(wat la i+4294967296*e)=P*(d+wat lb i+c):=by rw[he]
 rw[Nat.mul_add,Nat.mul_add,Nat.mul_add] at this
 omega
theorem less_end{out la lb:List Nat}{n c:Nat}(ho:out.length=n)(oo:WOk out)(ha:la.length=n)(hb:lb.length≤n)(hle:wv lb≤wv la)(h:wv (out.take n)+wv (lb.take n)=wv (la.take n)+4294967296 ^ n*c):wv out=wv la - wv lb:=by
 rw[List.take_of_length_le (by omega),List.take_of_length_le hb,List.take_of_length_le (by omega)] at h
 have h1:=wv_lt oo
 rw[ho] at h1
 have hc:c=0:=by
  rcases Nat.eq_zero_or_pos c with h0|h0
  ·exact h0
  ·have:4294967296 ^ n*1≤4294967296 ^ n*c:=Nat.mul_le_mul_left _ h0
   omega
 subst hc
 omega
end Tr
namespace Tr
open Go
theorem quiet_eq{P:Program}{f:FuncId}{args:Array Value}{w:World}{n:Nat}{v:Value}
  (h:Calls P f args (w.drewN n) fun e w'=>e=.returned v∧w.drewN n=w'):Calls P f args (w.drewN n) fun e w''=>e=.returned v∧∃ m,w''=w.drewN m :=
 h.mono fun _ _ ⟨he,hm⟩=>⟨he,n,hm.symm⟩
theorem wp_region_tail{P:Program}{id:Nat}{Q:Exit→Act→World→Prop}{a:Act}{w:World}{l:List Oper}(n:Nat)(hm:P.follows .mixedOrders=true)(hB:Region.lexTailB .any l.toArray n=true)
  (h:wpStill P l.toArray w.drew (fun a'=>wpList P l.toArray Q (l.drop n) a' w.drew) (l.take n) a):(Code.region id l.toArray true).wp P Q a w :=
 wp_region_still_tail n hm hB h
end Tr
namespace Go.Proofs.YthklnbaddobieaaGreat
open Go.RowKit Tr
def WSl(w:World)(v:Value)(l:List Nat):Prop :=
 ∃ p cap,v=.slice p l.length cap∧l.length≤cap∧(l≠[]→∃ b off,p=some ⟨b,off,none⟩∧b<w.heap.size∧∀ j,j<l.length→w.cell? ⟨b,off+j,none⟩=some (.int .u32 (l[j]?.getD 0:Nat)))
theorem WSl.nil(w:World):WSl w (.slice none 0 0) []:=⟨none,0,rfl,Nat.le_refl _,fun h=>absurd rfl h⟩
theorem WSl.below{w w':World}(hb:Below w.heap.size w w'){v:Value}{l:List Nat}(h:WSl w v l):WSl w' v l:=by
 obtain⟨p,cap,hv,hl,hc⟩:=h
 refine⟨p,cap,hv,hl,fun hne=>?_⟩
 obtain⟨b,off,hp,hbs,hcs⟩:=hc hne
 exact⟨b,off,hp,Nat.lt_of_lt_of_le hbs hb.size,fun j hj=>(hb.cell (p:=⟨b,off+j,none⟩) hbs).trans (hcs j hj)⟩
theorem WSl.drewN{w:World}{v:Value}{l:List Nat}(h:WSl w v l)(n:Nat):WSl (w.drewN n) v l:=h
def encW(l:List Nat):Array Value:=(l.map fun x:Nat=>Value.int .u32 (x:Int)).toArray
theorem size_encW(l:List Nat):(encW l).size=l.length:=by simp[encW]
def Blk(w:World)(B:Nat)(l:List Nat):Prop:=w.heap[B]?=some (.cells (encW l) 192 (0,0))
theorem Blk.cell{w:World}{B:Nat}{l:List Nat}(h:Blk w B l){i:Nat}(hi:i<l.length):w.cell? ⟨B,i,none⟩=some (.int .u32 (l[i]?.getD 0:Nat)):=by
 unfold Blk at h
 simp[World.cell?,h,encW,hi]
theorem Blk.frozen{w:World}{B:Nat}{l:List Nat}(h:Blk w B l)(i:Nat):w.frozen? ⟨B,i,none⟩=false:=by
 unfold Blk at h
 simp[World.frozen?,h]
theorem Blk.set{w:World}{B:Nat}{l:List Nat}(h:Blk w B l)(i x:Nat):Blk (w.setCell ⟨B,i,none⟩ (.int .u32 (x:Int))) B (l.set i x):=by
 unfold Blk at *
 simp only[World.setCell,Array.getElem?_modify,if_true,h,Option.map_some]
 simp[encW,List.map_set]
theorem Blk.lt{w:World}{B:Nat}{l:List Nat}(h:Blk w B l):B<w.heap.size:=(Array.getElem?_eq_some_iff.1 h).1
theorem Blk.drewN{w:World}{B:Nat}{l:List Nat}(h:Blk w B l)(n:Nat):Blk (w.drewN n) B l:=h
theorem Blk.new(w:World)(l:List Nat):Blk (w.alloc (.cells (encW l) 192)) w.heap.size l:=heap_alloc_new w _
theorem Blk.below{w w':World}{B:Nat}{l:List Nat}(h:Blk w B l)(hb:Below w.heap.size w w'):Blk w' B l:=(hb.block B h.lt).trans h
theorem Blk.wsl{w:World}{B:Nat}{l:List Nat}(h:Blk w B l){k cap:Nat}(hk:k≤l.length)(hc:k≤cap):WSl w (.slice (some ⟨B,0,none⟩) k cap) (l.take k):=by
 have hl:(l.take k).length=k:=by simp; omega
 refine⟨some ⟨B,0,none⟩,cap,by rw[hl],by omega,fun _=>⟨B,0,rfl,h.lt,fun j hj=>?_⟩⟩
 rw[hl] at hj
 rw[Nat.zero_add,h.cell (by omega),List.getElem?_take_of_lt hj]
theorem info_u32:((Tryz.prog).info? 192).map (fun i=>(i.zero,i.size,i.bytes))=some (some (.int .u32 0),1,4):=by kernel_rfl
theorem made_encW(n:Nat):madeCells (Value.int .u32 0).cells (n*1)=encW (List.replicate n 0):=by
 apply Array.ext
 ·simp[madeCells,encW]
 ·intro i h1 h2
  have e:i % 1=0:=Nat.mod_one i
  simp[madeCells,encW,Value.cells,e]
theorem run_mk(n:Nat)(hn:n<4398046511104)(w:World):(Instr.makeSlice 129 (.int .i64 (n:Int)) (.int .i64 (n:Int))).run Tryz.prog w
  = .ok (.slice (some ⟨w.heap.size,0,none⟩) n n) (w.alloc (.cells (encW (List.replicate n 0)) 192)):=by
 obtain⟨i,hi,hz,hs,hb⟩:=info_parts info_u32
 have:=run_make (P:=Tryz.prog) w 129 192 i (.int .u32 0) Tryz.underlying129 hi hz .i64 .i64 n n (by omega) (Int.le_refl _) (by rw[hb]; omega) (by omega)
 rw[this,hs,Int.toNat_natCast,made_encW]
end Go.Proofs.YthklnbaddobieaaGreat
namespace Go.Proofs.YthklnbaddobieaaGreat
open Go.RowKit Tr
theorem ret_int{k:IntKind}{a b:Int}(h:a=b):Ending.returned (.int k a)=.returned (.int k b):=by rw[h]
def Row(w:World)(p:Option Addr)(l:List Nat):Prop:=l≠[]→∃ b off,p=some ⟨b,off,none⟩∧b<w.heap.size∧∀ j,j<l.length→w.cell? ⟨b,off+j,none⟩=some (.int .u32 (l[j]?.getD 0:Nat))
theorem drop_all{la lb:List Nat}(h:la.drop 0=lb.drop 0):la=lb:=h
theorem drop_next{la lb:List Nat}{m:Nat}(ha:m<la.length)(hb:m<lb.length)(h:la.drop (m+1)=lb.drop (m+1))(he:la[m]?.getD 0=lb[m]?.getD 0):la.drop m=lb.drop m:=by
 rw[List.drop_eq_getElem_cons ha,List.drop_eq_getElem_cons hb,h]
 rw[List.getElem?_eq_getElem ha,List.getElem?_eq_getElem hb] at he
 simp at he; rw[he]
theorem cmp_less{la lb:List Nat}{m:Nat}(ha:m<la.length)(hb:m<lb.length)(oa:WOk la)(h:la.drop (m+1)=lb.drop (m+1))(he:la[m]?.getD 0<lb[m]?.getD 0):cmpZ (wv la) (wv lb)=-1:=by
 rw[List.getElem?_eq_getElem ha,List.getElem?_eq_getElem hb] at he
 unfold cmpZ; rw[if_pos (lt_of_word oa ha hb h he)]
theorem cmp_more{la lb:List Nat}{m:Nat}(ha:m<la.length)(hb:m<lb.length)(ob:WOk lb)(h:la.drop (m+1)=lb.drop (m+1))(he:lb[m]?.getD 0<la[m]?.getD 0):cmpZ (wv la) (wv lb)=1:=by
 rw[List.getElem?_eq_getElem ha,List.getElem?_eq_getElem hb] at he
 have:=lt_of_word ob hb ha h.symm he
 unfold cmpZ; rw[if_neg (by omega),if_pos this]
theorem cmp_same(a:Nat):cmpZ a a=0:=by unfold cmpZ; simp
theorem under_eq(la lb:List Nat)(n:Nat)(hna:la.length=n)(hnb:lb.length=n)(oa:WOk la)(ob:WOk lb)(pa pb:Option Addr)(ca cb:Nat)(w:World)(ha:Row w pa la)(hb:Row w pb lb)(hn:n<1099511627776) :
  Calls Tryz.prog 154 #[.slice pa n ca,.slice pb n cb] w fun e w'=>e=.returned (.int .i64 (cmpZ (wv la) (wv lb)))∧∃ n,w'=w.drewN n:=by
 have H:=Lib.hid (And.intro hna hnb)
 have HA:=Lib.hid ha
 have HB:=Lib.hid hb
 clear ha hb hna hnb
 go_enter Tryz.func154,Tryz.ntmps154
 go_wp2
 go_loopw [5] (fun i wr=>∃ k:Nat,k≤n∧i=.int .i64 ((k:Int) - 1)∧Hid (la.drop k=lb.drop k)∧∃ d,wr=w.drewN d) (fun i _=>(intOf i+1).toNat)
 case atStart =>
  refine⟨n,Nat.le_refl _,rfl,Lib.hid ?_,0,rfl⟩
  obtain⟨h1,h2⟩:=H.out
  rw[List.drop_eq_nil_of_le (by omega),List.drop_eq_nil_of_le (by omega)]
 case round =>
  obtain⟨k,hk,rfl,hd,d,rfl⟩:=hrel
  cases k with
  | zero =>
   have hz:Hid (cmpZ (wv la) (wv lb)=0):=Lib.hid (by rw[drop_all hd.out]; exact cmp_same _)
   go_wp2
   go_ret
   exact⟨ret_int hz.out.symm,d,rfl⟩
  | succ m =>
   have e:((m+1:Nat):Int) - 1=(m:Int):=by omega
   rw[e]
   clear e
   obtain⟨h1,h2⟩:=H.out
   obtain⟨ba,oa',rfl,_,hca⟩:=HA.out (by intro h; rw[h] at h1; simp at h1; omega)
   obtain⟨bb,ob',rfl,_,hcb⟩:=HB.out (by intro h; rw[h] at h2; simp at h2; omega)
   have ca0:=hca m (by omega)
   have cb0:=hcb m (by omega)
   have HD:=Lib.hid (And.intro h1 h2)
   clear hca hcb h1 h2
   have i0:(0:Int)≤(m:Int):=by omega
   have i1:(m:Int)<(n:Int):=by omega
   have hx:∀ x y:Nat,x<y→((x:Int)<(y:Int)):=fun x y h=>by omega
   rcases Nat.lt_trichotomy (la[m]?.getD 0) (lb[m]?.getD 0) with h|h|h
   ·have h':=hx _ _ h
    have hz:Hid (cmpZ (wv la) (wv lb)=-1):=Lib.hid (cmp_less (by have:=HD.out; omega) (by have:=HD.out; omega) oa hd.out h)
    clear h hx
    go_wp2
    go_quiet (fail)
    go_wp2
    go_ret
    exact⟨ret_int hz.out.symm,by first|exact⟨_,rfl⟩|(simp only[World.drewN_drewN]; exact⟨_,rfl⟩)⟩
   ·have hz:Hid (la.drop m=lb.drop m):=Lib.hid (drop_next (by have:=HD.out; omega) (by have:=HD.out; omega) hd.out h)
    have h1:¬((la[m]?.getD 0:Nat):Int)<((lb[m]?.getD 0:Nat):Int):=by omega
    have h2:¬((lb[m]?.getD 0:Nat):Int)<((la[m]?.getD 0:Nat):Int):=by omega
    clear h hx
    go_wp2
    go_quiet (fail)
    go_wp2
    go_quiet (fail)
    go_wp2
    go_roundw
    case rel=>exact⟨m,by omega,rfl,hz,by first|exact⟨_,rfl⟩|(simp only[World.drewN_drewN]; exact⟨_,rfl⟩)⟩
    case measure=>simp[intOf]
   ·have h':=hx _ _ h
    have h1:¬((la[m]?.getD 0:Nat):Int)<((lb[m]?.getD 0:Nat):Int):=by omega
    have hz:Hid (cmpZ (wv la) (wv lb)=1):=Lib.hid (cmp_more (by have:=HD.out; omega) (by have:=HD.out; omega) ob hd.out h)
    clear h hx
    go_wp2
    go_quiet (fail)
    go_wp2
    go_quiet (fail)
    go_wp2
    go_ret
    exact⟨ret_int hz.out.symm,by first|exact⟨_,rfl⟩|(simp only[World.drewN_drewN]; exact⟨_,rfl⟩)⟩
theorem cut_row(l:List Nat)(n:Nat)(hn:l.length=n)(ol:WOk l)(p:Option Addr)(c:Nat)(w:World)(hl:Row w p l)(hc:n≤c)(hm:n<1099511627776) :
  Calls Tryz.prog 201 #[.slice p n c] w fun e w'=>∃ k,k≤n∧l.take k=words (wv l)∧e=.returned (.slice p k c)∧w=w':=by
 have H:=Lib.hid hn
 have HL:=Lib.hid hl
 have hs:∀ k:Nat,k≤n→Hid (∀ j,k≤j→j<l.length→l[j]?.getD 0=0)→(k=0∨l[k - 1]?.getD 0≠0)→l.take k=words (wv l):=fun k hk hz hl=>take_words (by omega) ol hz.out hl
 have HS:=Lib.hid hs
 clear hl hn hs
 go_enter Tryz.func201,Tryz.ntmps201
 go_wp2
 go_loop [0] (fun v=>∃ k:Nat,k≤n∧v=.slice p k c∧Hid (∀ j,k≤j→j<l.length→l[j]?.getD 0=0)) (fun v=>match v with|.slice _ k _=>k|_=>0)
 case atStart =>
  exact⟨n,Nat.le_refl _,rfl,Lib.hid (fun j h1 h2=>by have:=H.out; omega)⟩
 case round =>
  obtain⟨k,hk,rfl,hz⟩:=hrel
  cases k with
  | zero =>
   go_wp2
   go_ret
   exact⟨0,Nat.zero_le _,HS.out 0 (Nat.zero_le _) hz (.inl rfl),rfl,rfl⟩
  | succ m =>
   obtain⟨b,off,rfl,_,hcl⟩:=HL.out (by intro h; have:=H.out; rw[h] at this; simp at this; omega)
   have hc0:=hcl m (by have:=H.out; omega)
   clear hcl
   by_cases h0:l[m]?.getD 0=0
   ·have hz':Hid (∀ j,m≤j→j<l.length→l[j]?.getD 0=0):=Lib.hid (fun j h1 h2=>by
     by_cases h:j=m
     ·rw[h]; exact h0
     ·exact hz.out j (by omega) h2)
    have hb:(((l[m]?.getD 0:Nat):Int) == 0)=true:=by rw[h0]; rfl
    clear h0
    go_wp2
    go_round
    case rel=>exact⟨m,by omega,rfl,hz'⟩
    case measure=>simp
   ·have hb:(((l[m]?.getD 0:Nat):Int) == 0)=false:=by simp; exact h0
    have ht:=HS.out (m+1) hk hz (.inr (by simpa using h0))
    have HT:=Lib.hid ht
    clear h0 ht
    go_wp2
    go_ret
    exact⟨m+1,hk,HT.out,rfl,rfl⟩
theorem under_any(a b:Nat)(va vb:Value)(w:World)(ha:WSl w va (words a))(hb:WSl w vb (words b))(hla:(words a).length<1099511627776) :
  Calls Tryz.prog 154 #[va,vb] w fun e w'=>e=.returned (.int .i64 (cmpZ a b))∧∃ n,w'=w.drewN n:=by
 obtain⟨pa,ca,rfl,hca,ha⟩:=ha
 obtain⟨pb,cb,rfl,hcb,hb⟩:=hb
 rcases Nat.lt_trichotomy (words a).length (words b).length with h|h|h
 ·have hz:cmpZ a b=-1:=by unfold cmpZ; rw[if_pos (cmp_shorter h)]
  go_enter Tryz.func154,Tryz.ntmps154
  go_wp2
  go_ret
  exact⟨ret_int hz.symm,0,rfl⟩
 ·rw[←h] at hb ⊢
  have:=under_eq (words a) (words b) _ rfl h.symm (wok_words a) (wok_words b) pa pb ca cb w ha (fun hne=>by obtain⟨b,off,h1,h2,h3⟩:=hb hne; exact⟨b,off,h1,h2,fun j hj=>h3 j (by omega)⟩) hla
  rwa[wv_words,wv_words] at this
 ·have hz:cmpZ a b=1:=by unfold cmpZ; rw[if_neg (by have:=cmp_shorter h; omega),if_pos (cmp_shorter h)]
  go_enter Tryz.func154,Tryz.ntmps154
  go_wp2
  go_ret
  exact⟨ret_int hz.symm,0,rfl⟩
end Go.Proofs.YthklnbaddobieaaGreat
namespace Go.Proofs.YthklnbaddobieaaGreat
open Go.RowKit Tr
theorem more_row(la lb:List Nat)(n m:Nat)(hna:la.length=n)(hnb:lb.length=m)(hmn:m≤n)(oa:WOk la)(ob:WOk lb)(pa pb:Option Addr)(ca cb:Nat)(w:World)(ha:Row w pa la)(hb:Row w pb lb)(hn:n<1099511627776) :
  Calls Tryz.prog 155 #[.slice pa n ca,.slice pb m cb] w fun e w'=>∃ out,out.length=n+1∧WOk out∧wv out=wv la+wv lb∧e=.returned (.slice (some ⟨w.heap.size,0,none⟩) (n+1) (n+1))∧Blk w' w.heap.size out∧Below w.heap.size w w':=by
 have H:=Lib.hid (And.intro hna hnb)
 have HA:=Lib.hid ha
 have HB:=Lib.hid hb
 have hmk:=run_mk (n+1) (by omega)
 have en:((n+1:Nat):Int)=(n:Int)+1:=by omega
 rw[en] at hmk
 have hlt:¬(n:Int)<(m:Int):=by omega
 clear ha hb hna hnb en
 go_enter Tryz.func155,Tryz.ntmps155
 go_wp2
 go_loopw [6,7,8,22] (fun c _ _ i wr=>∃(k cr:Nat) (out:List Nat),k≤n∧i=.int .i64 k∧c=.int .u64 cr∧cr≤1∧Hid (out.length=n+1)∧WOk out∧Hid (wv (out.take k)+4294967296 ^ k*cr=wv (la.take k)+wv (lb.take k))∧Blk wr w.heap.size out∧Below w.heap.size w wr)
  (fun _ _ _ i _=>n - (intOf i).toNat)
 case atStart =>
  exact⟨0,0,List.replicate (n+1) 0,Nat.zero_le _,rfl,rfl,by omega,Lib.hid (by simp),wok_replicate _,Lib.hid (by simp[wv]),Blk.new _ _,br.alloc (Nat.le_refl _) _⟩
 case round =>
  obtain⟨k,cr,out,hk,rfl,rfl,hcr,hlo,oo,hinv,hblk,hB⟩:=hrel
  by_cases hlt2:k<n
  ·obtain⟨b,off,rfl,hbs,hcl⟩:=HA.out (by intro h; have:=H.out.1; rw[h] at this; simp at this; omega)
   have c0:=(hB.cell (p:=⟨b,off+k,none⟩) hbs).trans (hcl k (by have:=H.out.1; omega))
   have c1:=hblk.cell (i:=k) (by have:=hlo.out; omega)
   have c2:=hblk.frozen k
   have bx:la[k]?.getD 0<4294967296:=wat_lt oa k
   clear hcl
   by_cases hkm:k<m
   ·obtain⟨b2,off2,rfl,hbs2,hcl2⟩:=HB.out (by intro h; have:=H.out.2; rw[h] at this; simp at this; omega)
    have c3:=(hB.cell (p:=⟨b2,off2+k,none⟩) hbs2).trans (hcl2 k (by have:=H.out.2; omega))
    have by_:lb[k]?.getD 0<4294967296:=wat_lt ob k
    clear hcl2
    have e1:((cr:Int)+(la[k]?.getD 0:Nat)+(lb[k]?.getD 0:Nat)) % 4294967296=((cr+wat la k+wat lb k) % 4294967296:Nat):=by unfold wat; omega
    have e2:((cr:Int)+(la[k]?.getD 0:Nat)+(lb[k]?.getD 0:Nat)) / 4294967296=((cr+wat la k+wat lb k) / 4294967296:Nat):=by unfold wat; omega
    have E:=Lib.hid (And.intro e1 e2)
    have hst:=Lib.hid (more_step (by have:=hlo.out; omega) hinv.out)
    have hcr':(cr+wat la k+wat lb k) / 4294967296≤1:=by unfold wat; omega
    clear e1 e2
    go_wp2
    go_roundw
    case rel =>
     rw[E.out.1,E.out.2]
     exact⟨k+1,_,_,by omega,by go_num,rfl,hcr',Lib.hid (by have:=hlo.out; simpa using this),wok_set oo k _ (Nat.mod_lt _ (by decide)),hst,hblk.set k _,hB.setCell (p:=⟨w.heap.size,k,none⟩) (Nat.le_refl _) _⟩
    case measure=>simp[intOf]; omega
   ·have hw0:wat lb k=0:=wat_out (by have:=H.out.2; omega)
    have e1:((cr:Int)+(la[k]?.getD 0:Nat)) % 4294967296=((cr+wat la k+wat lb k) % 4294967296:Nat):=by rw[hw0]; unfold wat; omega
    have e2:((cr:Int)+(la[k]?.getD 0:Nat)) / 4294967296=((cr+wat la k+wat lb k) / 4294967296:Nat):=by rw[hw0]; unfold wat; omega
    have E:=Lib.hid (And.intro e1 e2)
    have hst:=Lib.hid (more_step (by have:=hlo.out; omega) hinv.out)
    have hcr':(cr+wat la k+wat lb k) / 4294967296≤1:=by rw[hw0]; unfold wat; omega
    clear e1 e2 hw0
    go_wp2
    go_roundw
    case rel =>
     rw[E.out.1,E.out.2]
     exact⟨k+1,_,_,by omega,by go_num,rfl,hcr',Lib.hid (by have:=hlo.out; simpa using this),wok_set oo k _ (Nat.mod_lt _ (by decide)),hst,hblk.set k _,hB.setCell (p:=⟨w.heap.size,k,none⟩) (Nat.le_refl _) _⟩
    case measure=>simp[intOf]; omega
  ·obtain rfl:n=k:=by omega
   have c1:=hblk.cell (i:=n) (by have:=hlo.out; omega)
   have c2:=hblk.frozen n
   have hfin:=Lib.hid (more_end hlo.out H.out.1 (by have:=H.out.2; omega) hinv.out)
   go_wp2
   go_ret
   refine⟨out.set n cr,by have:=hlo.out; simpa using this,wok_set oo _ _ (by omega),hfin.out,rfl,hblk.set n cr,hB.setCell (p:=⟨w.heap.size,n,none⟩) (Nat.le_refl _) _⟩
theorem more_swap(la lb:List Nat)(n m:Nat)(hna:la.length=n)(hnb:lb.length=m)(hmn:m<n)(oa:WOk la)(ob:WOk lb)(pa pb:Option Addr)(ca cb:Nat)(w:World)(ha:Row w pa la)(hb:Row w pb lb)(hn:n<1099511627776) :
  Calls Tryz.prog 155 #[.slice pb m cb,.slice pa n ca] w fun e w'=>∃ out,out.length=n+1∧WOk out∧wv out=wv la+wv lb∧e=.returned (.slice (some ⟨w.heap.size,0,none⟩) (n+1) (n+1))∧Blk w' w.heap.size out∧Below w.heap.size w w':=by
 have H:=Lib.hid (And.intro hna hnb)
 have HA:=Lib.hid ha
 have HB:=Lib.hid hb
 have hmk:=run_mk (n+1) (by omega)
 have en:((n+1:Nat):Int)=(n:Int)+1:=by omega
 rw[en] at hmk
 have hlt:(m:Int)<(n:Int):=by omega
 clear ha hb hna hnb en
 go_enter Tryz.func155,Tryz.ntmps155
 go_wp2
 go_loopw [6,7,8,22] (fun c _ _ i wr=>∃(k cr:Nat) (out:List Nat),k≤n∧i=.int .i64 k∧c=.int .u64 cr∧cr≤1∧Hid (out.length=n+1)∧WOk out∧Hid (wv (out.take k)+4294967296 ^ k*cr=wv (la.take k)+wv (lb.take k))∧Blk wr w.heap.size out∧Below w.heap.size w wr)
  (fun _ _ _ i _=>n - (intOf i).toNat)
 case atStart =>
  exact⟨0,0,List.replicate (n+1) 0,Nat.zero_le _,rfl,rfl,by omega,Lib.hid (by simp),wok_replicate _,Lib.hid (by simp[wv]),Blk.new _ _,br.alloc (Nat.le_refl _) _⟩
 case round =>
  obtain⟨k,cr,out,hk,rfl,rfl,hcr,hlo,oo,hinv,hblk,hB⟩:=hrel
  by_cases hlt2:k<n
  ·obtain⟨b,off,rfl,hbs,hcl⟩:=HA.out (by intro h; have:=H.out.1; rw[h] at this; simp at this; omega)
   have c0:=(hB.cell (p:=⟨b,off+k,none⟩) hbs).trans (hcl k (by have:=H.out.1; omega))
   have c1:=hblk.cell (i:=k) (by have:=hlo.out; omega)
   have c2:=hblk.frozen k
   have bx:la[k]?.getD 0<4294967296:=wat_lt oa k
   clear hcl
   by_cases hkm:k<m
   ·obtain⟨b2,off2,rfl,hbs2,hcl2⟩:=HB.out (by intro h; have:=H.out.2; rw[h] at this; simp at this; omega)
    have c3:=(hB.cell (p:=⟨b2,off2+k,none⟩) hbs2).trans (hcl2 k (by have:=H.out.2; omega))
    have by_:lb[k]?.getD 0<4294967296:=wat_lt ob k
    clear hcl2
    have e1:((cr:Int)+(la[k]?.getD 0:Nat)+(lb[k]?.getD 0:Nat)) % 4294967296=((cr+wat la k+wat lb k) % 4294967296:Nat):=by unfold wat; omega
    have e2:((cr:Int)+(la[k]?.getD 0:Nat)+(lb[k]?.getD 0:Nat)) / 4294967296=((cr+wat la k+wat lb k) / 4294967296:Nat):=by unfold wat; omega
    have E:=Lib.hid (And.intro e1 e2)
    have hst:=Lib.hid (more_step (by have:=hlo.out; omega) hinv.out)
    have hcr':(cr+wat la k+wat lb k) / 4294967296≤1:=by unfold wat; omega
    clear e1 e2
    go_wp2
    go_roundw
    case rel =>
     rw[E.out.1,E.out.2]
     exact⟨k+1,_,_,by omega,by go_num,rfl,hcr',Lib.hid (by have:=hlo.out; simpa using this),wok_set oo k _ (Nat.mod_lt _ (by decide)),hst,hblk.set k _,hB.setCell (p:=⟨w.heap.size,k,none⟩) (Nat.le_refl _) _⟩
    case measure=>simp[intOf]; omega
   ·have hw0:wat lb k=0:=wat_out (by have:=H.out.2; omega)
    have e1:((cr:Int)+(la[k]?.getD 0:Nat)) % 4294967296=((cr+wat la k+wat lb k) % 4294967296:Nat):=by rw[hw0]; unfold wat; omega
    have e2:((cr:Int)+(la[k]?.getD 0:Nat)) / 4294967296=((cr+wat la k+wat lb k) / 4294967296:Nat):=by rw[hw0]; unfold wat; omega
    have E:=Lib.hid (And.intro e1 e2)
    have hst:=Lib.hid (more_step (by have:=hlo.out; omega) hinv.out)
    have hcr':(cr+wat la k+wat lb k) / 4294967296≤1:=by rw[hw0]; unfold wat; omega
    clear e1 e2 hw0
    go_wp2
    go_roundw
    case rel =>
     rw[E.out.1,E.out.2]
     exact⟨k+1,_,_,by omega,by go_num,rfl,hcr',Lib.hid (by have:=hlo.out; simpa using this),wok_set oo k _ (Nat.mod_lt _ (by decide)),hst,hblk.set k _,hB.setCell (p:=⟨w.heap.size,k,none⟩) (Nat.le_refl _) _⟩
    case measure=>simp[intOf]; omega
  ·obtain rfl:n=k:=by omega
   have c1:=hblk.cell (i:=n) (by have:=hlo.out; omega)
   have c2:=hblk.frozen n
   have hfin:=Lib.hid (more_end hlo.out H.out.1 (by have:=H.out.2; omega) hinv.out)
   go_wp2
   go_ret
   refine⟨out.set n cr,by have:=hlo.out; simpa using this,wok_set oo _ _ (by omega),hfin.out,rfl,hblk.set n cr,hB.setCell (p:=⟨w.heap.size,n,none⟩) (Nat.le_refl _) _⟩
theorem more_any(la lb:List Nat)(va vb:Value)(w:World)(oa:WOk la)(ob:WOk lb)(ha:WSl w va la)(hb:WSl w vb lb)(hn:la.length<1099511627776)(hm:lb.length<1099511627776) :
  Calls Tryz.prog 155 #[va,vb] w fun e w'=>∃ out,out.length=max la.length lb.length+1∧WOk out∧wv out=wv la+wv lb∧e=.returned (.slice (some ⟨w.heap.size,0,none⟩) out.length out.length)∧Blk w' w.heap.size out∧Below w.heap.size w w':=by
 obtain⟨pa,ca,rfl,hca,ha⟩:=ha
 obtain⟨pb,cb,rfl,hcb,hb⟩:=hb
 by_cases h:lb.length≤la.length
 ·refine(more_row la lb _ _ rfl rfl h oa ob pa pb ca cb w ha hb hn).mono ?_
  rintro e w' ⟨out,h1,h2,h3,h4,h5,h6⟩
  exact⟨out,by omega,h2,h3,by rw[h1]; exact h4,h5,h6⟩
 ·refine(more_swap lb la _ _ rfl rfl (by omega) ob oa pb pa cb ca w hb ha hm).mono ?_
  rintro e w' ⟨out,h1,h2,h3,h4,h5,h6⟩
  exact⟨out,by omega,h2,by omega,by rw[h1]; exact h4,h5,h6⟩
theorem less_word(x s:Nat)(hx:x<4294967296)(hs:s≤4294967296):∃ d e:Nat,d<4294967296∧e≤1∧x+4294967296*e=d+s∧(IntKind.u64.wrap ((x:Int) - (s:Int)) % 4294967296=(d:Int))∧bits BinOp.and IntKind.u64 (IntKind.u64.wrap ((x:Int) - (s:Int)) / 4294967296) 1=(e:Int):=by
 have hw:IntKind.u64.wrap ((x:Int) - (s:Int))=((x:Int) - (s:Int)) % 18446744073709551616:=rfl
 by_cases h:s≤x
 ·have h1:IntKind.u64.wrap ((x:Int) - (s:Int))=((x - s:Nat):Int):=by rw[hw]; omega
  have h2:((x - s:Nat):Int) / 4294967296=0:=by omega
  refine⟨x - s,0,by omega,by omega,by omega,by rw[h1]; omega,?_⟩
  rw[h1,h2]; decide
 ·have h1:IntKind.u64.wrap ((x:Int) - (s:Int)) / 4294967296=4294967295:=by rw[hw]; omega
  refine⟨4294967296+x - s,1,by omega,by omega,by omega,by rw[hw]; omega,?_⟩
  rw[h1]; decide
theorem less_row(la lb:List Nat)(n m:Nat)(hna:la.length=n)(hnb:lb.length=m)(hmn:m≤n)(oa:WOk la)(ob:WOk lb)(hle:wv lb≤wv la)(pa pb:Option Addr)(ca cb:Nat)(w:World)(ha:Row w pa la)(hb:Row w pb lb)(hn:n<1099511627776) :
  Calls Tryz.prog 204 #[.slice pa n ca,.slice pb m cb] w fun e w'=>∃ out,out.length=n∧WOk out∧wv out=wv la - wv lb∧e=.returned (.slice (some ⟨w.heap.size,0,none⟩) n n)∧Blk w' w.heap.size out∧Below w.heap.size w w':=by
 have H:=Lib.hid (And.intro hna hnb)
 have HA:=Lib.hid ha
 have HB:=Lib.hid hb
 have HL:=Lib.hid hle
 have hmk:=run_mk n (by omega)
 clear ha hb hna hnb hle
 go_enter Tryz.func204,Tryz.ntmps204
 go_wp2
 go_loopw [6,7,8,9,10,16] (fun c _ _ _ _ i wr=>∃(k cr:Nat) (out:List Nat),k≤n∧i=.int .i64 k∧c=.int .u64 cr∧cr≤1∧Hid (out.length=n)∧WOk out∧Hid (wv (out.take k)+wv (lb.take k)=wv (la.take k)+4294967296 ^ k*cr)∧Blk wr w.heap.size out∧Below w.heap.size w wr)
  (fun _ _ _ _ _ i _=>n - (intOf i).toNat)
 case atStart =>
  exact⟨0,0,List.replicate n 0,Nat.zero_le _,rfl,rfl,by omega,Lib.hid (by simp),wok_replicate _,Lib.hid (by simp[wv]),Blk.new _ _,br.alloc (Nat.le_refl _) _⟩
 case round =>
  obtain⟨k,cr,out,hk,rfl,rfl,hcr,hlo,oo,hinv,hblk,hB⟩:=hrel
  by_cases hlt2:k<n
  ·obtain⟨b,off,rfl,hbs,hcl⟩:=HA.out (by intro h; have:=H.out.1; rw[h] at this; simp at this; omega)
   have c0:=(hB.cell (p:=⟨b,off+k,none⟩) hbs).trans (hcl k (by have:=H.out.1; omega))
   have c1:=hblk.cell (i:=k) (by have:=hlo.out; omega)
   have c2:=hblk.frozen k
   have bx:la[k]?.getD 0<4294967296:=wat_lt oa k
   clear hcl
   by_cases hkm:k<m
   ·obtain⟨b2,off2,rfl,hbs2,hcl2⟩:=HB.out (by intro h; have:=H.out.2; rw[h] at this; simp at this; omega)
    have c3:=(hB.cell (p:=⟨b2,off2+k,none⟩) hbs2).trans (hcl2 k (by have:=H.out.2; omega))
    have by_:lb[k]?.getD 0<4294967296:=wat_lt ob k
    clear hcl2
    obtain⟨d,e,hd,he,hde,e1,e2⟩:=less_word (la[k]?.getD 0) (cr+lb[k]?.getD 0) bx (by omega)
    rw[Int.natCast_add] at e1 e2
    have hst:=Lib.hid (less_step (d:=d) (e:=e) (by have:=hlo.out; omega) (by unfold wat; omega) hinv.out)
    have E:=Lib.hid (And.intro e1 e2)
    clear e1 e2 hde
    go_wp2
    go_roundw
    case rel =>
     rw[E.out.1,E.out.2]
     exact⟨k+1,_,_,by omega,by go_num,rfl,he,Lib.hid (by have:=hlo.out; simpa using this),wok_set oo k _ hd,hst,hblk.set k _,hB.setCell (p:=⟨w.heap.size,k,none⟩) (Nat.le_refl _) _⟩
    case measure=>simp[intOf]; omega
   ·have hw0:wat lb k=0:=wat_out (by have:=H.out.2; omega)
    obtain⟨d,e,hd,he,hde,e1,e2⟩:=less_word (la[k]?.getD 0) cr bx (by omega)
    have hst:=Lib.hid (less_step (d:=d) (e:=e) (by have:=hlo.out; omega) (by rw[hw0]; unfold wat; omega) hinv.out)
    have E:=Lib.hid (And.intro e1 e2)
    clear e1 e2 hde hw0
    go_wp2
    go_roundw
    case rel =>
     rw[E.out.1,E.out.2]
     exact⟨k+1,_,_,by omega,by go_num,rfl,he,Lib.hid (by have:=hlo.out; simpa using this),wok_set oo k _ hd,hst,hblk.set k _,hB.setCell (p:=⟨w.heap.size,k,none⟩) (Nat.le_refl _) _⟩
    case measure=>simp[intOf]; omega
  ·obtain rfl:n=k:=by omega
   have hfin:=Lib.hid (less_end hlo.out oo H.out.1 (by have:=H.out.2; omega) HL.out hinv.out)
   go_wp2
   go_ret
   exact⟨out,hlo.out,oo,hfin.out,rfl,hblk,hB⟩
theorem less_any(la lb:List Nat)(va vb:Value)(w:World)(oa:WOk la)(ob:WOk lb)(hle:wv lb≤wv la)(hll:lb.length≤la.length)(ha:WSl w va la)(hb:WSl w vb lb)(hn:la.length<1099511627776) :
  Calls Tryz.prog 204 #[va,vb] w fun e w'=>∃ out,out.length=la.length∧WOk out∧wv out=wv la - wv lb∧e=.returned (.slice (some ⟨w.heap.size,0,none⟩) out.length out.length)∧Blk w' w.heap.size out∧Below w.heap.size w w':=by
 obtain⟨pa,ca,rfl,hca,ha⟩:=ha
 obtain⟨pb,cb,rfl,hcb,hb⟩:=hb
 refine(less_row la lb _ _ rfl rfl hll oa ob hle pa pb ca cb w ha hb hn).mono ?_
 rintro e w' ⟨out,h1,h2,h3,h4,h5,h6⟩
 exact⟨out,h1,h2,h3,by rw[h1]; exact h4,h5,h6⟩
end Go.Proofs.YthklnbaddobieaaGreat
namespace Tr
theorem wat_zero_of_lt{l:List Nat}{i:Nat}(h:wv l<4294967296 ^ i):wat l i=0:=by
 by_cases hi:i<l.length
 ·have h1:=wv_split hi
  rw[wat_of hi]
  rcases Nat.eq_zero_or_pos l[i] with h0|h0
  ·exact h0
  ·have:4294967296 ^ i*1≤4294967296 ^ i*(l[i]+4294967296*wv (l.drop (i+1))):=Nat.mul_le_mul_left _ (by omega)
   omega
 ·exact wat_out (by omega)
theorem wat_set_ne{l:List Nat}{i k x:Nat}(h:i≠k):wat (l.set i x) k=wat l k:=by
 unfold wat; rw[List.getElem?_set_ne h]
theorem wv_set_wat{l:List Nat}{i:Nat}(h:i<l.length)(x:Nat):wv (l.set i x)+4294967296 ^ i*wat l i=wv l+4294967296 ^ i*x:=by
 rw[wat_of h]; exact wv_set h x
theorem product_step{out lb:List Nat}{i k c x V:Nat}(ho:i+k<out.length)(h:wv out+4294967296 ^ (i+k)*c=V+4294967296 ^ i*(x*wv (lb.take k))) :
  wv (out.set (i+k) ((c+(x*wat lb k+wat out (i+k))) % 4294967296))+4294967296 ^ (i+(k+1))*((c+(x*wat lb k+wat out (i+k))) / 4294967296)=V+4294967296 ^ i*(x*wv (lb.take (k+1))):=by
 have h1:=wv_set_wat ho ((c+(x*wat lb k+wat out (i+k))) % 4294967296)
 have h2:=mul_split (4294967296 ^ (i+k)) (c+(x*wat lb k+wat out (i+k)))
 rw[wv_take_wat,show i+(k+1)=i+k+1 by omega,Nat.pow_succ]
 generalize (c+(x*wat lb k+wat out (i+k))) % 4294967296=s at *
 generalize (c+(x*wat lb k+wat out (i+k))) / 4294967296=t at *
 rw[Nat.mul_add,Nat.mul_add] at h2
 have h3:4294967296 ^ i*(x*(wv (lb.take k)+4294967296 ^ k*wat lb k))=4294967296 ^ i*(x*wv (lb.take k))+4294967296 ^ (i+k)*(x*wat lb k):=by
  rw[Nat.mul_add,Nat.mul_add,Nat.pow_add]
  congr 1
  simp only[Nat.mul_assoc,Nat.mul_left_comm]
 rw[h3]
 omega
theorem product_row{out la lb:List Nat}{i m c:Nat}(ho:i+m<out.length)(hm:lb.length=m)(hz:wat out (i+m)=0)(h:wv out+4294967296 ^ (i+m)*c=wv (la.take i)*wv lb+4294967296 ^ i*(wat la i*wv (lb.take m))) :
  wv (out.set (i+m) c)=wv (la.take (i+1))*wv lb:=by
 have h1:=wv_set_wat ho c
 rw[hz] at h1
 rw[List.take_of_length_le (l:=lb) (by omega)] at h
 rw[wv_take_wat,Nat.add_mul,Nat.mul_assoc]
 omega
theorem product_room{out la lb:List Nat}{i m:Nat}(oa:WOk la)(ob:WOk lb)(hm:lb.length=m)(hi:i≤la.length)(h:wv out=wv (la.take i)*wv lb):wat out (i+m)=0:=by
 apply wat_zero_of_lt
 have h1:=wv_lt (wok_take oa i)
 have h2:=wv_lt ob
 have h3:(la.take i).length=i:=by simp; omega
 rw[h3] at h1
 rw[hm] at h2
 rw[h,Nat.pow_add]
 exact Nat.mul_lt_mul'' h1 h2
theorem word_mul{x y:Nat}(hx:x<4294967296)(hy:y<4294967296):(x:Int)*(y:Int)≤18446744065119617025∧0≤(x:Int)*(y:Int):=by
 have h:x*y≤4294967295*4294967295:=Nat.mul_le_mul (by omega) (by omega)
 constructor
 ·have:((x*y:Nat):Int)≤18446744065119617025:=by omega
  simpa using this
 ·have:(0:Int)≤((x*y:Nat):Int):=by omega
  simpa using this
end Tr
