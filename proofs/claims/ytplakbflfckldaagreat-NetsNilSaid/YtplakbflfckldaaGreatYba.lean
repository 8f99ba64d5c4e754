/- Laws for the walk. -/
import Derived.Test.YtplakbflfckldaaGreatYaz
set_option linter.unusedVariables false
set_option maxHeartbeats 4000000
namespace Go.Proofs.YtplakbflfckldaaGreat
open Go.RowKit Tr
def N1(z:QC):FR:=.row (cn z)
def R1(q:Rat):FR:=.c (gr q)
theorem qc0{z:QC}:z=⟨0,0⟩↔z.re=0∧z.im=0:=⟨fun h=>by rw[h]; exact⟨rfl,rfl⟩,fun h=>qc_ext h.1 h.2⟩
theorem qc_nz{z:QC}(h:z≠⟨0,0⟩):z.re*z.re+z.im*z.im≠0:=fun e=>h (qc0.2 (norm_zero.1 e))
theorem ZL_int(i j:Int)(a1:-9223372036854775808≤i)(a2:i<9223372036854775808)(b1:-9223372036854775808≤j)(b2:j<9223372036854775808):ZL ⟨(i:Rat),(j:Rat)⟩ 2:=⟨RL_i64 i a1 a2,RL_i64 j b1 b2⟩
theorem pNZero(x:QC)(r:Bool)(hr:r=true↔x=⟨0,0⟩):SpecC Tryz.prog true 91 [N1 x] (B1 r) :=
 spec1 eo91 fun w A u hR _ hu=>(NZero_any x.re x.im u A w (cn_iff.1 hu) r (hr.trans qc0)).mono fun e w' h=>⟨_,h.1,rfl,h.2⟩
theorem pNDiv(x y:QC)(h0:y≠⟨0,0⟩){m l:Nat}(hx:ZL x m)(hy:ZL y l)(hb:(m+l+(m+l)+1)+(l+l+(l+l)+1)<137438953472):SpecC Tryz.prog true 92 [N1 x,N1 y] (.r (N1 (x / y))) :=
 spec2 eo92 fun w A u v hR _ hu hv=>(NDiv_any x.re x.im y.re y.im _ rfl (qc_nz h0) u v A w (cn_iff.1 hu) (cn_iff.1 hv) (hR rfl) m l hx.1 hx.2 hy.1 hy.2 hb).mono fun e w' ⟨z,h1,h2,h3⟩=>⟨z,h1,cn_iff.2 h3,h2⟩
theorem pNInt(i j:Int)(a1:-9223372036854775808≤i)(a2:i<9223372036854775808)(b1:-9223372036854775808≤j)(b2:j<9223372036854775808):SpecC Tryz.prog true 99 [.c (gx (.int .i64 i)),.c (gx (.int .i64 j))] (.r (N1 ⟨(i:Rat),(j:Rat)⟩)) :=
 spec2 eo99 fun w A u v hR _ hu hv=>by
  cases(hu:u=_); cases(hv:v=_)
  exact(EInt_any i j a1 a2 b1 b2 A w (hR rfl)).mono fun e w' ⟨z,h1,h2,h3⟩=>⟨z,h1,cn_iff.2 h3,h2⟩
theorem outG_short{z:QC}(h:ShortZ z){w:World}{A:Nat→Prop}:FV.R (.tup [.row (rawQ z).cells,.c (gl (.int .i64 0))]) (.tuple #[outG z.re z.im,.int .i64 (outGC z.re z.im)]) w A:=by
 refine(FV.val_ok (u:=.tuple #[(rawQ z).val,.int .i64 0]) (by kernel_rfl)).2 ?_
 rw[outG,outGC,if_pos (show ShortF z.re∧ShortF z.im from h),if_pos (show ShortF z.re∧ShortF z.im from h),rawQ_val]; rfl
theorem pNTold(z:QC)(hz:ZL z 137438953472)(h:ShortZ z):SpecC Tryz.prog true 70 [N1 z] (.tup [.row (rawQ z).cells,.c (gl (.int .i64 0))]) :=
 spec1 eo70 fun w A u hR _ hu=>(NTold_any z.re z.im u A w (cn_iff.1 hu) hz.1 hz.2).mono fun e w' h1=>⟨_,h1.1,outG_short h,h1.2⟩
end Go.Proofs.YtplakbflfckldaaGreat
namespace Go.Proofs.YtplakbflfckldaaGreat
open Go.RowKit Tr
end Go.Proofs.YtplakbflfckldaaGreat
namespace Go.Proofs.YtplakbflfckldaaGreat
open Go.RowKit Tr
end Go.Proofs.YtplakbflfckldaaGreat
namespace Go.Proofs.YtplakbflfckldaaGreat
open Go.RowKit Tr
structure RawM where
 a:RawG
 b:RawG
 c:RawG
 d:RawG
 t:Bool
def RawM.val(m:RawM):Value:=.agg (m.a.vals++m.b.vals++m.c.vals++m.d.vals++[Value.bool m.t]).toArray
end Go.Proofs.YtplakbflfckldaaGreat
set_option linter.unusedSimpArgs false
namespace Go.Proofs.YtplakbflfckldaaGreat
open Go.RowKit Tr
open Classical
theorem eStill  :SpecC Tryz.prog true 44 [] (.r (.row (cn (⟨1,0⟩:QC)++[gl .nilp,gl .nilp,gl .nilp,gl .nilp]++cn (⟨1,0⟩:QC)++[gl (.bool false)]))) :=
  ev_sp (L := [cn (⟨1,0⟩ : QC)].flatten) tys_ok mixed
     [gs (pNInt 1 0 (by decide) (by decide) (by decide) (by decide)) [.c (.lit (.int .i64 1)),.c (.lit (.int .i64 0))] (.r (sy [0,1]))]
     [] [] Tryz.func44 eo44 2000 [] (.r (.row [.sym 0,.sym 1,.lit .nilp,.lit .nilp,.lit .nilp,.lit .nilp,.sym 0,.sym 1,.lit (.bool false)]))
theorem eNorm1  :SpecC Tryz.prog true 100 [.row (cn (⟨1,0⟩:QC)++cn (⟨0,0⟩:QC)++cn (⟨0,0⟩:QC)++cn (⟨1,0⟩:QC)++[gl (.bool false)])] (.r (.row (cn (⟨1,0⟩:QC)++cn (⟨0,0⟩:QC)++cn (⟨0,0⟩:QC)++cn (⟨1,0⟩:QC)++[gl (.bool false)]))) :=
  have t1:=pNDiv (⟨1,0⟩:QC) (⟨1,0⟩:QC) (by decide +kernel) (ZL_int 1 0 (by decide) (by decide) (by decide) (by decide)) (ZL_int 1 0 (by decide) (by decide) (by decide) (by decide)) (by decide)
  have t2:=pNDiv (⟨0,0⟩:QC) (⟨1,0⟩:QC) (by decide +kernel) (ZL_int 0 0 (by decide) (by decide) (by decide) (by decide)) (ZL_int 1 0 (by decide) (by decide) (by decide) (by decide)) (by decide)
  ev_sp (L := [cn (⟨1,0⟩ : QC),cn (⟨0,0⟩ : QC),cn (⟨0,0⟩ : QC),cn (⟨1,0⟩ : QC),cn (⟨1,0⟩ : QC),cn (⟨0,0⟩ : QC),cn (⟨0,0⟩ : QC),cn (⟨1,0⟩ : QC)].flatten) tys_ok mixed
     [gs (pNZero (⟨0,0⟩:QC) true (tI (by decide +kernel))) [sy [4,5]] (.r (.c (.lit (.bool true)))),gs (t1) [sy [0,1],sy [6,7]] (.r (sy [8,9])),gs (t2) [sy [2,3],sy [6,7]] (.r (sy [10,11])),gs (t2) [sy [4,5],sy [6,7]] (.r (sy [12,13])),gs (t1) [sy [6,7],sy [6,7]] (.r (sy [14,15]))]
     [] [] Tryz.func100 eo100 2000 [.row (flA [syms 0 8,[.lit (.bool false)]])] (.r (.row (flA [syms 8 8,[.lit (.bool false)]])))
theorem eTold1  :SpecC Tryz.prog true 45 [.row (cn (⟨1,0⟩:QC)++cn (⟨0,0⟩:QC)++cn (⟨0,0⟩:QC)++cn (⟨1,0⟩:QC)++[gl (.bool false)])] (.tup [.row ((rawQ (⟨1,0⟩:QC)).cells++(rawQ (⟨0,0⟩:QC)).cells++(rawQ (⟨0,0⟩:QC)).cells++(rawQ (⟨1,0⟩:QC)).cells++[gl (.bool false)]),.c (gl (.int .i64 0))]) :=
  have t1:=pNTold (⟨1,0⟩:QC) ((ZL_int 1 0 (by decide) (by decide) (by decide) (by decide)).mono (by omega)) (short_c (by decide +kernel))
  have t2:=pNTold (⟨0,0⟩:QC) ((ZL_int 0 0 (by decide) (by decide) (by decide) (by decide)).mono (by omega)) (short_c (by decide +kernel))
  ev_sp (L := [cn (⟨1,0⟩ : QC),cn (⟨0,0⟩ : QC),cn (⟨0,0⟩ : QC),cn (⟨1,0⟩ : QC),cn (⟨1,0⟩ : QC),cn (⟨0,0⟩ : QC),cn (⟨0,0⟩ : QC),cn (⟨1,0⟩ : QC),(rawQ (⟨1,0⟩ : QC)).cells,(rawQ (⟨0,0⟩ : QC)).cells,(rawQ (⟨0,0⟩ : QC)).cells,(rawQ (⟨1,0⟩ : QC)).cells].flatten) tys_ok mixed
     [gs (eNorm1) [.row (flA [syms 0 8,[.lit (.bool false)]])] (.r (.row (flA [syms 8 8,[.lit (.bool false)]]))),gs (t1) [sy [8,9]] (.tup [.row (syms 16 8),.c (.lit (.int .i64 0))]),gs (t2) [sy [10,11]] (.tup [.row (syms 24 8),.c (.lit (.int .i64 0))]),gs (t2) [sy [12,13]] (.tup [.row (syms 32 8),.c (.lit (.int .i64 0))]),gs (t1) [sy [14,15]] (.tup [.row (syms 40 8),.c (.lit (.int .i64 0))])]
     [] [] Tryz.func45 eo45 2000 [.row (flA [syms 0 8,[.lit (.bool false)]])] (.tup [.row (flA [syms 16 32,[.lit (.bool false)]]),.c (.lit (.int .i64 0))])
theorem okg_nil0{x y:QC}{g:GF}{vs:List Value}{w:World}{A:Nat→Prop}(h:okg (cn x++[gl .nilp,gl .nilp,gl .nilp,gl .nilp]++cn y++[g]) vs w A):okg (cn x++cn ⟨0,0⟩++cn ⟨0,0⟩++cn y++[g]) vs w A:=by
 obtain⟨u1,_,rfl,h1,h⟩:=okg_cons.1 h
 obtain⟨u2,_,rfl,h2,h⟩:=okg_cons.1 h
 obtain⟨u3,_,rfl,h3,h⟩:=okg_cons.1 h
 obtain⟨u4,_,rfl,h4,h⟩:=okg_cons.1 h
 obtain⟨u5,_,rfl,h5,h⟩:=okg_cons.1 h
 obtain⟨u6,_,rfl,h6,h⟩:=okg_cons.1 h
 exact⟨h1,h2,.inl ⟨h3,rfl⟩,.inl ⟨h4,rfl⟩,.inl ⟨h5,rfl⟩,.inl ⟨h6,rfl⟩,h⟩
theorem mat_nil{P:Program}{hp:Bool}{f:FuncId}{x y:QC}{g:GF}{r:FV}(h:SpecC P hp f [.row (cn x++cn ⟨0,0⟩++cn ⟨0,0⟩++cn y++[g])] r):SpecC P hp f [.row (cn x++[gl .nilp,gl .nilp,gl .nilp,gl .nilp]++cn y++[g])] r :=
 ⟨h.ent,fun w A us hR hA hu=>by
  match us,hu with
  | [u],hu =>
   obtain⟨⟨vs,e,k⟩,_⟩:=hu
   exact h.ok w A [u] hR hA ⟨⟨vs,e,okg_nil0 k⟩,trivial⟩⟩
theorem mOne  :SpecC Tryz.prog true 13 [] (.r (.row ((rawQ (⟨1,0⟩:QC)).cells++(rawQ (⟨0,0⟩:QC)).cells++(rawQ (⟨0,0⟩:QC)).cells++(rawQ (⟨1,0⟩:QC)).cells++[gl (.bool false)]))) :=
  ev_sp (L := [cn (⟨1,0⟩ : QC),cn (⟨1,0⟩ : QC),cn (⟨0,0⟩ : QC),(rawQ (⟨1,0⟩ : QC)).cells,(rawQ (⟨0,0⟩ : QC)).cells,(rawQ (⟨0,0⟩ : QC)).cells,(rawQ (⟨1,0⟩ : QC)).cells].flatten) tys_ok mixed
     [gs (eStill) [] (.r (.row [.sym 0,.sym 1,.lit .nilp,.lit .nilp,.lit .nilp,.lit .nilp,.sym 2,.sym 3,.lit (.bool false)])),gs (mat_nil (eTold1)) [.row [.sym 0,.sym 1,.lit .nilp,.lit .nilp,.lit .nilp,.lit .nilp,.sym 2,.sym 3,.lit (.bool false)]] (.tup [.row (flA [syms 6 32,[.lit (.bool false)]]),.c (.lit (.int .i64 0))])]
     [] [] Tryz.func13 eo13 2000 [] (.r (.row (flA [syms 6 32,[.lit (.bool false)]])))
end Go.Proofs.YtplakbflfckldaaGreat
set_option linter.unusedSimpArgs false
namespace Go.Proofs.YtplakbflfckldaaGreat
open Go.RowKit Tr
open Classical
def gbOwnNil{L:List GF}(b o:Nat):GB Tryz.prog L :=
 ⟨{ op:=.eql,t:=22,x:=.c (.own b o),y:=.c (.lit .nilp),res:=.lit (.bool false) },fun σ w A vx vy xo yo h1 h2=>by
  obtain⟨n,_,rfl⟩:=(show ∃ n,σ b=some n∧vx=.pointer (some ⟨n,o,none⟩) from h1)
  cases(show vy=.pointer none from h2)
  exact⟨.bool false,by go_simp,rfl⟩⟩
def gbFnNil{L:List GF}(f:FuncId)(a b:List Nat):GB Tryz.prog L :=
 ⟨{ op:=.eql,t:=61,x:=.c (.fn f a b),y:=.c (.lit .nilf),res:=.lit (.bool false) },fun σ w A vx vy xo yo h1 h2=>by
  obtain⟨us,vs,rfl,_,_⟩:=(show ∃ us vs:List Value,vx=.func (.func f) us.toArray vs.toArray∧ptrs σ a us∧ptrs σ b vs from h1)
  cases(show vy=.nilFunc from h2)
  exact⟨.bool false,by kernel_rfl,rfl⟩⟩
def gbSame{L:List GF}(t:TypeId)(x:AR)(v:Value)(h:∀ xo yo w,(do eqGuard .eql t xo yo v v; binOp .eql t v v:Sem Value).run Tryz.prog w=.ok (.bool true) w)(hx:x.gv L=some v:=by kernel_rfl):GB Tryz.prog L :=
 gb .eql t x x (.lit (.bool true)) h hx hx rfl
def z9:List Value:=[.bool false,.bool false,.string ⟨#[]⟩,.bool false,.string ⟨#[]⟩,.bool false,.string ⟨#[]⟩,.bool false,.string ⟨#[]⟩]
noncomputable def netB{L:List GF}:List (GB Tryz.prog L) :=
  [gbSame 22 (.c (.lit .nilp)) (.pointer none) (fun _ _ _=>by kernel_rfl),gbOwnNil 0 0,gbOwnNil 1 0,gbSame 25 (.c (.lit .nils)) (.slice none 0 0) (fun _ _ _=>by kernel_rfl),gbFnNil 47 [] [62],gbFnNil 47 [] [63],gbSame 38 (.row zPA) (.agg z9.toArray) (fun _ _ _=>by kernel_rfl),gbSame 42 (.row (zPA++zPA++zPA++zPA)) (.agg (z9++z9++z9++z9).toArray) (fun _ _ _=>by kernel_rfl),gbSame 36 (.row zGA) (.agg (z9.drop 1).toArray) (fun _ _ _=>by kernel_rfl)]
noncomputable def netF:List Tr.Fn:=[⟨9,Tryz.f9,2000⟩,⟨10,Tryz.f10,2000⟩,⟨11,Tryz.f11,2000⟩,
 ⟨12,Tryz.f12,2000⟩,⟨14,Tryz.f14,2000⟩,⟨15,Tryz.f15,2000⟩,
 ⟨16,Tryz.f16,2000⟩,⟨17,Tryz.f17,2000⟩,⟨18,Tryz.f18,2000⟩,⟨38,Tryz.f38,2000⟩]
theorem netF_ok:FnsOk Tryz.prog netF :=
 .cons Tryz.func9 eo9 (.cons Tryz.func10 eo10 (.cons Tryz.func11 eo11
 (.cons Tryz.func12 eo12 (.cons Tryz.func14 eo14 (.cons Tryz.func15 eo15
 (.cons Tryz.func16 eo16 (.cons Tryz.func17 eo17 (.cons Tryz.func18 eo18 (.cons Tryz.func38 eo38 .nil)))))))))
def L0(i j:Int):List GF:=[[gx (.int .i64 i),gx (.int .i64 j)],(rawQ ⟨1,0⟩).cells,(rawQ ⟨0,0⟩).cells,(rawQ ⟨0,0⟩).cells,(rawQ ⟨1,0⟩).cells].flatten
def netT:AB:=⟨[.lit .nils,.lit .nils,.lit .nils],27,none⟩
theorem sameNN:SpecC Tryz.prog true 6 [.c (gl .nilp),.c (gl .nilp)] (.r (.c (gl (.bool true)))) :=
 ev_spi (L:=[]) tys_ok mixed [] netB [] netF_ok 1 1 Tryz.func6 eo6 2000 [.c (.lit .nilp),.c (.lit .nilp)] (.r (.c (.lit (.bool true))))
theorem sameZN:SpecM Tryz.prog true 6 [([gl .nils,gl .nils,gl .nils],27)] [.own 0 0,.f (.c (gl .nilp))] (.r (.c (gl (.bool true)))) :=
 ev_smi (L:=[]) tys_ok mixed [] netB [] netF_ok 1 1 Tryz.func6 eo6 2000 [netT] [.c (.own 0 0),.c (.lit .nilp)] (.r (.c (.lit (.bool true))))
theorem sameNZ:SpecM Tryz.prog true 6 [([gl .nils,gl .nils,gl .nils],27)] [.f (.c (gl .nilp)),.own 0 0] (.r (.c (gl (.bool true)))) :=
 ev_smi (L:=[]) tys_ok mixed [] netB [] netF_ok 1 1 Tryz.func6 eo6 2000 [netT] [.c (.lit .nilp),.c (.own 0 0)] (.r (.c (.lit (.bool true))))
def Lk(k:Nat):List GF:=[gx (.func (.yield k) #[] #[])]
noncomputable def cxK(k:Nat):Cx:=upN (gcx tys false (Lk k) [] netB []) netF 1 1
theorem cxK_ok(k:Nat):CxOk Tryz.prog (gT (Lk k)) (cxK k):=upN_ok (gcx_ok tys_ok _ _ _) mixed rfl netF_ok 1 1
theorem allNil(k:Nat)(W:World)(n:Nat)(h:W.heap[n]?=some (.cells #[.pointer none] 22 (0,0))):Calls Tryz.prog 47 #[.func (.yield k) #[] #[],.pointer (some ⟨n,0,none⟩)] W fun e W'=>(∃ v,e=.returned v)∧Below W.heap.size W W':=by
 refine(ev_lent (T:=gT (Lk k)) (cx:=cxK k) (cxK_ok k) mixed Tryz.func47 (bs:=[⟨[.lit .nilp],22,none⟩]) (args:=[.c (.sym 0),.c (.own 0 0)]) (res:=.tup []) 2000 (by kernel_rfl) (fun q hq=>by cases hq) (fun c _ x _ q hq=>by cases hq)
  ⟨fun b=>if b=0 then some n else none,fun _=>0⟩ W (fun x=>x=n) [.func (.yield k) #[] #[],.pointer (some ⟨n,0,none⟩)] (fun h=>by cases h) (fun x e=>?_) ⟨rfl,⟨n,rfl,rfl⟩,trivial⟩ (fun b ab hb=>?_) (fun b hb=>?_) rfl).mono fun e W' ⟨v,h1,_,h3⟩=>⟨⟨v,h1⟩,h3⟩
 ·subst e; exact(Array.getElem?_eq_some_iff.1 h).1
 ·match b,hb with
  | 0,hb=>cases hb; exact⟨n,[.pointer none],rfl,rfl,h,rfl,trivial⟩
 ·exact if_neg (by simp at hb; omega)
theorem allZero(k:Nat)(W:World)(n m:Nat)(h:W.heap[n]?=some (.cells #[.pointer (some ⟨m,0,none⟩)] 22 (0,0)))(h':W.heap[m]?=some (.cells #[.slice none 0 0,.slice none 0 0,.slice none 0 0] 27 (0,0))):Calls Tryz.prog 47 #[.func (.yield k) #[] #[],.pointer (some ⟨n,0,none⟩)] W fun e W'=>(∃ v,e=.returned v)∧Below W.heap.size W W':=by
 refine(ev_lent (T:=gT (Lk k)) (cx:=cxK k) (cxK_ok k) mixed Tryz.func47 (bs:=[⟨[.own 1 0],22,none⟩,netT]) (args:=[.c (.sym 0),.c (.own 0 0)]) (res:=.tup []) 2000 (by kernel_rfl) (fun q hq=>by cases hq) (fun c _ x _ q hq=>by cases hq)
  ⟨fun b=>if b=0 then some n else if b=1 then some m else none,fun _=>0⟩ W (fun x=>x=n∨x=m) [.func (.yield k) #[] #[],.pointer (some ⟨n,0,none⟩)] (fun h=>by cases h) (fun x e=>?_) ⟨rfl,⟨n,rfl,rfl⟩,trivial⟩ (fun b ab hb=>?_) (fun b hb=>?_) rfl).mono fun e W' ⟨v,h1,_,h3⟩=>⟨⟨v,h1⟩,h3⟩
 ·rcases e with e|e<;>subst e
  ·exact(Array.getElem?_eq_some_iff.1 h).1
  ·exact(Array.getElem?_eq_some_iff.1 h').1
 ·match b,hb with
  | 0,hb=>cases hb; exact⟨n,[.pointer (some ⟨m,0,none⟩)],rfl,.inl rfl,h,⟨m,rfl,rfl⟩,trivial⟩
  | 1,hb=>cases hb; exact⟨m,[.slice none 0 0,.slice none 0 0,.slice none 0 0],rfl,.inr rfl,h',rfl,rfl,rfl,trivial⟩
 ·exact(if_neg (by simp at hb; omega)).trans (if_neg (by simp at hb; omega))
end Go.Proofs.YtplakbflfckldaaGreat
