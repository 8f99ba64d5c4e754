/- Laws. -/
import Derived.Test.YtcjjdooeogmdbaaGreatVai
import Derived.Laws.Bits64b
set_option linter.all false
set_option maxHeartbeats 4000000
set_option maxRecDepth 100000
open Go.Lib (hid)
namespace Go.Proofs.YtcjjdooeogmdbaaGreat
open Go.RowKit Tr Proofs.Tryz
def Qfw{k:IntKind}{a b:Int}(h:a=b):Ending.returned (.int k a)=.returned (.int k b):=by rw[h]
def Row(w:World)(p:Option Addr)(l:List Nat):Prop:=l≠[]->∃ b off,p=some ⟨b,off,none⟩/\b<w.heap.size/\∀ j,j<l.length->w.cell? ⟨b,off+j,none⟩=some (.int .u32 (l[j]?.getD 0:Nat))
def Kix{la lb:List Nat}(h:la.drop 0=lb.drop 0):la=lb:=h
def Kbo{la lb:List Nat}{m:Nat}(ha:m<la.length)(hb:m<lb.length)(h:la.drop (m+1)=lb.drop (m+1))(he:la[m]?.getD 0=lb[m]?.getD 0):la.drop m=lb.drop m:=by
 rw[List.drop_eq_getElem_cons ha,List.drop_eq_getElem_cons hb,h];rw[List.getElem?_eq_getElem ha,List.getElem?_eq_getElem hb] at he;simp at he;rw[he]
def Kiq{la lb:List Nat}{m:Nat}(ha:m<la.length)(hb:m<lb.length)(oa:WOk la)(h:la.drop (m+1)=lb.drop (m+1))(he:la[m]?.getD 0<lb[m]?.getD 0):Qgh (wv la) (wv lb)=-1:=by
 rw[List.getElem?_eq_getElem ha,List.getElem?_eq_getElem hb] at he;unfold Qgh;rw[if_pos (Qwl oa ha hb h he)]
def Kis{la lb:List Nat}{m:Nat}(ha:m<la.length)(hb:m<lb.length)(ob:WOk lb)(h:la.drop (m+1)=lb.drop (m+1))(he:lb[m]?.getD 0<la[m]?.getD 0):Qgh (wv la) (wv lb)=1:=by
 rw[List.getElem?_eq_getElem ha,List.getElem?_eq_getElem hb] at he;have:=Qwl ob hb ha h.symm he;unfold Qgh;rw[if_neg (by omega),if_pos this]
def Kit(a:Nat):Qgh a a=0:=by unfold Qgh;simp
def Ubk(la lb:List Nat)(n:Nat)(hna:la.length=n)(hnb:lb.length=n)(oa:WOk la)(ob:WOk lb)(pa pb:Option Addr)(ca cb:Nat)(w:World)(ha:Row w pa la)(hb:Row w pb lb)(hn:n<1099511627776) :
  Calls prog 227 #[.slice pa n ca,.slice pb n cb] w fun e w'=>e=.returned (.int .i64 (Qgh (wv la) (wv lb)))/\∃ n,w'=w.drewN n:=by
 have H:=hid (And.intro hna hnb);have HA:=hid ha;have HB:=hid hb;clear ha hb hna hnb
 go_enter func227,Tryz.ntmps227
 go_wp2
 go_loopw [5] (fun i wr=>∃ k:Nat,k<=n/\i=.int .i64 ((k:Int)-1)/\Hid (la.drop k=lb.drop k)/\∃ d,wr=w.drewN d) (fun i _=>(intOf i+1).toNat)
 case atStart =>
  refine⟨n,Nat.le_refl _,rfl,hid ?_,0,rfl⟩;obtain⟨h1,h2⟩:=H.out;rw[List.drop_eq_nil_of_le (by omega),List.drop_eq_nil_of_le (by omega)]
 case round =>
  obtain⟨k,hk,rfl,hd,d,rfl⟩:=hrel;cases k with
  | zero =>
   have hz:Hid (Qgh (wv la) (wv lb)=0):=hid (by rw[Kix hd.out];exact Kit _)
   go_wp2
   go_ret
   exact⟨Qfw hz.out.symm,d,rfl⟩
  | succ m =>
   have e:((m+1:Nat):Int)-1=(m:Int):=by omega
   rw[e];clear e;obtain⟨h1,h2⟩:=H.out;obtain⟨ba,oa',rfl,_,hca⟩:=HA.out (by intro h;rw[h] at h1;simp at h1;omega);obtain⟨bb,ob',rfl,_,hcb⟩:=HB.out (by intro h;rw[h] at h2;simp at h2;omega);have ca0:=hca m (by omega);have cb0:=hcb m (by omega);have HD:=hid (And.intro h1 h2);clear hca hcb h1 h2;have i0:(0:Int)<=(m:Int):=by omega
   have i1:(m:Int)<(n:Int):=by omega
   have hx:∀ x y:Nat,x<y->((x:Int)<(y:Int)):=fun x y h=>by omega
   rcases Nat.lt_trichotomy (la[m]?.getD 0) (lb[m]?.getD 0) with h|h|h
   .have h':=hx _ _ h;have hz:Hid (Qgh (wv la) (wv lb)=-1):=hid (Kiq (by have:=HD.out;omega) (by have:=HD.out;omega) oa hd.out h);clear h hx
    go_wp2
    go_quiet (fail)
    go_wp2
    go_ret
    exact⟨Qfw hz.out.symm,by first|exact⟨_,rfl⟩|(simp only[World.drewN_drewN];exact⟨_,rfl⟩)⟩
   .have hz:Hid (la.drop m=lb.drop m):=hid (Kbo (by have:=HD.out;omega) (by have:=HD.out;omega) hd.out h);have h1:¬((la[m]?.getD 0:Nat):Int)<((lb[m]?.getD 0:Nat):Int):=by omega
    have h2:¬((lb[m]?.getD 0:Nat):Int)<((la[m]?.getD 0:Nat):Int):=by omega
    clear h hx
    go_wp2
    go_quiet (fail)
    go_wp2
    go_quiet (fail)
    go_wp2
    go_roundw
    case rel=>exact⟨m,by omega,rfl,hz,by first|exact⟨_,rfl⟩|(simp only[World.drewN_drewN];exact⟨_,rfl⟩)⟩
    case measure=>simp[intOf]
   .have h':=hx _ _ h;have h1:¬((la[m]?.getD 0:Nat):Int)<((lb[m]?.getD 0:Nat):Int):=by omega
    have hz:Hid (Qgh (wv la) (wv lb)=1):=hid (Kis (by have:=HD.out;omega) (by have:=HD.out;omega) ob hd.out h);clear h hx
    go_wp2
    go_quiet (fail)
    go_wp2
    go_quiet (fail)
    go_wp2
    go_ret
    exact⟨Qfw hz.out.symm,by first|exact⟨_,rfl⟩|(simp only[World.drewN_drewN];exact⟨_,rfl⟩)⟩
def Krp(l:List Nat)(n:Nat)(hn:l.length=n)(ol:WOk l)(p:Option Addr)(c:Nat)(w:World)(hl:Row w p l)(hc:n<=c)(hm:n<1099511627776) :
  Calls prog 251 #[.slice p n c] w fun e w'=>∃ k,k<=n/\l.take k=Qad (wv l)/\e=.returned (.slice p k c)/\w=w':=by
 have H:=hid hn;have HL:=hid hl;have hs:∀ k:Nat,k<=n->Hid (∀ j,k<=j->j<l.length->l[j]?.getD 0=0)->(k=0\/l[k-1]?.getD 0≠0)->l.take k=Qad (wv l):=fun k hk hz hl=>Qxd (by omega) ol hz.out hl
 have HS:=hid hs;clear hl hn hs
 go_enter func251,Tryz.ntmps251
 go_wp2
 go_loop [0] (fun v=>∃ k:Nat,k<=n/\v=.slice p k c/\Hid (∀ j,k<=j->j<l.length->l[j]?.getD 0=0)) (fun v=>match v with|.slice _ k _=>k|_=>0)
 case atStart =>
  exact⟨n,Nat.le_refl _,rfl,hid (fun j h1 h2=>by have:=H.out;omega)⟩
 case round =>
  obtain⟨k,hk,rfl,hz⟩:=hrel;cases k with
  | zero =>
   go_wp2
   go_ret
   exact⟨0,Nat.zero_le _,HS.out 0 (Nat.zero_le _) hz (.inl rfl),rfl,rfl⟩
  | succ m =>
   obtain⟨b,off,rfl,_,hcl⟩:=HL.out (by intro h;have:=H.out;rw[h] at this;simp at this;omega);have hc0:=hcl m (by have:=H.out;omega);clear hcl
   by_cases h0:l[m]?.getD 0=0
   .have hz':Hid (∀ j,m<=j->j<l.length->l[j]?.getD 0=0):=hid (fun j h1 h2=>by
     by_cases h:j=m
     .rw[h];exact h0
     .exact hz.out j (by omega) h2)
    have hb:(((l[m]?.getD 0:Nat):Int)==0)=true:=by rw[h0];rfl
    clear h0
    go_wp2
    go_round
    case rel=>exact⟨m,by omega,rfl,hz'⟩
    case measure=>simp
   .have hb:(((l[m]?.getD 0:Nat):Int)==0)=false:=by simp;exact h0
    have ht:=HS.out (m+1) hk hz (.inr (by simpa using h0));have HT:=hid ht;clear h0 ht
    go_wp2
    go_ret
    exact⟨m+1,hk,HT.out,rfl,rfl⟩
def Qig(a b:Nat)(va vb:Value)(w:World)(ha:WSl w va (Qad a))(hb:WSl w vb (Qad b))(hla:(Qad a).length<1099511627776) :
  Calls prog 227 #[va,vb] w fun e w'=>e=.returned (.int .i64 (Qgh a b))/\∃ n,w'=w.drewN n:=by
 obtain⟨pa,ca,rfl,hca,ha⟩:=ha;obtain⟨pb,cb,rfl,hcb,hb⟩:=hb;rcases Nat.lt_trichotomy (Qad a).length (Qad b).length with h|h|h
 .have hz:Qgh a b=-1:=by unfold Qgh;rw[if_pos (Qed h)]
  go_enter func227,Tryz.ntmps227
  go_wp2
  go_ret
  exact⟨Qfw hz.symm,0,rfl⟩
 .rw[<-h] at hb ⊢;have:=Ubk (Qad a) (Qad b) _ rfl h.symm (Qas a) (Qas b) pa pb ca cb w ha (fun hne=>by obtain⟨b,off,h1,h2,h3⟩:=hb hne;exact⟨b,off,h1,h2,fun j hj=>h3 j (by omega)⟩) hla;rwa[Qaq,Qaq] at this
 .have hz:Qgh a b=1:=by unfold Qgh;rw[if_neg (by have:=Qed h;omega),if_pos (Qed h)]
  go_enter func227,Tryz.ntmps227
  go_wp2
  go_ret
  exact⟨Qfw hz.symm,0,rfl⟩
def Kzj(la lb:List Nat)(n m:Nat)(hna:la.length=n)(hnb:lb.length=m)(hmn:m<=n)(oa:WOk la)(ob:WOk lb)(pa pb:Option Addr)(ca cb:Nat)(w:World)(ha:Row w pa la)(hb:Row w pb lb)(hn:n<1099511627776) :
  Calls prog 252 #[.slice pa n ca,.slice pb m cb] w fun e w'=>∃ out,out.length=n+1/\WOk out/\wv out=wv la+wv lb/\e=.returned (.slice (some ⟨w.heap.size,0,none⟩) (n+1) (n+1))/\Blk w' w.heap.size out/\Below w.heap.size w w':=by
 have H:=hid (And.intro hna hnb);have HA:=hid ha;have HB:=hid hb;have hmk:=Qhs (n+1) (by omega);have en:((n+1:Nat):Int)=(n:Int)+1:=by omega
 rw[en] at hmk;have hlt:¬(n:Int)<(m:Int):=by omega
 clear ha hb hna hnb en
 go_enter func252,Tryz.ntmps252
 go_wp2
 go_loopw [6,7,8,22] (fun c _ _ i wr=>∃(k cr:Nat) (out:List Nat),k<=n/\i=.int .i64 k/\c=.int .u64 cr/\cr<=1/\Hid (out.length=n+1)/\WOk out/\Hid (wv (out.take k)+4294967296^k*cr=wv (la.take k)+wv (lb.take k))/\Blk wr w.heap.size out/\Below w.heap.size w wr)
  (fun _ _ _ i _=>n-(intOf i).toNat)
 case atStart =>
  exact⟨0,0,List.replicate (n+1) 0,Nat.zero_le _,rfl,rfl,by omega,hid (by simp),Qbr _,hid (by simp[wv]),Blk.new _ _,br.alloc lr _⟩
 case round =>
  obtain⟨k,cr,out,hk,rfl,rfl,hcr,hlo,oo,hinv,hblk,hB⟩:=hrel
  by_cases hlt2:k<n
  .obtain⟨b,off,rfl,hbs,hcl⟩:=HA.out (by intro h;have:=H.out.1;rw[h] at this;simp at this;omega);have c0:=(hB.cell (p:=⟨b,off+k,none⟩) hbs).trans (hcl k (by have:=H.out.1;omega));have c1:=hblk.cell (i:=k) (by have:=hlo.out;omega);have c2:=hblk.frozen k;have bx:la[k]?.getD 0<4294967296:=Qci oa k;clear hcl
   by_cases hkm:k<m
   .obtain⟨b2,off2,rfl,hbs2,hcl2⟩:=HB.out (by intro h;have:=H.out.2;rw[h] at this;simp at this;omega);have c3:=(hB.cell (p:=⟨b2,off2+k,none⟩) hbs2).trans (hcl2 k (by have:=H.out.2;omega));have by_:lb[k]?.getD 0<4294967296:=Qci ob k;clear hcl2;have e1:((cr:Int)+(la[k]?.getD 0:Nat)+(lb[k]?.getD 0:Nat))%4294967296=((cr+wat la k+wat lb k)%4294967296:Nat):=by unfold wat;omega
    have e2:((cr:Int)+(la[k]?.getD 0:Nat)+(lb[k]?.getD 0:Nat))/4294967296=((cr+wat la k+wat lb k)/4294967296:Nat):=by unfold wat;omega
    have E:=hid (And.intro e1 e2);have hst:=hid (Qjo (by have:=hlo.out;omega) hinv.out);have hcr':(cr+wat la k+wat lb k)/4294967296<=1:=by unfold wat;omega
    clear e1 e2
    go_wp2
    go_roundw
    case rel =>
     rw[E.out.1,E.out.2];exact⟨k+1,_,_,by omega,by go_num,rfl,hcr',hid (by have:=hlo.out;simpa using this),Qdb oo k _ (Nat.mod_lt _ (by decide)),hst,hblk.set k _,hB.setCell (p:=⟨w.heap.size,k,none⟩) lr _⟩
    case measure=>simp[intOf];omega
   .have hw0:wat lb k=0:=Qih (by have:=H.out.2;omega);have e1:((cr:Int)+(la[k]?.getD 0:Nat))%4294967296=((cr+wat la k+wat lb k)%4294967296:Nat):=by rw[hw0];unfold wat;omega
    have e2:((cr:Int)+(la[k]?.getD 0:Nat))/4294967296=((cr+wat la k+wat lb k)/4294967296:Nat):=by rw[hw0];unfold wat;omega
    have E:=hid (And.intro e1 e2);have hst:=hid (Qjo (by have:=hlo.out;omega) hinv.out);have hcr':(cr+wat la k+wat lb k)/4294967296<=1:=by rw[hw0];unfold wat;omega
    clear e1 e2 hw0
    go_wp2
    go_roundw
    case rel =>
     rw[E.out.1,E.out.2];exact⟨k+1,_,_,by omega,by go_num,rfl,hcr',hid (by have:=hlo.out;simpa using this),Qdb oo k _ (Nat.mod_lt _ (by decide)),hst,hblk.set k _,hB.setCell (p:=⟨w.heap.size,k,none⟩) lr _⟩
    case measure=>simp[intOf];omega
  .obtain rfl:n=k:=by omega
   have c1:=hblk.cell (i:=n) (by have:=hlo.out;omega);have c2:=hblk.frozen n;have hfin:=hid (Kjg hlo.out H.out.1 (by have:=H.out.2;omega) hinv.out)
   go_wp2
   go_ret
   refine⟨out.set n cr,by have:=hlo.out;simpa using this,Qdb oo _ _ (by omega),hfin.out,rfl,hblk.set n cr,hB.setCell (p:=⟨w.heap.size,n,none⟩) lr _⟩
def Ksr(la lb:List Nat)(n m:Nat)(hna:la.length=n)(hnb:lb.length=m)(hmn:m<n)(oa:WOk la)(ob:WOk lb)(pa pb:Option Addr)(ca cb:Nat)(w:World)(ha:Row w pa la)(hb:Row w pb lb)(hn:n<1099511627776) :
  Calls prog 252 #[.slice pb m cb,.slice pa n ca] w fun e w'=>∃ out,out.length=n+1/\WOk out/\wv out=wv la+wv lb/\e=.returned (.slice (some ⟨w.heap.size,0,none⟩) (n+1) (n+1))/\Blk w' w.heap.size out/\Below w.heap.size w w':=by
 have H:=hid (And.intro hna hnb);have HA:=hid ha;have HB:=hid hb;have hmk:=Qhs (n+1) (by omega);have en:((n+1:Nat):Int)=(n:Int)+1:=by omega
 rw[en] at hmk;have hlt:(m:Int)<(n:Int):=by omega
 clear ha hb hna hnb en
 go_enter func252,Tryz.ntmps252
 go_wp2
 go_loopw [6,7,8,22] (fun c _ _ i wr=>∃(k cr:Nat) (out:List Nat),k<=n/\i=.int .i64 k/\c=.int .u64 cr/\cr<=1/\Hid (out.length=n+1)/\WOk out/\Hid (wv (out.take k)+4294967296^k*cr=wv (la.take k)+wv (lb.take k))/\Blk wr w.heap.size out/\Below w.heap.size w wr)
  (fun _ _ _ i _=>n-(intOf i).toNat)
 case atStart =>
  exact⟨0,0,List.replicate (n+1) 0,Nat.zero_le _,rfl,rfl,by omega,hid (by simp),Qbr _,hid (by simp[wv]),Blk.new _ _,br.alloc lr _⟩
 case round =>
  obtain⟨k,cr,out,hk,rfl,rfl,hcr,hlo,oo,hinv,hblk,hB⟩:=hrel
  by_cases hlt2:k<n
  .obtain⟨b,off,rfl,hbs,hcl⟩:=HA.out (by intro h;have:=H.out.1;rw[h] at this;simp at this;omega);have c0:=(hB.cell (p:=⟨b,off+k,none⟩) hbs).trans (hcl k (by have:=H.out.1;omega));have c1:=hblk.cell (i:=k) (by have:=hlo.out;omega);have c2:=hblk.frozen k;have bx:la[k]?.getD 0<4294967296:=Qci oa k;clear hcl
   by_cases hkm:k<m
   .obtain⟨b2,off2,rfl,hbs2,hcl2⟩:=HB.out (by intro h;have:=H.out.2;rw[h] at this;simp at this;omega);have c3:=(hB.cell (p:=⟨b2,off2+k,none⟩) hbs2).trans (hcl2 k (by have:=H.out.2;omega));have by_:lb[k]?.getD 0<4294967296:=Qci ob k;clear hcl2;have e1:((cr:Int)+(la[k]?.getD 0:Nat)+(lb[k]?.getD 0:Nat))%4294967296=((cr+wat la k+wat lb k)%4294967296:Nat):=by unfold wat;omega
    have e2:((cr:Int)+(la[k]?.getD 0:Nat)+(lb[k]?.getD 0:Nat))/4294967296=((cr+wat la k+wat lb k)/4294967296:Nat):=by unfold wat;omega
    have E:=hid (And.intro e1 e2);have hst:=hid (Qjo (by have:=hlo.out;omega) hinv.out);have hcr':(cr+wat la k+wat lb k)/4294967296<=1:=by unfold wat;omega
    clear e1 e2
    go_wp2
    go_roundw
    case rel =>
     rw[E.out.1,E.out.2];exact⟨k+1,_,_,by omega,by go_num,rfl,hcr',hid (by have:=hlo.out;simpa using this),Qdb oo k _ (Nat.mod_lt _ (by decide)),hst,hblk.set k _,hB.setCell (p:=⟨w.heap.size,k,none⟩) lr _⟩
    case measure=>simp[intOf];omega
   .have hw0:wat lb k=0:=Qih (by have:=H.out.2;omega);have e1:((cr:Int)+(la[k]?.getD 0:Nat))%4294967296=((cr+wat la k+wat lb k)%4294967296:Nat):=by rw[hw0];unfold wat;omega
    have e2:((cr:Int)+(la[k]?.getD 0:Nat))/4294967296=((cr+wat la k+wat lb k)/4294967296:Nat):=by rw[hw0];unfold wat;omega
    have E:=hid (And.intro e1 e2);have hst:=hid (Qjo (by have:=hlo.out;omega) hinv.out);have hcr':(cr+wat la k+wat lb k)/4294967296<=1:=by rw[hw0];unfold wat;omega
    clear e1 e2 hw0
    go_wp2
    go_roundw
    case rel =>
     rw[E.out.1,E.out.2];exact⟨k+1,_,_,by omega,by go_num,rfl,hcr',hid (by have:=hlo.out;simpa using this),Qdb oo k _ (Nat.mod_lt _ (by decide)),hst,hblk.set k _,hB.setCell (p:=⟨w.heap.size,k,none⟩) lr _⟩
    case measure=>simp[intOf];omega
  .obtain rfl:n=k:=by omega
   have c1:=hblk.cell (i:=n) (by have:=hlo.out;omega);have c2:=hblk.frozen n;have hfin:=hid (Kjg hlo.out H.out.1 (by have:=H.out.2;omega) hinv.out)
   go_wp2
   go_ret
   refine⟨out.set n cr,by have:=hlo.out;simpa using this,Qdb oo _ _ (by omega),hfin.out,rfl,hblk.set n cr,hB.setCell (p:=⟨w.heap.size,n,none⟩) lr _⟩
def Kzi(la lb:List Nat)(va vb:Value)(w:World)(oa:WOk la)(ob:WOk lb)(ha:WSl w va la)(hb:WSl w vb lb)(hn:la.length<1099511627776)(hm:lb.length<1099511627776) :
  Calls prog 252 #[va,vb] w fun e w'=>∃ out,out.length=max la.length lb.length+1/\WOk out/\wv out=wv la+wv lb/\e=.returned (.slice (some ⟨w.heap.size,0,none⟩) out.length out.length)/\Blk w' w.heap.size out/\Below w.heap.size w w':=by
 obtain⟨pa,ca,rfl,hca,ha⟩:=ha;obtain⟨pb,cb,rfl,hcb,hb⟩:=hb
 by_cases h:lb.length<=la.length
 .refine(Kzj la lb _ _ rfl rfl h oa ob pa pb ca cb w ha hb hn).mono ?_;rintro e w' ⟨out,h1,h2,h3,h4,h5,h6⟩;exact⟨out,by omega,h2,h3,by rw[h1];exact h4,h5,h6⟩
 .refine(Ksr lb la _ _ rfl rfl (by omega) ob oa pb pa cb ca w hb ha hm).mono ?_;rintro e w' ⟨out,h1,h2,h3,h4,h5,h6⟩;exact⟨out,by omega,h2,by omega,by rw[h1];exact h4,h5,h6⟩
def Qsv(x s:Nat)(hx:x<4294967296)(hs:s<=4294967296):∃ d e:Nat,d<4294967296/\e<=1/\x+4294967296*e=d+s/\(IntKind.u64.wrap ((x:Int)-(s:Int))%4294967296=(d:Int))/\bits BinOp.and IntKind.u64 (IntKind.u64.wrap ((x:Int)-(s:Int))/4294967296) 1=(e:Int):=by
 have hw:IntKind.u64.wrap ((x:Int)-(s:Int))=((x:Int)-(s:Int))%18446744073709551616:=rfl
 by_cases h:s<=x
 .have h1:IntKind.u64.wrap ((x:Int)-(s:Int))=((x-s:Nat):Int):=by rw[hw];omega
  have h2:((x-s:Nat):Int)/4294967296=0:=by omega
  refine⟨x-s,0,by omega,by omega,by omega,by rw[h1];omega,?_⟩;rw[h1,h2];decide
 .have h1:IntKind.u64.wrap ((x:Int)-(s:Int))/4294967296=4294967295:=by rw[hw];omega
  refine⟨4294967296+x-s,1,by omega,by omega,by omega,by rw[hw];omega,?_⟩;rw[h1];decide
def Kze(la lb:List Nat)(n m:Nat)(hna:la.length=n)(hnb:lb.length=m)(hmn:m<=n)(oa:WOk la)(ob:WOk lb)(hle:wv lb<=wv la)(pa pb:Option Addr)(ca cb:Nat)(w:World)(ha:Row w pa la)(hb:Row w pb lb)(hn:n<1099511627776) :
  Calls prog 253 #[.slice pa n ca,.slice pb m cb] w fun e w'=>∃ out,out.length=n/\WOk out/\wv out=wv la-wv lb/\e=.returned (.slice (some ⟨w.heap.size,0,none⟩) n n)/\Blk w' w.heap.size out/\Below w.heap.size w w':=by
 have H:=hid (And.intro hna hnb);have HA:=hid ha;have HB:=hid hb;have HL:=hid hle;have hmk:=Qhs n (by omega);clear ha hb hna hnb hle
 go_enter func253,Tryz.ntmps253
 go_wp2
 go_loopw [6,7,8,9,10,16] (fun c _ _ _ _ i wr=>∃(k cr:Nat) (out:List Nat),k<=n/\i=.int .i64 k/\c=.int .u64 cr/\cr<=1/\Hid (out.length=n)/\WOk out/\Hid (wv (out.take k)+wv (lb.take k)=wv (la.take k)+4294967296^k*cr)/\Blk wr w.heap.size out/\Below w.heap.size w wr)
  (fun _ _ _ _ _ i _=>n-(intOf i).toNat)
 case atStart =>
  exact⟨0,0,List.replicate n 0,Nat.zero_le _,rfl,rfl,by omega,hid (by simp),Qbr _,hid (by simp[wv]),Blk.new _ _,br.alloc lr _⟩
 case round =>
  obtain⟨k,cr,out,hk,rfl,rfl,hcr,hlo,oo,hinv,hblk,hB⟩:=hrel
  by_cases hlt2:k<n
  .obtain⟨b,off,rfl,hbs,hcl⟩:=HA.out (by intro h;have:=H.out.1;rw[h] at this;simp at this;omega);have c0:=(hB.cell (p:=⟨b,off+k,none⟩) hbs).trans (hcl k (by have:=H.out.1;omega));have c1:=hblk.cell (i:=k) (by have:=hlo.out;omega);have c2:=hblk.frozen k;have bx:la[k]?.getD 0<4294967296:=Qci oa k;clear hcl
   by_cases hkm:k<m
   .obtain⟨b2,off2,rfl,hbs2,hcl2⟩:=HB.out (by intro h;have:=H.out.2;rw[h] at this;simp at this;omega);have c3:=(hB.cell (p:=⟨b2,off2+k,none⟩) hbs2).trans (hcl2 k (by have:=H.out.2;omega));have by_:lb[k]?.getD 0<4294967296:=Qci ob k;clear hcl2;obtain⟨d,e,hd,he,hde,e1,e2⟩:=Qsv (la[k]?.getD 0) (cr+lb[k]?.getD 0) bx (by omega);rw[Int.natCast_add] at e1 e2;have hst:=hid (Qsu (d:=d) (e:=e) (by have:=hlo.out;omega) (by unfold wat;omega) hinv.out);have E:=hid (And.intro e1 e2);clear e1 e2 hde
    go_wp2
    go_roundw
    case rel =>
     rw[E.out.1,E.out.2];exact⟨k+1,_,_,by omega,by go_num,rfl,he,hid (by have:=hlo.out;simpa using this),Qdb oo k _ hd,hst,hblk.set k _,hB.setCell (p:=⟨w.heap.size,k,none⟩) lr _⟩
    case measure=>simp[intOf];omega
   .have hw0:wat lb k=0:=Qih (by have:=H.out.2;omega);obtain⟨d,e,hd,he,hde,e1,e2⟩:=Qsv (la[k]?.getD 0) cr bx (by omega);have hst:=hid (Qsu (d:=d) (e:=e) (by have:=hlo.out;omega) (by rw[hw0];unfold wat;omega) hinv.out);have E:=hid (And.intro e1 e2);clear e1 e2 hde hw0
    go_wp2
    go_roundw
    case rel =>
     rw[E.out.1,E.out.2];exact⟨k+1,_,_,by omega,by go_num,rfl,he,hid (by have:=hlo.out;simpa using this),Qdb oo k _ hd,hst,hblk.set k _,hB.setCell (p:=⟨w.heap.size,k,none⟩) lr _⟩
    case measure=>simp[intOf];omega
  .obtain rfl:n=k:=by omega
   have hfin:=hid (Kjf hlo.out oo H.out.1 (by have:=H.out.2;omega) HL.out hinv.out)
   go_wp2
   go_ret
   exact⟨out,hlo.out,oo,hfin.out,rfl,hblk,hB⟩
def Kje(la lb:List Nat)(va vb:Value)(w:World)(oa:WOk la)(ob:WOk lb)(hle:wv lb<=wv la)(hll:lb.length<=la.length)(ha:WSl w va la)(hb:WSl w vb lb)(hn:la.length<1099511627776) :
  Calls prog 253 #[va,vb] w fun e w'=>∃ out,out.length=la.length/\WOk out/\wv out=wv la-wv lb/\e=.returned (.slice (some ⟨w.heap.size,0,none⟩) out.length out.length)/\Blk w' w.heap.size out/\Below w.heap.size w w':=by
 obtain⟨pa,ca,rfl,hca,ha⟩:=ha;obtain⟨pb,cb,rfl,hcb,hb⟩:=hb;refine(Kze la lb _ _ rfl rfl hll oa ob hle pa pb ca cb w ha hb hn).mono ?_;rintro e w' ⟨out,h1,h2,h3,h4,h5,h6⟩;exact⟨out,h1,h2,h3,by rw[h1];exact h4,h5,h6⟩
end Go.Proofs.YtcjjdooeogmdbaaGreat
namespace Tr
def Qvg{l:List Nat}{i:Nat}(h:wv l<4294967296^i):wat l i=0:=by
 by_cases hi:i<l.length
 .have h1:=Qmi hi;rw[Qxf hi];rcases Nat.eq_zero_or_pos l[i] with h0|h0
  .exact h0
  .have:4294967296^i*1<=4294967296^i*(l[i]+4294967296*wv (l.drop (i+1))):=Nat.mul_le_mul_left _ (by omega);omega
 .exact Qih (by omega)
def Qxg{l:List Nat}{i k x:Nat}(h:i≠k):wat (l.set i x) k=wat l k:=by
 unfold wat;rw[List.getElem?_set_ne h]
def Qqh{l:List Nat}{i:Nat}(h:i<l.length)(x:Nat):wv (l.set i x)+4294967296^i*wat l i=wv l+4294967296^i*x:=by
 rw[Qxf h];exact Uop h x
def Qqt{out lb:List Nat}{i k c x V:Nat}(ho:i+k<out.length)(h:wv out+4294967296^(i+k)*c=V+4294967296^i*(x*wv (lb.take k))) :
  wv (out.set (i+k) ((c+(x*wat lb k+wat out (i+k)))%4294967296))+4294967296^(i+(k+1))*((c+(x*wat lb k+wat out (i+k)))/4294967296)=V+4294967296^i*(x*wv (lb.take (k+1))):=by
 have h1:=Qqh ho ((c+(x*wat lb k+wat out (i+k)))%4294967296);have h2:=Qsw (4294967296^(i+k)) (c+(x*wat lb k+wat out (i+k)));rw[Qfd,show i+(k+1)=i+k+1 by omega,Nat.pow_succ];generalize (c+(x*wat lb k+wat out (i+k)))%4294967296=s at *
 generalize (c+(x*wat lb k+wat out (i+k)))/4294967296=t at *
 rw[Nat.mul_add,Nat.mul_add] at h2;have h3:4294967296^i*(x*(wv (lb.take k)+4294967296^k*wat lb k))=4294967296^i*(x*wv (lb.take k))+4294967296^(i+k)*(x*wat lb k):=by
  rw[Nat.mul_add,Nat.mul_add,Nat.pow_add];congr 1;simp only[Nat.mul_assoc,Nat.mul_left_comm]
 rw[h3];omega
def Qti{out la lb:List Nat}{i m c:Nat}(ho:i+m<out.length)(hm:lb.length=m)(hz:wat out (i+m)=0)(h:wv out+4294967296^(i+m)*c=wv (la.take i)*wv lb+4294967296^i*(wat la i*wv (lb.take m))) :
  wv (out.set (i+m) c)=wv (la.take (i+1))*wv lb:=by
 have h1:=Qqh ho c;rw[hz] at h1;rw[List.take_of_length_le (l:=lb) (by omega)] at h;rw[Qfd,Nat.add_mul,Nat.mul_assoc];omega
def Qqs{out la lb:List Nat}{i m:Nat}(oa:WOk la)(ob:WOk lb)(hm:lb.length=m)(hi:i<=la.length)(h:wv out=wv (la.take i)*wv lb):wat out (i+m)=0:=by
 apply Qvg;have h1:=Qil (Qfs oa i);have h2:=Qil ob;have h3:(la.take i).length=i:=by simp;omega
 rw[h3] at h1;rw[hm] at h2;rw[h,Nat.pow_add];exact Nat.mul_lt_mul'' h1 h2
def Qmf{x y:Nat}(hx:x<4294967296)(hy:y<4294967296):(x:Int)*(y:Int)<=18446744065119617025/\0<=(x:Int)*(y:Int):=by
 have h:x*y<=4294967295*4294967295:=Nat.mul_le_mul (by omega) (by omega);constructor
 .have:((x*y:Nat):Int)<=18446744065119617025:=by omega
  simpa using this
 .have:(0:Int)<=((x*y:Nat):Int):=by omega
  simpa using this
end Tr
namespace Go.Proofs.YtcjjdooeogmdbaaGreat
open Go.RowKit Tr Proofs.Tryz
def Kde(la lb:List Nat)(n m:Nat)(hna:la.length=n)(hnb:lb.length=m)(oa:WOk la)(ob:WOk lb)(pa pb:Option Addr)(ca cb:Nat)(w:World)(ha:Row w pa la)(hb:Row w pb lb)(hn:n<1099511627776)(hm:m<1099511627776) :
  Calls prog 230 #[.slice pa n ca,.slice pb m cb] w fun e w'=>∃ out,out.length=n+m/\WOk out/\wv out=wv la*wv lb/\e=.returned (.slice (some ⟨w.heap.size,0,none⟩) (n+m) (n+m))/\Blk w' w.heap.size out/\Below w.heap.size w w':=by
 have H:=hid (And.intro hna hnb);have HA:=hid ha;have HB:=hid hb;have hmk:=Qhs (n+m) (by omega);have en:((n+m:Nat):Int)=(n:Int)+m:=by omega
 rw[en] at hmk;clear ha hb hna hnb en
 go_enter func230,Tryz.ntmps230
 go_wp2
 go_loopw [6,7,8,9,10,19] (fun _ _ _ _ _ i wr=>∃(k:Nat) (out:List Nat),k<=n/\i=.int .i64 k/\Hid (out.length=n+m)/\WOk out/\Hid (wv out=wv (la.take k)*wv lb)/\Blk wr w.heap.size out/\Below w.heap.size w wr)
  (fun _ _ _ _ _ i _=>n-(intOf i).toNat)
 case atStart =>
  exact⟨0,List.replicate (n+m) 0,Nat.zero_le _,rfl,hid (by simp),Qbr _,hid (by rw[Qfa];simp[wv]),Blk.new _ _,br.alloc lr _⟩
 case round =>
  obtain⟨k,out,hk,rfl,hlo,oo,hinv,hblk,hB⟩:=hrel
  by_cases hlt2:k<n
  .obtain⟨b,off,rfl,hbs,hcl⟩:=HA.out (by intro h;have:=H.out.1;rw[h] at this;simp at this;omega);have c0:=(hB.cell (p:=⟨b,off+k,none⟩) hbs).trans (hcl k (by have:=H.out.1;omega));have bx:la[k]?.getD 0<4294967296:=Qci oa k;have hroom:=hid (Qqs (i:=k) (m:=m) oa ob H.out.2 (by have:=H.out.1;omega) hinv.out);clear hcl;obtain⟨wo,rfl⟩:∃ wo:World,wo=wr:=⟨_,rfl⟩
   go_wp2
   go_loopw [8,9,10,26] (fun c _ _ j wr=>∃(k2 cr:Nat) (out2:List Nat),k2<=m/\j=.int .i64 k2/\c=.int .u64 cr/\cr<4294967296/\Hid (out2.length=n+m)/\WOk out2/\Hid (wat out2 (k+m)=0)/\Hid (wv out2+4294967296^(k+k2)*cr=wv (la.take k)*wv lb+4294967296^k*(wat la k*wv (lb.take k2)))/\Blk wr w.heap.size out2/\Below w.heap.size w wr)
    (fun _ _ _ j _=>m-(intOf j).toNat)
   case atStart =>
    exact⟨0,0,out,Nat.zero_le _,rfl,rfl,by omega,hlo,oo,hroom,hid (by simpa[wv] using hinv.out),hblk,hB⟩
   case round =>
    obtain⟨k2,cr,out2,hk2,rfl,rfl,hcr,hlo2,oo2,hz2,hinv2,hblk2,hB2⟩:=hrel
    by_cases hlt3:k2<m
    .obtain⟨b2,off2,rfl,hbs2,hcl2⟩:=HB.out (by intro h;have:=H.out.2;rw[h] at this;simp at this;omega);have c3:=(hB2.cell (p:=⟨b2,off2+k2,none⟩) hbs2).trans (hcl2 k2 (by have:=H.out.2;omega));have by_:lb[k2]?.getD 0<4294967296:=Qci ob k2;have bo:out2[k+k2]?.getD 0<4294967296:=Qci oo2 _;have c1:=hblk2.cell (i:=k+k2) (by have:=hlo2.out;omega);have c2:=hblk2.frozen (k+k2);have hxy:=Qmf bx by_;have e1:((cr:Int)+((la[k]?.getD 0:Nat)*(lb[k2]?.getD 0:Nat)+(out2[k+k2]?.getD 0:Nat)))%4294967296=((cr+(wat la k*wat lb k2+wat out2 (k+k2)))%4294967296:Nat):=by simp[wat]
     have e2:((cr:Int)+((la[k]?.getD 0:Nat)*(lb[k2]?.getD 0:Nat)+(out2[k+k2]?.getD 0:Nat)))/4294967296=((cr+(wat la k*wat lb k2+wat out2 (k+k2)))/4294967296:Nat):=by simp[wat]
     have hst:=hid (Qqt (x:=wat la k) (by have:=hlo2.out;omega) hinv2.out);have hcr':(cr+(wat la k*wat lb k2+wat out2 (k+k2)))/4294967296<4294967296:=by unfold wat;omega
     have E:=hid (And.intro e1 e2);clear hcl2 e1 e2
     go_wp2
     go_roundw
     case rel =>
      rw[E.out.1,E.out.2];exact⟨k2+1,_,_,by omega,by go_num,rfl,hcr',hid (by have:=hlo2.out;simpa using this),Qdb oo2 _ _ (Nat.mod_lt _ (by decide)),hid (by rw[Qxg (by omega)];exact hz2.out),hst,hblk2.set _ _,hB2.setCell (p:=⟨w.heap.size,k+k2,none⟩) lr _⟩
     case measure=>simp[intOf];omega
    .obtain rfl:m=k2:=by omega
     have hfin:=hid (Qti (out:=out2) (la:=la) (lb:=lb) (i:=k) (m:=m) (by have:=hlo2.out;omega) H.out.2 hz2.out hinv2.out);have c1:=hblk2.cell (i:=k+m) (by have:=hlo2.out;omega);have c2:=hblk2.frozen (k+m)
     go_wp2
     go_roundw
     case rel =>
      exact⟨k+1,_,by omega,by go_num,hid (by have:=hlo2.out;simpa using this),Qdb oo2 _ _ hcr,hfin,hblk2.set _ _,hB2.setCell (p:=⟨w.heap.size,k+m,none⟩) lr _⟩
     case measure=>simp[intOf];omega
  .obtain rfl:n=k:=by omega
   go_wp2
   go_ret
   exact⟨out,hlo.out,oo,by have:=hinv.out;rwa[List.take_of_length_le (by have:=H.out.1;omega)] at this,rfl,hblk,hB⟩
def Kge(la lb:List Nat)(va vb:Value)(w:World)(oa:WOk la)(ob:WOk lb)(ha:WSl w va la)(hb:WSl w vb lb)(hn:la.length<1099511627776)(hm:lb.length<1099511627776) :
  Calls prog 230 #[va,vb] w fun e w'=>∃ out,out.length=la.length+lb.length/\WOk out/\wv out=wv la*wv lb/\e=.returned (.slice (some ⟨w.heap.size,0,none⟩) out.length out.length)/\Blk w' w.heap.size out/\Below w.heap.size w w':=by
 obtain⟨pa,ca,rfl,hca,ha⟩:=ha;obtain⟨pb,cb,rfl,hcb,hb⟩:=hb;refine(Kde la lb _ _ rfl rfl oa ob pa pb ca cb w ha hb hn hm).mono ?_;rintro e w' ⟨out,h1,h2,h3,h4,h5,h6⟩;exact⟨out,h1,h2,h3,by rw[h1];exact h4,h5,h6⟩
end Go.Proofs.YtcjjdooeogmdbaaGreat
namespace Tr
def Qwz{la out:List Nat}{k r d:Nat}(hk:k<la.length)(ho:k<out.length)(h:wv (out.drop (k+1))*d+r=wv (la.drop (k+1))) :
  wv ((out.set k ((r*4294967296+wat la k)/d)).drop k)*d+(r*4294967296+wat la k)%d=wv (la.drop k):=by
 rw[Khi (l:=out.set k _) (by simpa using ho),List.drop_set_of_lt (by omega),List.getElem_set_self,Khi hk,<-Qxf hk,<-h];have h1:=Nat.div_add_mod (r*4294967296+wat la k) d;generalize (r*4294967296+wat la k)/d=q at *
 generalize (r*4294967296+wat la k)%d=s at *
 rw[Nat.add_mul,Nat.mul_add,Nat.mul_assoc,Nat.mul_comm q d];omega
def Kkx{r d x:Nat}(hr:r<d)(hx:x<4294967296):(r*4294967296+x)/d<4294967296:=by
 rw[Nat.div_lt_iff_lt_mul (by omega)];have:(r+1)*4294967296<=d*4294967296:=Nat.mul_le_mul_right _ hr;rw[Nat.mul_comm 4294967296 d];omega
end Tr
namespace Go.Proofs.YtcjjdooeogmdbaaGreat
open Go.RowKit Tr Proofs.Tryz
def Uun{x y k:Nat}(hy:y<2^k)(h:x*2^k+y<18446744073709551616):bits BinOp.or .u64 ((x*2^k:Nat):Int) (y:Int)=((x*2^k+y:Nat):Int):=by
 rw[bits_or_u64_nat _ _ (by omega) (by omega),Nat.mul_comm,Nat.two_pow_add_eq_or_of_lt hy]
def Qpy{x y:Nat}(hx:x<4294967296)(hy:y<4294967296):bits BinOp.or .u64 ((x:Int)*4294967296) (y:Int)=(x:Int)*4294967296+(y:Int):=by
 have:=Uun (x:=x) (y:=y) (k:=32) hy (by omega);simpa using this
def Qpl(l:List Nat)(v:Value)(w:World)(ol:WOk l)(hl:WSl w v l)(hm:l.length<1099511627776) :
  Calls prog 251 #[v] w fun e w'=>∃ v',e=.returned v'/\WSl w v' (Qad (wv l))/\w=w':=by
 obtain⟨p,c,rfl,hc,hl⟩:=hl;refine(Krp l _ rfl ol p c w hl hc hm).mono ?_;rintro e w' ⟨k,h1,h2,rfl,rfl⟩;have h3:(l.take k).length=k:=by simp;omega
 refine⟨_,rfl,?_,rfl⟩;rw[<-h2];refine⟨p,c,by rw[h3],by omega,fun hne=>?_⟩;obtain⟨b,off,h4,h5,h6⟩:=hl (by intro h;rw[h] at hne;simp at hne);refine⟨b,off,h4,h5,fun j hj=>?_⟩;rw[h3] at hj;rw[h6 j (by omega),List.getElem?_take_of_lt hj]
def Koo(la:List Nat)(n d:Nat)(hna:la.length=n)(oa:WOk la)(hd:0<d)(hd2:d<4294967296)(pa:Option Addr)(ca:Nat)(w:World)(ha:Row w pa la)(hn:n<1099511627776) :
  Calls prog 259 #[.slice pa n ca,.int .u32 d] w fun e w'=>∃ v,e=.returned (.tuple #[v,.int .u32 (wv la%d:Nat)])/\WSl w' v (Qad (wv la/d))/\Below w.heap.size w w':=by
 have H:=hid hna;have HA:=hid ha;have hmk:=Qhs n (by omega);clear ha hna
 go_enter func259,Tryz.ntmps259
 go_wp2
 go_loopw [7,8] (fun r i wr=>∃(k s:Nat) (out:List Nat),k<=n/\i=.int .i64 ((k:Int)-1)/\r=.int .u64 s/\s<d/\Hid (out.length=n)/\WOk out/\Hid (wv (out.drop k)*d+s=wv (la.drop k))/\Blk wr w.heap.size out/\Below w.heap.size w wr)
  (fun _ i _=>(intOf i+1).toNat)
 case atStart =>
  exact⟨n,0,List.replicate n 0,Nat.le_refl _,rfl,rfl,hd,hid (by simp),Qbr _,hid (by rw[List.drop_eq_nil_of_le (by simp),List.drop_eq_nil_of_le (by have:=H.out;omega)];simp[wv]),Blk.new _ _,br.alloc lr _⟩
 case round =>
  obtain⟨k,s,out,hk,rfl,rfl,hs,hlo,oo,hinv,hblk,hB⟩:=hrel;cases k with
  | zero =>
   have h1:=hinv.out;simp only[List.drop_zero] at h1;have hq:wv out=wv la/d:=by
    rw[<-h1];rw[Nat.add_comm,Nat.add_mul_div_right _ _ hd,Nat.div_eq_of_lt hs];omega
   have hr:s=wv la%d:=by
    rw[<-h1,Nat.add_comm,Nat.add_mul_mod_self_right,Nat.mod_eq_of_lt hs]
   have hcut:=fun w' (h:Blk w' w.heap.size out)=>Qpl out _ w' oo (h.wsl (k:=n) (cap:=n) (by have:=hlo.out;omega) lr |> fun x=>by rwa[List.take_of_length_le (by have:=hlo.out;omega)] at x) (by have:=hlo.out;omega)
   rw[hq] at hcut;have HR:=hid hr;clear h1 hq hr
   go_wp2_with (go_at_call 251;refine(hcut _ hblk).mono ?_;rintro e w' ⟨v,rfl,hv,rfl⟩)
   go_ret2
   refine⟨v,?_,hv,hB⟩;rw[<-HR.out];rfl
  | succ m =>
   have e:((m+1:Nat):Int)-1=(m:Int):=by omega
   rw[e];clear e;obtain⟨b,off,rfl,hbs,hcl⟩:=HA.out (by intro h;have:=H.out;rw[h] at this;simp at this;omega);have c0:=(hB.cell (p:=⟨b,off+m,none⟩) hbs).trans (hcl m (by have:=H.out;omega));have c1:=hblk.cell (i:=m) (by have:=hlo.out;omega);have c2:=hblk.frozen m;have bx:la[m]?.getD 0<4294967296:=Qci oa m;have hst:=hid (Qwz (d:=d) (by have:=H.out;omega) (by have:=hlo.out;omega) hinv.out);have hor:=Qpy (x:=s) (y:=la[m]?.getD 0) (by omega) bx;have e1:((s:Int)*4294967296+(la[m]?.getD 0:Nat)).tmod (d:Int)=((s*4294967296+wat la m)%d:Nat):=by
    rw[Int.tmod_eq_emod_of_nonneg (by omega)];simp[wat]
   have e2:((s:Int)*4294967296+(la[m]?.getD 0:Nat)).tdiv (d:Int)=((s*4294967296+wat la m)/d:Nat):=by
    rw[Int.tdiv_eq_ediv_of_nonneg (by omega)];simp[wat]
   have hq:(s*4294967296+wat la m)/d<4294967296:=Kkx hs bx;have e3:IntKind.u64.wrap ((s*4294967296+wat la m)/d:Nat)%4294967296=((s*4294967296+wat la m)/d:Nat):=by
    show((((s*4294967296+wat la m)/d:Nat):Int)%18446744073709551616)%4294967296=_;generalize (s*4294967296+wat la m)/d=q at *
    omega
   have E:=hid (And.intro e1 (And.intro e2 e3));have HO:=hid hor;clear hcl hor e1 e2 e3
   go_wp2
   go_roundw
   case rel =>
    rw[HO.out,E.out.1,E.out.2.1,E.out.2.2];exact⟨m,_,_,by omega,rfl,rfl,Nat.mod_lt _ hd,hid (by have:=hlo.out;simpa using this),Qdb oo _ _ hq,hst,hblk.set _ _,hB.setCell (p:=⟨w.heap.size,m,none⟩) lr _⟩
   case measure=>simp[intOf]
def Kuc(la:List Nat)(d:Nat)(va:Value)(w:World)(oa:WOk la)(hd:0<d)(hd2:d<4294967296)(ha:WSl w va la)(hn:la.length<1099511627776) :
  Calls prog 259 #[va,.int .u32 d] w fun e w'=>∃ v,e=.returned (.tuple #[v,.int .u32 (wv la%d:Nat)])/\WSl w' v (Qad (wv la/d))/\Below w.heap.size w w':=by
 obtain⟨pa,ca,rfl,hca,ha⟩:=ha;exact Koo la _ d rfl oa hd hd2 pa ca w ha hn
