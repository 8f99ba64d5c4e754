/- FixedElsewhere, for every input: a map brought elsewhere by another one has the same sign, kind and order, and is alike; its factor makes its sign. No condition. -/
import Derived.Test.YtjlhiaafnpompaaGreatYbk
import Derived.ProofKit
import Derived.OpenShut
import Derived.ShutString
import Derived.ChangeOld
import Derived.Lib.SmallJoins
set_option linter.unusedVariables false
set_option maxHeartbeats 4000000
namespace Go.Proofs.YtjlhiaafnpompaaGreat
open Go.ChangeShapes Go.WideShapes Go.ChangeAt Go.RowKit Go.Deep Go.Joins
theorem Tryz.own:ownKnob Tryz.prog.godebug=none:=by kernel_rfl
theorem Tryz.laidOut:laidOutB Tryz.prog=true:=by kernel_rfl
section
variable{H:Type}{enc:TypeId×Value→H}{w:World}{base:Nat}{spare:Nat→Bool}{held:Bool}
theorem open_fields{t:TypeId}{fs:Array Field}{fuel:Nat}{cs:List Value}{x:DataW H×List MemPlace}(ht:(Tryz.prog).underlying t=some (.struct fs))(h:DataW.trod enc Tryz.prog w base spare held fuel t cs=some x) :
  cs.length=(Tryz.prog).cellsOf t∧∃ n,∀(i:Nat) (f:Field),fs[i]?=some f→∃ y,DataW.trod enc Tryz.prog w base spare held n f.type ((cs.drop f.offset).take ((Tryz.prog).cellsOf f.type))=some y:=by
 obtain⟨xs,n,_,_,hl,hlen,hg⟩:=DataW.trod_struct ht h
 refine⟨hl,n,fun i f hf=>?_⟩
 have hi:i<xs.length:=by rw[hlen]; exact(Array.getElem?_eq_some_iff.1 hf).1
 exact⟨xs[i],by rw[hg i f hf]; simp[hi]⟩
set_option maxRecDepth 100000 in
theorem open_whole{fuel:Nat}{cs:List Value}{x:DataW H×List MemPlace}(h:DataW.trod enc Tryz.prog w base spare held fuel 23 cs=some x):∃ b s,cs=[.bool b,.string s]:=by
 obtain⟨hl,n,hg⟩:=open_fields Tryz.underlying23 h
 have hl':cs.length=2:=hl.trans (by kernel_rfl)
 match cs,hl' with
 | [c0,c1],_ =>
  obtain⟨y0,h0⟩:=hg 0 _ rfl
  have hc0:(Tryz.prog).cellsOf 4=1:=by kernel_rfl
  have g0:DataW.trod enc Tryz.prog w base spare held n 4 (([c0,c1].drop 0).take ((Tryz.prog).cellsOf 4))=some y0:=h0
  rw[hc0] at g0
  have g0:DataW.trod enc Tryz.prog w base spare held n 4 [c0]=some y0:=g0
  obtain⟨b,k0,_⟩:=DataW.trod_bool Tryz.underlying4 g0
  obtain⟨y1,h1⟩:=hg 1 _ rfl
  have hc1:(Tryz.prog).cellsOf 9=1:=by kernel_rfl
  have g1:DataW.trod enc Tryz.prog w base spare held n 9 (([c0,c1].drop 1).take ((Tryz.prog).cellsOf 9))=some y1:=h1
  rw[hc1] at g1
  have g1:DataW.trod enc Tryz.prog w base spare held n 9 [c1]=some y1:=g1
  obtain⟨s,k1,_⟩:=DataW.trod_string Tryz.underlying9 g1
  simp only[List.cons.injEq,and_true] at k0
  obtain rfl:=k0
  simp only[List.cons.injEq,and_true] at k1
  obtain rfl:=k1
  exact⟨b,s,rfl⟩
set_option maxRecDepth 100000 in
theorem open_frac{fuel:Nat}{cs:List Value}{x:DataW H×List MemPlace}(h:DataW.trod enc Tryz.prog w base spare held fuel 25 cs=some x):∃ b0 s0 b1 s1,cs=[.bool b0,.string s0,.bool b1,.string s1]:=by
 obtain⟨hl,n,hg⟩:=open_fields Tryz.underlying25 h
 have hl':cs.length=4:=hl.trans (by kernel_rfl)
 match cs,hl' with
 | [c0,c1,c2,c3],_ =>
  obtain⟨y0,h0⟩:=hg 0 _ rfl
  have hc0:(Tryz.prog).cellsOf 23=2:=by kernel_rfl
  have g0:DataW.trod enc Tryz.prog w base spare held n 23 (([c0,c1,c2,c3].drop 0).take ((Tryz.prog).cellsOf 23))=some y0:=h0
  rw[hc0] at g0
  have g0:DataW.trod enc Tryz.prog w base spare held n 23 [c0,c1]=some y0:=g0
  obtain⟨b0,s0,k0⟩:=open_whole g0
  obtain⟨y1,h1⟩:=hg 1 _ rfl
  have hc1:(Tryz.prog).cellsOf 23=2:=by kernel_rfl
  have g1:DataW.trod enc Tryz.prog w base spare held n 23 (([c0,c1,c2,c3].drop 2).take ((Tryz.prog).cellsOf 23))=some y1:=h1
  rw[hc1] at g1
  have g1:DataW.trod enc Tryz.prog w base spare held n 23 [c2,c3]=some y1:=g1
  obtain⟨b1,s1,k1⟩:=open_whole g1
  simp only[List.cons.injEq,and_true] at k0
  obtain⟨rfl,rfl⟩:=k0
  simp only[List.cons.injEq,and_true] at k1
  obtain⟨rfl,rfl⟩:=k1
  exact⟨b0,s0,b1,s1,rfl⟩
set_option maxRecDepth 100000 in
theorem open_gauss{fuel:Nat}{cs:List Value}{x:DataW H×List MemPlace}(h:DataW.trod enc Tryz.prog w base spare held fuel 27 cs=some x):∃ b0 s0 b1 s1 b2 s2 b3 s3,cs=[.bool b0,.string s0,.bool b1,.string s1,.bool b2,.string s2,.bool b3,.string s3]:=by
 obtain⟨hl,n,hg⟩:=open_fields Tryz.underlying27 h
 have hl':cs.length=8:=hl.trans (by kernel_rfl)
 match cs,hl' with
 | [c0,c1,c2,c3,c4,c5,c6,c7],_ =>
  obtain⟨y0,h0⟩:=hg 0 _ rfl
  have hc0:(Tryz.prog).cellsOf 25=4:=by kernel_rfl
  have g0:DataW.trod enc Tryz.prog w base spare held n 25 (([c0,c1,c2,c3,c4,c5,c6,c7].drop 0).take ((Tryz.prog).cellsOf 25))=some y0:=h0
  rw[hc0] at g0
  have g0:DataW.trod enc Tryz.prog w base spare held n 25 [c0,c1,c2,c3]=some y0:=g0
  obtain⟨b0,s0,b1,s1,k0⟩:=open_frac g0
  obtain⟨y1,h1⟩:=hg 1 _ rfl
  have hc1:(Tryz.prog).cellsOf 25=4:=by kernel_rfl
  have g1:DataW.trod enc Tryz.prog w base spare held n 25 (([c0,c1,c2,c3,c4,c5,c6,c7].drop 4).take ((Tryz.prog).cellsOf 25))=some y1:=h1
  rw[hc1] at g1
  have g1:DataW.trod enc Tryz.prog w base spare held n 25 [c4,c5,c6,c7]=some y1:=g1
  obtain⟨b2,s2,b3,s3,k1⟩:=open_frac g1
  simp only[List.cons.injEq,and_true] at k0
  obtain⟨rfl,rfl,rfl,rfl⟩:=k0
  simp only[List.cons.injEq,and_true] at k1
  obtain⟨rfl,rfl,rfl,rfl⟩:=k1
  exact⟨b0,s0,b1,s1,b2,s2,b3,s3,rfl⟩
set_option maxRecDepth 100000 in
theorem open_map{fuel:Nat}{cs:List Value}{x:DataW H×List MemPlace}(h:DataW.trod enc Tryz.prog w base spare held fuel 29 cs=some x):∃ ab0 as0 ab1 as1 ab2 as2 ab3 as3 bb0 bs0 bb1 bs1 bb2 bs2 bb3 bs3 cb0 cs0 cb1 cs1 cb2 cs2 cb3 cs3 db0 ds0 db1 ds1 db2 ds2 db3 ds3 t,cs=[.bool ab0,.string as0,.bool ab1,.string as1,.bool ab2,.string as2,.bool ab3,.string as3,.bool bb0,.string bs0,.bool bb1,.string bs1,.bool bb2,.string bs2,.bool bb3,.string bs3,.bool cb0,.string cs0,.bool cb1,.string cs1,.bool cb2,.string cs2,.bool cb3,.string cs3,.bool db0,.string ds0,.bool db1,.string ds1,.bool db2,.string ds2,.bool db3,.string ds3,.bool t]:=by
 obtain⟨hl,n,hg⟩:=open_fields Tryz.underlying29 h
 have hl':cs.length=33:=hl.trans (by kernel_rfl)
 obtain⟨y0,h0⟩:=hg 0 _ rfl
 have hc0:(Tryz.prog).cellsOf 27=8:=by kernel_rfl
 have g0:DataW.trod enc Tryz.prog w base spare held n 27 ((cs.drop 0).take ((Tryz.prog).cellsOf 27))=some y0:=h0
 rw[hc0] at g0
 obtain⟨ab0,as0,ab1,as1,ab2,as2,ab3,as3,k0⟩:=open_gauss g0
 obtain⟨y1,h1⟩:=hg 1 _ rfl
 have hc1:(Tryz.prog).cellsOf 27=8:=by kernel_rfl
 have g1:DataW.trod enc Tryz.prog w base spare held n 27 ((cs.drop 8).take ((Tryz.prog).cellsOf 27))=some y1:=h1
 rw[hc1] at g1
 obtain⟨bb0,bs0,bb1,bs1,bb2,bs2,bb3,bs3,k1⟩:=open_gauss g1
 obtain⟨y2,h2⟩:=hg 2 _ rfl
 have hc2:(Tryz.prog).cellsOf 27=8:=by kernel_rfl
 have g2:DataW.trod enc Tryz.prog w base spare held n 27 ((cs.drop 16).take ((Tryz.prog).cellsOf 27))=some y2:=h2
 rw[hc2] at g2
 obtain⟨cb0,cs0,cb1,cs1,cb2,cs2,cb3,cs3,k2⟩:=open_gauss g2
 obtain⟨y3,h3⟩:=hg 3 _ rfl
 have hc3:(Tryz.prog).cellsOf 27=8:=by kernel_rfl
 have g3:DataW.trod enc Tryz.prog w base spare held n 27 ((cs.drop 24).take ((Tryz.prog).cellsOf 27))=some y3:=h3
 rw[hc3] at g3
 obtain⟨db0,ds0,db1,ds1,db2,ds2,db3,ds3,k3⟩:=open_gauss g3
 obtain⟨y4,h4⟩:=hg 4 _ rfl
 have hc4:(Tryz.prog).cellsOf 4=1:=by kernel_rfl
 have g4:DataW.trod enc Tryz.prog w base spare held n 4 ((cs.drop 32).take ((Tryz.prog).cellsOf 4))=some y4:=h4
 rw[hc4] at g4
 obtain⟨t,k4,_⟩:=DataW.trod_bool Tryz.underlying4 g4
 have t33:cs.take 33=cs.take 32++(cs.drop 32).take 1:=List.take_add (i:=32) (j:=1)
 have t32:cs.take 32=cs.take 24++(cs.drop 24).take 8:=List.take_add (i:=24) (j:=8)
 have t24:cs.take 24=cs.take 16++(cs.drop 16).take 8:=List.take_add (i:=16) (j:=8)
 have t16:cs.take 16=cs.take 8++(cs.drop 8).take 8:=List.take_add (i:=8) (j:=8)
 have t8:cs.take 8=(cs.drop 0).take 8:=by simp
 have e:cs=cs.take 33:=(List.take_of_length_le (by omega)).symm
 rw[t33,t32,t24,t16,t8,k0,k1,k2,k3,k4] at e
 exact⟨ab0,as0,ab1,as1,ab2,as2,ab3,as3,bb0,bs0,bb1,bs1,bb2,bs2,bb3,bs3,cb0,cs0,cb1,cs1,cb2,cs2,cb3,cs3,db0,ds0,db1,ds1,db2,ds2,db3,ds3,t,e⟩
set_option maxRecDepth 100000 in
theorem open_argM{r:Reach}{b0:Nat}{v:Value}{d:DataW H}{p:List MemPlace}(hv:Value.okWide Tryz.prog w r b0 29 v)(h:DataW.Trod enc Tryz.prog w base spare held 29 v d p) :
  ∃ ab0 as0 ab1 as1 ab2 as2 ab3 as3 bb0 bs0 bb1 bs1 bb2 bs2 bb3 bs3 cb0 cs0 cb1 cs1 cb2 cs2 cb3 cs3 db0 ds0 db1 ds1 db2 ds2 db3 ds3 t,v=.agg #[.bool ab0,.string as0,.bool ab1,.string as1,.bool ab2,.string as2,.bool ab3,.string as3,.bool bb0,.string bs0,.bool bb1,.string bs1,.bool bb2,.string bs2,.bool bb3,.string bs3,.bool cb0,.string cs0,.bool cb1,.string cs1,.bool cb2,.string cs2,.bool cb3,.string cs3,.bool db0,.string ds0,.bool db1,.string ds1,.bool db2,.string ds2,.bool db3,.string ds3,.bool t]:=by
 obtain⟨cs,rfl,hsz⟩:=okWide_struct Tryz.underlying29 hv
 obtain⟨fuel,hf⟩:=h
 obtain⟨ab0,as0,ab1,as1,ab2,as2,ab3,as3,bb0,bs0,bb1,bs1,bb2,bs2,bb3,bs3,cb0,cs0,cb1,cs1,cb2,cs2,cb3,cs3,db0,ds0,db1,ds1,db2,ds2,db3,ds3,t,e⟩:=open_map hf
 refine⟨ab0,as0,ab1,as1,ab2,as2,ab3,as3,bb0,bs0,bb1,bs1,bb2,bs2,bb3,bs3,cb0,cs0,cb1,cs1,cb2,cs2,cb3,cs3,db0,ds0,db1,ds1,db2,ds2,db3,ds3,t,?_⟩
 obtain⟨l⟩:=cs
 have e':l=_:=e
 rw[e']
end
set_option maxRecDepth 100000 in
theorem lifted(os:Os)(started:os.Started)(H:Type)(enc:TypeId×Value→H) :
  ReturnsInHanded {} Tryz.checked os 3 .any (Rows.fixedElsewhereSpec.pre6 enc Tryz.prog Tryz.f3 Rows.fixedElsewhereRow.domain false) (Rows.fixedElsewhereSpec.post enc Tryz.prog Tryz.f3 false true false false):=by
 refine returnsInHanded_of_change (C:=Tryz.checked) Tryz.own started (by kernel_rfl) Tryz.func3
  (ChangeSpec.witness6 (enc:=enc) (C:=Tryz.checked) false ⟨#[],#[.agg #[.bool false,.string ⟨#[]⟩,.bool false,.string ⟨#[]⟩,.bool false,.string ⟨#[]⟩,.bool false,.string ⟨#[]⟩,.bool false,.string ⟨#[]⟩,.bool false,.string ⟨#[]⟩,.bool false,.string ⟨#[]⟩,.bool false,.string ⟨#[]⟩,.bool false,.string ⟨#[]⟩,.bool false,.string ⟨#[]⟩,.bool false,.string ⟨#[]⟩,.bool false,.string ⟨#[]⟩,.bool false,.string ⟨#[]⟩,.bool false,.string ⟨#[]⟩,.bool false,.string ⟨#[]⟩,.bool false,.string ⟨#[]⟩,.bool false],.agg #[.bool false,.string ⟨#[]⟩,.bool false,.string ⟨#[]⟩,.bool false,.string ⟨#[]⟩,.bool false,.string ⟨#[]⟩,.bool false,.string ⟨#[]⟩,.bool false,.string ⟨#[]⟩,.bool false,.string ⟨#[]⟩,.bool false,.string ⟨#[]⟩,.bool false,.string ⟨#[]⟩,.bool false,.string ⟨#[]⟩,.bool false,.string ⟨#[]⟩,.bool false,.string ⟨#[]⟩,.bool false,.string ⟨#[]⟩,.bool false,.string ⟨#[]⟩,.bool false,.string ⟨#[]⟩,.bool false,.string ⟨#[]⟩,.bool false]],[]⟩ 12 (by kernel_rfl) (by kernel_rfl) (by kernel_rfl) (by kernel_rfl)) ?_
 intro W base args ds gs before hval0 hW hcnd _
 have hval:∀(j:Nat) t v,Tryz.f3.params[j]?=some t→args[j]?=some v→Value.okWide Tryz.prog W .any base t v:=hval0
 have hW':=hW
 obtain⟨p,q,hA0,hV,rfl,hfz,hnd⟩:=hW
 have hA:DataW.TrodAll enc Tryz.prog W 0 (fun _=>true) true Tryz.f3.params.toList args.toList ds p:=hA0
 rw[Tryz.params3] at hA hval
 obtain⟨v0,v1,d0,d1,p0,p1,rfl,rfl,rfl,h0,h1⟩:=trodAll_two hA
 obtain⟨rfl,rfl⟩:=trodVars_none hV
 have k0:=h0
 have k1:=h1
 obtain⟨ab0x,as0x,ab1x,as1x,ab2x,as2x,ab3x,as3x,bb0x,bs0x,bb1x,bs1x,bb2x,bs2x,bb3x,bs3x,cb0x,cs0x,cb1x,cs1x,cb2x,cs2x,cb3x,cs3x,db0x,ds0x,db1x,ds1x,db2x,ds2x,db3x,ds3x,tx,rfl⟩:=open_argM (hval 0 29 v0 rfl rfl) h0
 obtain⟨ab0y,as0y,ab1y,as1y,ab2y,as2y,ab3y,as3y,bb0y,bs0y,bb1y,bs1y,bb2y,bs2y,bb3y,bs3y,cb0y,cs0y,cb1y,cs1y,cb2y,cs2y,cb3y,cs3y,db0y,ds0y,db1y,ds1y,db2y,ds2y,db3y,ds3y,ty,rfl⟩:=open_argM (hval 1 29 v1 rfl rfl) h1
 clear hA0 hval0
 have hl:Tr.PureC Tryz.prog 3 [.agg #[.bool ab0x,.string as0x,.bool ab1x,.string as1x,.bool ab2x,.string as2x,.bool ab3x,.string as3x,.bool bb0x,.string bs0x,.bool bb1x,.string bs1x,.bool bb2x,.string bs2x,.bool bb3x,.string bs3x,.bool cb0x,.string cs0x,.bool cb1x,.string cs1x,.bool cb2x,.string cs2x,.bool cb3x,.string cs3x,.bool db0x,.string ds0x,.bool db1x,.string ds1x,.bool db2x,.string ds2x,.bool db3x,.string ds3x,.bool tx],.agg #[.bool ab0y,.string as0y,.bool ab1y,.string as1y,.bool ab2y,.string as2y,.bool ab3y,.string as3y,.bool bb0y,.string bs0y,.bool bb1y,.string bs1y,.bool bb2y,.string bs2y,.bool bb3y,.string bs3y,.bool cb0y,.string cs0y,.bool cb1y,.string cs1y,.bool cb2y,.string cs2y,.bool cb3y,.string cs3y,.bool db0y,.string ds0y,.bool db1y,.string ds1y,.bool db2y,.string ds2y,.bool db3y,.string ds3y,.bool ty]] (.bool true):=(law_true ⟨⟨ab0x,ab1x,ab2x,ab3x,as0x,as1x,as2x,as3x⟩,⟨bb0x,bb1x,bb2x,bb3x,bs0x,bs1x,bs2x,bs3x⟩,⟨cb0x,cb1x,cb2x,cb3x,cs0x,cs1x,cs2x,cs3x⟩,⟨db0x,db1x,db2x,db3x,ds0x,ds1x,ds2x,ds3x⟩,tx⟩ ⟨⟨ab0y,ab1y,ab2y,ab3y,as0y,as1y,as2y,as3y⟩,⟨bb0y,bb1y,bb2y,bb3y,bs0y,bs1y,bs2y,bs3y⟩,⟨cb0y,cb1y,cb2y,cb3y,cs0y,cs1y,cs2y,cs3y⟩,⟨db0y,db1y,db2y,db3y,ds0y,ds1y,ds2y,ds3y⟩,ty⟩).pure (by kernel_rfl) (by kernel_rfl)
 refine(hl W).mono ?_
 rintro e W' ⟨he,bel⟩
 subst he
 exact⟨_,rfl,_,_,_,[],_,[],hW',trodAll_mk1 (shut_bool Tryz.underlying4 _),(trodAll_mk2 (Below.trod Tryz.laidOut (by kernel_rfl) (of_decide_eq_true (by kernel_rfl)) k0 bel (by obtain⟨m,hm⟩:=k0; exact DataW.trod_lt m _ _ _ hm)) (Below.trod Tryz.laidOut (by kernel_rfl) (of_decide_eq_true (by kernel_rfl)) k1 bel (by obtain⟨m,hm⟩:=k1; exact DataW.trod_lt m _ _ _ hm))),rfl,bel.frame _,fun h=>by cases h⟩
theorem FixedElsewhere_holds:Rows.FixedElsewhereSaid :=
 OpenClaim.holds_of_wide 3 Tryz.f3 rfl rfl rfl rfl rfl rfl rfl ⟨rfl,rfl,rfl,rfl,rfl⟩ rfl rfl rfl rfl rfl (by kernel_rfl) Tryz.func3 (by kernel_rfl)
  (of_decide_eq_true (by kernel_rfl)) (by unfold Func.isWrapper; first|(rw[if_pos (by decide +kernel)]; kernel_rfl)|(rw[if_neg (by decide +kernel)]; exact⟨rfl,rfl⟩))
  (fun os started H enc _=>lifted os started H enc)
#print axioms FixedElsewhere_holds
end Go.Proofs.YtjlhiaafnpompaaGreat
