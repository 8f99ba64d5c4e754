/- NetsCubes, for every input: the last corner of a cube by the first face, by all three faces, and the last corner of a square are told as the document tells them, or refused as it refuses them. No condition. -/
import Derived.Test.YteljkhfbgliokaaGreatZzz
import Derived.Test.YteljkhfbgliokaaGreatZbk
import Derived.ProofKit
import Derived.OpenShut
import Derived.ShutString
import Derived.ChangeOld
import Derived.Below
import Derived.Lib.SmallJoins
set_option linter.unusedVariables false
namespace Go.Proofs.YteljkhfbgliokaaGreat
open Go.ChangeShapes Go.WideShapes Go.ChangeAt Go.RowKit Go.Deep Go.Joins
theorem Tryz.own : ownKnob Tryz.prog.godebug = none := by kernel_rfl
theorem Tryz.laidOut : laidOutB Tryz.prog = true := by kernel_rfl
section
variable {H : Type} {enc : TypeId × Value → H} {w : World} {base : Nat} {spare : Nat → Bool} {held : Bool}
theorem open_fields {t : TypeId} {fs : Array Field} {fuel : Nat} {cs : List Value} {x : DataW H × List MemPlace} (ht : (Tryz.prog).underlying t = some (.struct fs)) (h : DataW.trod enc Tryz.prog w base spare held fuel t cs = some x) :
  cs.length = (Tryz.prog).cellsOf t ∧ ∃ n,∀ (i : Nat) (f : Field),fs[i]? = some f → ∃ y,DataW.trod enc Tryz.prog w base spare held n f.type ((cs.drop f.offset).take ((Tryz.prog).cellsOf f.type)) = some y := by
 obtain ⟨xs,n,_,_,hl,hlen,hg⟩ := DataW.trod_struct ht h
 refine ⟨hl,n,fun i f hf => ?_⟩
 have hi : i < xs.length := by rw [hlen]; exact (Array.getElem?_eq_some_iff.1 hf).1
 exact ⟨xs[i],by rw [hg i f hf]; simp [hi]⟩
set_option maxRecDepth 100000 in
theorem open_whole {fuel : Nat} {cs : List Value} {x : DataW H × List MemPlace} (h : DataW.trod enc Tryz.prog w base spare held fuel 23 cs = some x) : ∃ b s,cs = [.bool b,.string s] := by
 obtain ⟨hl,n,hg⟩ := open_fields Tryz.underlying23 h
 have hl' : cs.length = 2 := hl.trans (by kernel_rfl)
 match cs,hl' with
 | [c0,c1],_ =>
  obtain ⟨y0,h0⟩ := hg 0 _ rfl
  have hc0 : (Tryz.prog).cellsOf 4 = 1 := by kernel_rfl
  have g0 : DataW.trod enc Tryz.prog w base spare held n 4 (([c0,c1].drop 0).take ((Tryz.prog).cellsOf 4)) = some y0 := h0
  rw [hc0] at g0
  have g0 : DataW.trod enc Tryz.prog w base spare held n 4 [c0] = some y0 := g0
  obtain ⟨b,k0,_⟩ := DataW.trod_bool Tryz.underlying4 g0
  obtain ⟨y1,h1⟩ := hg 1 _ rfl
  have hc1 : (Tryz.prog).cellsOf 9 = 1 := by kernel_rfl
  have g1 : DataW.trod enc Tryz.prog w base spare held n 9 (([c0,c1].drop 1).take ((Tryz.prog).cellsOf 9)) = some y1 := h1
  rw [hc1] at g1
  have g1 : DataW.trod enc Tryz.prog w base spare held n 9 [c1] = some y1 := g1
  obtain ⟨s,k1,_⟩ := DataW.trod_string Tryz.underlying9 g1
  simp only [List.cons.injEq,and_true] at k0
  obtain rfl := k0
  simp only [List.cons.injEq,and_true] at k1
  obtain rfl := k1
  exact ⟨b,s,rfl⟩
set_option maxRecDepth 100000 in
theorem open_frac {fuel : Nat} {cs : List Value} {x : DataW H × List MemPlace} (h : DataW.trod enc Tryz.prog w base spare held fuel 25 cs = some x) : ∃ b0 s0 b1 s1,cs = [.bool b0,.string s0,.bool b1,.string s1] := by
 obtain ⟨hl,n,hg⟩ := open_fields Tryz.underlying25 h
 have hl' : cs.length = 4 := hl.trans (by kernel_rfl)
 match cs,hl' with
 | [c0,c1,c2,c3],_ =>
  obtain ⟨y0,h0⟩ := hg 0 _ rfl
  have hc0 : (Tryz.prog).cellsOf 23 = 2 := by kernel_rfl
  have g0 : DataW.trod enc Tryz.prog w base spare held n 23 (([c0,c1,c2,c3].drop 0).take ((Tryz.prog).cellsOf 23)) = some y0 := h0
  rw [hc0] at g0
  have g0 : DataW.trod enc Tryz.prog w base spare held n 23 [c0,c1] = some y0 := g0
  obtain ⟨b0,s0,k0⟩ := open_whole g0
  obtain ⟨y1,h1⟩ := hg 1 _ rfl
  have hc1 : (Tryz.prog).cellsOf 23 = 2 := by kernel_rfl
  have g1 : DataW.trod enc Tryz.prog w base spare held n 23 (([c0,c1,c2,c3].drop 2).take ((Tryz.prog).cellsOf 23)) = some y1 := h1
  rw [hc1] at g1
  have g1 : DataW.trod enc Tryz.prog w base spare held n 23 [c2,c3] = some y1 := g1
  obtain ⟨b1,s1,k1⟩ := open_whole g1
  simp only [List.cons.injEq,and_true] at k0
  obtain ⟨rfl,rfl⟩ := k0
  simp only [List.cons.injEq,and_true] at k1
  obtain ⟨rfl,rfl⟩ := k1
  exact ⟨b0,s0,b1,s1,rfl⟩
set_option maxRecDepth 100000 in
theorem open_gauss {fuel : Nat} {cs : List Value} {x : DataW H × List MemPlace} (h : DataW.trod enc Tryz.prog w base spare held fuel 27 cs = some x) : ∃ b0 s0 b1 s1 b2 s2 b3 s3,cs = [.bool b0,.string s0,.bool b1,.string s1,.bool b2,.string s2,.bool b3,.string s3] := by
 obtain ⟨hl,n,hg⟩ := open_fields Tryz.underlying27 h
 have hl' : cs.length = 8 := hl.trans (by kernel_rfl)
 match cs,hl' with
 | [c0,c1,c2,c3,c4,c5,c6,c7],_ =>
  obtain ⟨y0,h0⟩ := hg 0 _ rfl
  have hc0 : (Tryz.prog).cellsOf 25 = 4 := by kernel_rfl
  have g0 : DataW.trod enc Tryz.prog w base spare held n 25 (([c0,c1,c2,c3,c4,c5,c6,c7].drop 0).take ((Tryz.prog).cellsOf 25)) = some y0 := h0
  rw [hc0] at g0
  have g0 : DataW.trod enc Tryz.prog w base spare held n 25 [c0,c1,c2,c3] = some y0 := g0
  obtain ⟨b0,s0,b1,s1,k0⟩ := open_frac g0
  obtain ⟨y1,h1⟩ := hg 1 _ rfl
  have hc1 : (Tryz.prog).cellsOf 25 = 4 := by kernel_rfl
  have g1 : DataW.trod enc Tryz.prog w base spare held n 25 (([c0,c1,c2,c3,c4,c5,c6,c7].drop 4).take ((Tryz.prog).cellsOf 25)) = some y1 := h1
  rw [hc1] at g1
  have g1 : DataW.trod enc Tryz.prog w base spare held n 25 [c4,c5,c6,c7] = some y1 := g1
  obtain ⟨b2,s2,b3,s3,k1⟩ := open_frac g1
  simp only [List.cons.injEq,and_true] at k0
  obtain ⟨rfl,rfl,rfl,rfl⟩ := k0
  simp only [List.cons.injEq,and_true] at k1
  obtain ⟨rfl,rfl,rfl,rfl⟩ := k1
  exact ⟨b0,s0,b1,s1,b2,s2,b3,s3,rfl⟩
set_option maxRecDepth 100000 in
theorem open_point {fuel : Nat} {cs : List Value} {x : DataW H × List MemPlace} (h : DataW.trod enc Tryz.prog w base spare held fuel 29 cs = some x) : ∃ i b0 s0 b1 s1 b2 s2 b3 s3,cs = [.bool i,.bool b0,.string s0,.bool b1,.string s1,.bool b2,.string s2,.bool b3,.string s3] := by
 obtain ⟨hl,n,hg⟩ := open_fields Tryz.underlying29 h
 have hl' : cs.length = 9 := hl.trans (by kernel_rfl)
 match cs,hl' with
 | [c0,c1,c2,c3,c4,c5,c6,c7,c8],_ =>
  obtain ⟨y0,h0⟩ := hg 0 _ rfl
  have hc0 : (Tryz.prog).cellsOf 4 = 1 := by kernel_rfl
  have g0 : DataW.trod enc Tryz.prog w base spare held n 4 (([c0,c1,c2,c3,c4,c5,c6,c7,c8].drop 0).take ((Tryz.prog).cellsOf 4)) = some y0 := h0
  rw [hc0] at g0
  have g0 : DataW.trod enc Tryz.prog w base spare held n 4 [c0] = some y0 := g0
  obtain ⟨i,k0,_⟩ := DataW.trod_bool Tryz.underlying4 g0
  obtain ⟨y1,h1⟩ := hg 1 _ rfl
  have hc1 : (Tryz.prog).cellsOf 27 = 8 := by kernel_rfl
  have g1 : DataW.trod enc Tryz.prog w base spare held n 27 (([c0,c1,c2,c3,c4,c5,c6,c7,c8].drop 1).take ((Tryz.prog).cellsOf 27)) = some y1 := h1
  rw [hc1] at g1
  have g1 : DataW.trod enc Tryz.prog w base spare held n 27 [c1,c2,c3,c4,c5,c6,c7,c8] = some y1 := g1
  obtain ⟨b0,s0,b1,s1,b2,s2,b3,s3,k1⟩ := open_gauss g1
  simp only [List.cons.injEq,and_true] at k0
  obtain rfl := k0
  simp only [List.cons.injEq,and_true] at k1
  obtain ⟨rfl,rfl,rfl,rfl,rfl,rfl,rfl,rfl⟩ := k1
  exact ⟨i,b0,s0,b1,s1,b2,s2,b3,s3,rfl⟩
set_option maxRecDepth 100000 in
theorem open_cube {fuel : Nat} {cs : List Value} {x : DataW H × List MemPlace} (h : DataW.trod enc Tryz.prog w base spare held fuel 31 cs = some x) : ∃ i0 n00 s00 n01 s01 n02 s02 n03 s03 i1 n10 s10 n11 s11 n12 s12 n13 s13 i2 n20 s20 n21 s21 n22 s22 n23 s23 i3 n30 s30 n31 s31 n32 s32 n33 s33 g00 t00 g01 t01 g02 t02 g03 t03 g10 t10 g11 t11 g12 t12 g13 t13 g20 t20 g21 t21 g22 t22 g23 t23,cs = [.bool i0,.bool n00,.string s00,.bool n01,.string s01,.bool n02,.string s02,.bool n03,.string s03,.bool i1,.bool n10,.string s10,.bool n11,.string s11,.bool n12,.string s12,.bool n13,.string s13,.bool i2,.bool n20,.string s20,.bool n21,.string s21,.bool n22,.string s22,.bool n23,.string s23,.bool i3,.bool n30,.string s30,.bool n31,.string s31,.bool n32,.string s32,.bool n33,.string s33,.bool g00,.string t00,.bool g01,.string t01,.bool g02,.string t02,.bool g03,.string t03,.bool g10,.string t10,.bool g11,.string t11,.bool g12,.string t12,.bool g13,.string t13,.bool g20,.string t20,.bool g21,.string t21,.bool g22,.string t22,.bool g23,.string t23] := by
 obtain ⟨hl,n,hg⟩ := open_fields Tryz.underlying31 h
 have hl' : cs.length = 60 := hl.trans (by kernel_rfl)
 obtain ⟨y0,h0⟩ := hg 0 _ rfl
 have hc0 : (Tryz.prog).cellsOf 29 = 9 := by kernel_rfl
 have g0 : DataW.trod enc Tryz.prog w base spare held n 29 ((cs.drop 0).take ((Tryz.prog).cellsOf 29)) = some y0 := h0
 rw [hc0] at g0
 obtain ⟨i0,n00,s00,n01,s01,n02,s02,n03,s03,k0⟩ := open_point g0
 obtain ⟨y1,h1⟩ := hg 1 _ rfl
 have hc1 : (Tryz.prog).cellsOf 29 = 9 := by kernel_rfl
 have g1 : DataW.trod enc Tryz.prog w base spare held n 29 ((cs.drop 9).take ((Tryz.prog).cellsOf 29)) = some y1 := h1
 rw [hc1] at g1
 obtain ⟨i1,n10,s10,n11,s11,n12,s12,n13,s13,k1⟩ := open_point g1
 obtain ⟨y2,h2⟩ := hg 2 _ rfl
 have hc2 : (Tryz.prog).cellsOf 29 = 9 := by kernel_rfl
 have g2 : DataW.trod enc Tryz.prog w base spare held n 29 ((cs.drop 18).take ((Tryz.prog).cellsOf 29)) = some y2 := h2
 rw [hc2] at g2
 obtain ⟨i2,n20,s20,n21,s21,n22,s22,n23,s23,k2⟩ := open_point g2
 obtain ⟨y3,h3⟩ := hg 3 _ rfl
 have hc3 : (Tryz.prog).cellsOf 29 = 9 := by kernel_rfl
 have g3 : DataW.trod enc Tryz.prog w base spare held n 29 ((cs.drop 27).take ((Tryz.prog).cellsOf 29)) = some y3 := h3
 rw [hc3] at g3
 obtain ⟨i3,n30,s30,n31,s31,n32,s32,n33,s33,k3⟩ := open_point g3
 obtain ⟨y4,h4⟩ := hg 4 _ rfl
 have hc4 : (Tryz.prog).cellsOf 27 = 8 := by kernel_rfl
 have g4 : DataW.trod enc Tryz.prog w base spare held n 27 ((cs.drop 36).take ((Tryz.prog).cellsOf 27)) = some y4 := h4
 rw [hc4] at g4
 obtain ⟨g00,t00,g01,t01,g02,t02,g03,t03,k4⟩ := open_gauss g4
 obtain ⟨y5,h5⟩ := hg 5 _ rfl
 have hc5 : (Tryz.prog).cellsOf 27 = 8 := by kernel_rfl
 have g5 : DataW.trod enc Tryz.prog w base spare held n 27 ((cs.drop 44).take ((Tryz.prog).cellsOf 27)) = some y5 := h5
 rw [hc5] at g5
 obtain ⟨g10,t10,g11,t11,g12,t12,g13,t13,k5⟩ := open_gauss g5
 obtain ⟨y6,h6⟩ := hg 6 _ rfl
 have hc6 : (Tryz.prog).cellsOf 27 = 8 := by kernel_rfl
 have g6 : DataW.trod enc Tryz.prog w base spare held n 27 ((cs.drop 52).take ((Tryz.prog).cellsOf 27)) = some y6 := h6
 rw [hc6] at g6
 obtain ⟨g20,t20,g21,t21,g22,t22,g23,t23,k6⟩ := open_gauss g6
 have t60 : cs.take 60 = cs.take 52 ++ (cs.drop 52).take 8 := List.take_add (i := 52) (j := 8)
 have t52 : cs.take 52 = cs.take 44 ++ (cs.drop 44).take 8 := List.take_add (i := 44) (j := 8)
 have t44 : cs.take 44 = cs.take 36 ++ (cs.drop 36).take 8 := List.take_add (i := 36) (j := 8)
 have t36 : cs.take 36 = cs.take 27 ++ (cs.drop 27).take 9 := List.take_add (i := 27) (j := 9)
 have t27 : cs.take 27 = cs.take 18 ++ (cs.drop 18).take 9 := List.take_add (i := 18) (j := 9)
 have t18 : cs.take 18 = cs.take 9 ++ (cs.drop 9).take 9 := List.take_add (i := 9) (j := 9)
 have t9 : cs.take 9 = (cs.drop 0).take 9 := by simp
 have e : cs = cs.take 60 := (List.take_of_length_le (by omega)).symm
 rw [t60,t52,t44,t36,t27,t18,t9,k0,k1,k2,k3,k4,k5,k6] at e
 exact ⟨i0,n00,s00,n01,s01,n02,s02,n03,s03,i1,n10,s10,n11,s11,n12,s12,n13,s13,i2,n20,s20,n21,s21,n22,s22,n23,s23,i3,n30,s30,n31,s31,n32,s32,n33,s33,g00,t00,g01,t01,g02,t02,g03,t03,g10,t10,g11,t11,g12,t12,g13,t13,g20,t20,g21,t21,g22,t22,g23,t23,e⟩
set_option maxRecDepth 100000 in
theorem open_arg {r : Reach} {b0 : Nat} {v : Value} {d : DataW H} {p : List MemPlace} (hv : Value.okWide Tryz.prog w r b0 31 v) (h : DataW.Trod enc Tryz.prog w base spare held 31 v d p) :
  ∃ i0 n00 s00 n01 s01 n02 s02 n03 s03 i1 n10 s10 n11 s11 n12 s12 n13 s13 i2 n20 s20 n21 s21 n22 s22 n23 s23 i3 n30 s30 n31 s31 n32 s32 n33 s33 g00 t00 g01 t01 g02 t02 g03 t03 g10 t10 g11 t11 g12 t12 g13 t13 g20 t20 g21 t21 g22 t22 g23 t23,v = .agg #[.bool i0,.bool n00,.string s00,.bool n01,.string s01,.bool n02,.string s02,.bool n03,.string s03,.bool i1,.bool n10,.string s10,.bool n11,.string s11,.bool n12,.string s12,.bool n13,.string s13,.bool i2,.bool n20,.string s20,.bool n21,.string s21,.bool n22,.string s22,.bool n23,.string s23,.bool i3,.bool n30,.string s30,.bool n31,.string s31,.bool n32,.string s32,.bool n33,.string s33,.bool g00,.string t00,.bool g01,.string t01,.bool g02,.string t02,.bool g03,.string t03,.bool g10,.string t10,.bool g11,.string t11,.bool g12,.string t12,.bool g13,.string t13,.bool g20,.string t20,.bool g21,.string t21,.bool g22,.string t22,.bool g23,.string t23] := by
 obtain ⟨cs,rfl,hsz⟩ := okWide_struct Tryz.underlying31 hv
 obtain ⟨fuel,hf⟩ := h
 obtain ⟨i0,n00,s00,n01,s01,n02,s02,n03,s03,i1,n10,s10,n11,s11,n12,s12,n13,s13,i2,n20,s20,n21,s21,n22,s22,n23,s23,i3,n30,s30,n31,s31,n32,s32,n33,s33,g00,t00,g01,t01,g02,t02,g03,t03,g10,t10,g11,t11,g12,t12,g13,t13,g20,t20,g21,t21,g22,t22,g23,t23,e⟩ := open_cube hf
 refine ⟨i0,n00,s00,n01,s01,n02,s02,n03,s03,i1,n10,s10,n11,s11,n12,s12,n13,s13,i2,n20,s20,n21,s21,n22,s22,n23,s23,i3,n30,s30,n31,s31,n32,s32,n33,s33,g00,t00,g01,t01,g02,t02,g03,t03,g10,t10,g11,t11,g12,t12,g13,t13,g20,t20,g21,t21,g22,t22,g23,t23,?_⟩
 obtain ⟨l⟩ := cs
 have e' : l = _ := e
 rw [e']
end
set_option maxRecDepth 100000 in
theorem lifted (os : Os) (started : os.Started) (H : Type) (enc : TypeId × Value → H) :
  ReturnsInHanded {} Tryz.checked os 3 .any (Rows.netsCubesSpec.pre6 enc Tryz.prog Tryz.f3 Rows.netsCubesRow.domain false) (Rows.netsCubesSpec.post enc Tryz.prog Tryz.f3 false true false false) := by
 refine returnsInHanded_of_change (C := Tryz.checked) Tryz.own started (by kernel_rfl) Tryz.func3
  (ChangeSpec.witness6 (enc := enc) (C := Tryz.checked) false ⟨#[],#[.agg #[.bool false,.bool false,.string ⟨#[]⟩,.bool false,.string ⟨#[]⟩,.bool false,.string ⟨#[]⟩,.bool false,.string ⟨#[]⟩,.bool false,.bool false,.string ⟨#[]⟩,.bool false,.string ⟨#[]⟩,.bool false,.string ⟨#[]⟩,.bool false,.string ⟨#[]⟩,.bool false,.bool false,.string ⟨#[]⟩,.bool false,.string ⟨#[]⟩,.bool false,.string ⟨#[]⟩,.bool false,.string ⟨#[]⟩,.bool false,.bool false,.string ⟨#[]⟩,.bool false,.string ⟨#[]⟩,.bool false,.string ⟨#[]⟩,.bool false,.string ⟨#[]⟩,.bool false,.string ⟨#[]⟩,.bool false,.string ⟨#[]⟩,.bool false,.string ⟨#[]⟩,.bool false,.string ⟨#[]⟩,.bool false,.string ⟨#[]⟩,.bool false,.string ⟨#[]⟩,.bool false,.string ⟨#[]⟩,.bool false,.string ⟨#[]⟩,.bool false,.string ⟨#[]⟩,.bool false,.string ⟨#[]⟩,.bool false,.string ⟨#[]⟩,.bool false,.string ⟨#[]⟩]],[]⟩ 12 (by kernel_rfl) (by kernel_rfl) (by kernel_rfl) (by kernel_rfl)) ?_
 intro W base args ds gs before hval0 hW hcnd _
 have hval : ∀ (j : Nat) t v,Tryz.f3.params[j]? = some t → args[j]? = some v → Value.okWide Tryz.prog W .any base t v := hval0
 have hW' := hW
 obtain ⟨p,q,hA0,hV,rfl,hfz,hnd⟩ := hW
 have hA : DataW.TrodAll enc Tryz.prog W 0 (fun _ => true) true Tryz.f3.params.toList args.toList ds p := hA0
 rw [Tryz.params3] at hA hval
 obtain ⟨v0,d0,rfl,rfl,h0⟩ := trodAll_one hA
 obtain ⟨rfl,rfl⟩ := trodVars_none hV
 have k0 := h0
 have lt0 : ∀ x ∈ p,x.block < W.heap.size := by obtain ⟨m,hm⟩ := k0; exact DataW.trod_lt m _ _ _ hm
 obtain ⟨i0,n00,s00,n01,s01,n02,s02,n03,s03,i1,n10,s10,n11,s11,n12,s12,n13,s13,i2,n20,s20,n21,s21,n22,s22,n23,s23,i3,n30,s30,n31,s31,n32,s32,n33,s33,g00,t00,g01,t01,g02,t02,g03,t03,g10,t10,g11,t11,g12,t12,g13,t13,g20,t20,g21,t21,g22,t22,g23,t23,rfl⟩ := open_arg (hval 0 31 v0 rfl rfl) h0
 clear hA0 hval0
 have hl : Tr.PureC Tryz.prog 3 [.agg #[.bool i0,.bool n00,.string s00,.bool n01,.string s01,.bool n02,.string s02,.bool n03,.string s03,.bool i1,.bool n10,.string s10,.bool n11,.string s11,.bool n12,.string s12,.bool n13,.string s13,.bool i2,.bool n20,.string s20,.bool n21,.string s21,.bool n22,.string s22,.bool n23,.string s23,.bool i3,.bool n30,.string s30,.bool n31,.string s31,.bool n32,.string s32,.bool n33,.string s33,.bool g00,.string t00,.bool g01,.string t01,.bool g02,.string t02,.bool g03,.string t03,.bool g10,.string t10,.bool g11,.string t11,.bool g12,.string t12,.bool g13,.string t13,.bool g20,.string t20,.bool g21,.string t21,.bool g22,.string t22,.bool g23,.string t23]] (.bool true) := (law_true ⟨i0,⟨n00,n01,n02,n03,s00,s01,s02,s03⟩⟩ ⟨i1,⟨n10,n11,n12,n13,s10,s11,s12,s13⟩⟩ ⟨i2,⟨n20,n21,n22,n23,s20,s21,s22,s23⟩⟩ ⟨i3,⟨n30,n31,n32,n33,s30,s31,s32,s33⟩⟩ ⟨g00,g01,g02,g03,t00,t01,t02,t03⟩ ⟨g10,g11,g12,g13,t10,t11,t12,t13⟩ ⟨g20,g21,g22,g23,t20,t21,t22,t23⟩).pure (by kernel_rfl) (by kernel_rfl)
 refine (hl W).mono ?_
 rintro e W' ⟨he,bel⟩
 subst he
 exact ⟨_,rfl,_,_,_,[],_,[],hW',trodAll_mk1 (shut_bool Tryz.underlying4 _),(trodAll_mk1 (Below.trod Tryz.laidOut (by kernel_rfl) (of_decide_eq_true (by kernel_rfl)) k0 bel lt0)),rfl,bel.frame _,fun h => by cases h⟩
theorem NetsCubes_holds : Rows.NetsCubesSaid :=
 OpenClaim.holds_of_wide 3 Tryz.f3 rfl rfl rfl rfl rfl rfl rfl ⟨rfl,rfl,rfl,rfl,rfl⟩ rfl rfl rfl rfl rfl (by kernel_rfl) Tryz.func3 (by kernel_rfl)
  (of_decide_eq_true (by kernel_rfl)) (by unfold Func.isWrapper; first | (rw [if_pos (by decide +kernel)]; kernel_rfl) | (rw [if_neg (by decide +kernel)]; exact ⟨rfl,rfl⟩))
  (fun os started H enc _ => lifted os started H enc)
#print axioms NetsCubes_holds
end Go.Proofs.YteljkhfbgliokaaGreat
