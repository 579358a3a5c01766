-- Written by this session's own program (wip/x/xprint.py, over the kit's printer); Lean checks it.
import Derived.Test.YtlgnanbnicmdaabQFnExactNormalClausex0
import Derived.Test.YtlgnanbnicmdaabQFnExactNormalClausex3
import Derived.Test.YtlgnanbnicmdaabQFnExactNormalClausex5
import Derived.Test.YtlgnanbnicmdaabQFnExactNormalClausex6
namespace Go.Proofs.Ytlgnanbnicmdaab.QFnExactNormalClause
open Go.RowKit Go.Proofs.YtlgnanbnicmdaabW.PrintWords Go.Proofs.YtlgnanbnicmdaabW.PrintLast Go.Proofs.YtlgnanbnicmdaabW.PrintMore
attribute [local go_sem] max2_int min2_int max_two min_two max_three min_three max_four min_four   -- for this text's walks alone
set_option linter.unusedVariables false
set_option linter.unusedSimpArgs false

/-! ### spec_l7Normal: function 48 -/
def spec_l7Normal.l0:Nat → List (S65) → List Int → Int → List Int → Option (List Int × Int)
 | 0,_,_,_,_=>none
 | k + 1,x2,x8,x9,x285000=>(spec_l7Step.f k x285000 x8 x2).bind fun bt288=>(if bt288.2.2.2 = true then (spec_l7Normal.l0 k x2 bt288.1 (wrap64 (x9 + 1)) x285000) else (some (x8,x9)))
def spec_l7Normal.f (k:Nat) (l0_0:List Int) (l1:List Int) (l2:List (S65)):Option (List Int × Int):=(spec_l1Own.f l1).bind fun t285=>(spec_l7Normal.l0 k l2 t285 0 l0_0)
theorem spec_l7Normal.mono_l:∀ k,(∀ y0 y1 y2 y3,LeO (spec_l7Normal.l0 k y0 y1 y2 y3) (spec_l7Normal.l0 (k + 1) y0 y1 y2 y3))
 | 0=>fun _ _ _ _ r h=>by simp [spec_l7Normal.l0] at h
 | k + 1=>by
  have ih0:=spec_l7Normal.mono_l k
  ·intro y0 y1 y2 y3
   unfold spec_l7Normal.l0
   have m0:=@spec_l7Step.mono
   exact mO
theorem spec_l7Normal.mono:∀ a0 a1 a2 k,LeO (spec_l7Normal.f k a0 a1 a2) (spec_l7Normal.f (k + 1) a0 a1 a2):=by
 intro a0 a1 a2 k
 have ih0:=spec_l7Normal.mono_l k
 unfold spec_l7Normal.f
 have m0:=@spec_l7Step.mono
 exact mO
set_option maxHeartbeats 8000000 in
set_option maxRecDepth 100000 in
theorem spec_l7Normal.calls (k:Nat) (A0_0:Option Addr) (c0_0:Nat) (l0_0:List Int) (A1:Option Addr) (c1:Nat) (l1:List Int) (A2:Option Addr) (c2:Nat) (l2:List (S65)) (r1:List Int) (r2:Int) (w:World) (hr0_0:Kd.C (Kd.int .i64) w A0_0 l0_0.length l0_0) (hc0_0:l0_0.length ≤ c0_0) (hr1:Kd.C (Kd.int .i64) w A1 l1.length l1) (hc1:l1.length ≤ c1) (hr2:Kd.C k65 w A2 l2.length l2) (hc2:l2.length ≤ c2) (h:spec_l7Normal.f k l0_0 l1 l2 = some (r1,r2)) :
  Calls Try.prog 48 #[.agg #[.slice A0_0 l0_0.length c0_0],.slice A1 l1.length c1,.slice A2 l2.length c2] w fun e w'=>∃ v0_:Value,e = .returned (.tuple #[v0_,.int .i64 r2]) ∧ Kd.R (Kd.int .i64) 3 w' w.heap.size (fun _=>True) v0_ r1 ∧ Below w.heap.size w w':=by
 have hu30:=Try.underlying30
 have HR0_0:=Aside0.mk hr0_0
 have HC0_0:=Aside0.mk hc0_0
 clear hr0_0 hc0_0
 have HR1:=Aside0.mk hr1
 have HC1:=Aside0.mk hc1
 clear hr1 hc1
 have HR2:=Aside0.mk hr2
 have HC2:=Aside0.mk hc2
 clear hr2 hc2
 have HB:=Aside0.mk (Below.refl w.heap.size w)
 have H:((spec_l1Own.f l1).bind fun t285=>(spec_l7Normal.l0 k l2 t285 0 l0_0)) = some (r1,r2):=h
 clear h
 replace H:=Option.bind_eq_some_iff.mp H
 obtain ⟨t285,A40,H⟩:=H
 replace H:(spec_l7Normal.l0 k l2 t285 0 l0_0) = some (r1,r2):=H
 have A4:=Aside0.mk A40
 clear A40
 have H':=Aside0.mk H
 clear H
 go_enter Try.func48,Try.ntmps48
 go_wp2_with (first|((with_reducible refine gate_dst (N:=3) rfl ?_);refine box_event ?hg (N:=3) ?hd (cs:=#[.slice A0_0 l0_0.length c0_0]) (t:=30) ?hr ?_;(case hd=>rfl);(case hg=>rfl);(case hr=>first|(go_simp;done)|(go_simp;rfl));intro gb284 hg w5 hbox hb;have BK284:=Aside0.mk (hbox);have GW284:=Aside0.mk ((hZ:w.heap.size ≤ gb284));have GE284:=Aside0.mk ((hZ:w.heap.size ≤ gb284));replace HB:=Aside0.mk (below_step bH hb);clear hb hbox hg)|((with_reducible refine gate_callee (f:=82) rfl ?_);refine goesL_ (some 15) rfl rfl Try.func82 (by kernel_rfl) rfl #[.slice A1 l1.length c1] rfl Ya ?_;(with_reducible refine (spec_l1Own.calls _ _ l1 t285 _ ?side1 ?side2 A4.out).mono ?_);(case side1=>exact sC HR1);(case side2=>exact HC1.out);rintro e w6 ⟨v286,rfl,ho0,hb⟩;refine ⟨_,rfl,?_⟩;have HO287:=Aside0.mk (Kd.R_lower ho0 (below_size bH));replace BK284:=Aside0.mk (blk_below (bB BK284) hb);replace HB:=Aside0.mk (below_step bH hb);(try clear hb);(try clear hb2);(try clear hk);(try clear hi);(try clear ho0)))
 go_loopg [8,9] k (fun kq v8 v9 w'=>∃ (x8_1:List Int) (x9_1:Int),v9 = .int .i64 x9_1 ∧ Aside0 (spec_l7Normal.l0 kq l2 x8_1 x9_1 l0_0 = some (r1,r2)) ∧ Aside0 (kq ≤ k) ∧ Aside0 (Kd.R (Kd.int .i64) 3 w' w.heap.size (fun _=>True) v8 x8_1) ∧ Aside0 (w'.heap[gb284]? = some (.cells #[(.slice A0_0 l0_0.length c0_0)] 30 (0,0))) ∧ Aside0 (Below w.heap.size w w'))
 case atStart=>exact ⟨(t285),(0),Yb,H',⟨Nat.le_refl _⟩,⟨rR HO287⟩,⟨by (with_reducible repeat (first|refine blk_drewN ?_ _|refine blk_drew ?_|refine blk_alloc ?_ _));exact BK284.out⟩,⟨bH⟩⟩
 case round =>
  clear H'
  try clear c1
  try clear c2
  try clear p2
  try clear c4
  obtain ⟨x8_1,x9_1,rfl,HA,HK1,HO_8,BK284,HB⟩:=hrel
  cases gk with
  | zero=>exact absurd HA.out (by simp [spec_l7Normal.l0])
  | succ k1 =>
   have H:=HA.out
   clear HA
   simp only [spec_l7Normal.l0] at H
   replace H:=Option.bind_eq_some_iff.mp H
   obtain ⟨⟨t288,t291,t292,t293⟩,A70,H⟩:=H
   replace H:(if t293 = true then (spec_l7Normal.l0 k1 l2 t288 (wrap64 (x9_1 + 1)) l0_0) else (some (x8_1,x9_1))) = some (r1,r2):=H
   have A7:=Aside0.mk A70
   clear A70
   by_cases c8:t293 = true
   ·subst c8
    have H1:(spec_l7Normal.l0 k1 l2 t288 (wrap64 (x9_1 + 1)) l0_0) = some (r1,r2):=by rw [if_pos rfl] at H;exact H
    clear H
    have H:=H1
    clear H1
    have H':=Aside0.mk H
    clear H
    have hcz9_0:wr.cell? ⟨gb284,0,none⟩ = some (.slice A0_0 l0_0.length c0_0):=(blk_cell BK284.out 0).trans rfl
    have hfz9_0:=blk_frozen BK284.out 0
    obtain ⟨Ao10,co10,eo10⟩:=Kd.R_slice HO_8.out
    subst eo10
    go_wp2_with (first|((with_reducible refine gate_callee (f:=42) rfl ?_);refine goesL_ (some 22) rfl rfl Try.func42 (by kernel_rfl) rfl #[.agg #[.slice A0_0 l0_0.length c0_0],.slice Ao10 x8_1.length co10,.slice A2 l2.length c2] rfl Ya ?_;(with_reducible refine (spec_l7Step.calls k1 _ _ l0_0 _ _ x8_1 _ _ l2 t288 t291 t292 true _ ?side1 ?side2 ?side3 ?side4 ?side5 ?side6 A7.out).mono ?_);(case side1=>exact sC HR0_0);(case side2=>exact HC0_0.out);(case side3=>repeat (first|exact (Kd.R_reads' HO_8.out).2.2|(with_reducible refine Kd.C_alloc ?_ _)|(with_reducible refine Kd.C_drewN ?_ _)|(with_reducible refine Kd.C_drew ?_)));(case side4=>exact (Kd.R_reads' HO_8.out).2.1);(case side5=>exact sC HR2);(case side6=>exact HC2.out);rintro e w11 ⟨v289,rfl,ho0,hb⟩;refine ⟨_,rfl,?_⟩;have HO290:=Aside0.mk (Kd.R_lower (Kd.R_new' ho0 (Kd.R_lt (rR HO_8))) (below_size bH));replace HO_8:=Aside0.mk (Kd.R_elder' (rR HO_8) (Kd.R_base ho0) hb);replace BK284:=Aside0.mk (blk_below (bB BK284) hb);replace HB:=Aside0.mk (below_step bH hb);(try clear hb);(try clear hb2);(try clear hk);(try clear hi);(try clear ho0)))
    go_roundg k1
    case measure=>have:=HK1.out;omega
    case rel=>exact ⟨(t288),(wrap64 (x9_1 + 1)),Yb,H',⟨by have:=HK1.out;omega⟩,⟨by (with_reducible repeat (first|apply Kd.R_alloc|apply Kd.R_drewN|apply Kd.R_drew));exact Kd.R_mono HO290.out (fun _ hk=>trivial)⟩,⟨by (with_reducible repeat (first|refine blk_drewN ?_ _|refine blk_drew ?_|refine blk_alloc ?_ _));exact BK284.out⟩,⟨bH⟩⟩
   ·replace c8:=Bool.eq_false_iff.mpr c8
    subst c8
    have H1:(some (x8_1,x9_1)) = some (r1,r2):=by rw [if_neg (show ¬ (false = true) by decide)] at H;exact H
    clear H
    have H:=H1
    clear H1
    simp only [Option.some.injEq,Prod.mk.injEq] at H
    obtain ⟨rfl,rfl⟩:=H
    have hcz12_0:wr.cell? ⟨gb284,0,none⟩ = some (.slice A0_0 l0_0.length c0_0):=(blk_cell BK284.out 0).trans rfl
    have hfz12_0:=blk_frozen BK284.out 0
    obtain ⟨Ao13,co13,eo13⟩:=Kd.R_slice HO_8.out
    subst eo13
    go_wp2_with (first|((with_reducible refine gate_callee (f:=42) rfl ?_);refine goesL_ (some 22) rfl rfl Try.func42 (by kernel_rfl) rfl #[.agg #[.slice A0_0 l0_0.length c0_0],.slice Ao13 x8_1.length co13,.slice A2 l2.length c2] rfl Ya ?_;(with_reducible refine (spec_l7Step.calls k1 _ _ l0_0 _ _ x8_1 _ _ l2 t288 t291 t292 false _ ?side1 ?side2 ?side3 ?side4 ?side5 ?side6 A7.out).mono ?_);(case side1=>exact sC HR0_0);(case side2=>exact HC0_0.out);(case side3=>repeat (first|exact (Kd.R_reads' HO_8.out).2.2|(with_reducible refine Kd.C_alloc ?_ _)|(with_reducible refine Kd.C_drewN ?_ _)|(with_reducible refine Kd.C_drew ?_)));(case side4=>exact (Kd.R_reads' HO_8.out).2.1);(case side5=>exact sC HR2);(case side6=>exact HC2.out);rintro e w14 ⟨v289,rfl,ho0,hb⟩;refine ⟨_,rfl,?_⟩;have HO290:=Aside0.mk (Kd.R_lower (Kd.R_new' ho0 (Kd.R_lt (rR HO_8))) (below_size bH));replace HO_8:=Aside0.mk (Kd.R_elder' (rR HO_8) (Kd.R_base ho0) hb);replace BK284:=Aside0.mk (blk_below (bB BK284) hb);replace HB:=Aside0.mk (below_step bH hb);(try clear hb);(try clear hb2);(try clear hk);(try clear hi);(try clear ho0)))
    go_ret2
    exact ⟨_,by first|rfl|(simp [errW_none,errW_some] <;> rfl)|(simp [*,errW_none,errW_some] <;> rfl),by (with_reducible repeat (first|apply Kd.R_alloc|apply Kd.R_drewN|apply Kd.R_drew));exact Kd.R_mono HO_8.out (fun _ hk=>trivial),bH⟩

/-! ### spec_l2Rename: function 135 -/
mutual
def spec_l2Rename.l0:Nat → List Int → List (List Int) → List (List Int) → Int → Int → Option ((List (List Int)))
 | 0,_,_,_,_,_=>none
 | k + 1,x3,x4,x12,x13,x14=>if x14 < x13 then (if 0 ≤ x14 then (if x14 < (x12.length:Int) then (spec_l2Rename.l1 k x3 x4 ([]:List Int) x12 x13 x14 (rd_L2 x12 x14) ((rd_L2 x12 x14).length:Int) 0) else (none)) else (none)) else (some x4)
def spec_l2Rename.l1:Nat → List Int → List (List Int) → List Int → List (List Int) → Int → Int → List Int → Int → Int → Option ((List (List Int)))
 | 0,_,_,_,_,_,_,_,_,_=>none
 | k + 1,x3,x4,x7,x12,x13,x14,x18,x19,x20=>if x20 < x19 then (if 0 ≤ x20 then (if x20 < (x18.length:Int) then (if (rd x18 x20) < 0 then ((spec_l1Has.f k x3 (rd x18 x20)).bind fun t299=>(spec_l2Rename.j2 k x3 x4 x7 (rd x18 x20) x12 x13 x14 x18 x19 x20 (!t299))) else (spec_l2Rename.j2 k x3 x4 x7 (rd x18 x20) x12 x13 x14 x18 x19 x20 false)) else (none)) else (none)) else (if x4.length < 5864062014805 then (spec_l2Rename.l0 k x3 (x4 ++ [x7]) x12 x13 (wrap64 (x14 + 1))) else (none))
def spec_l2Rename.j2:Nat → List Int → List (List Int) → List Int → Int → List (List Int) → Int → Int → List Int → Int → Int → Bool → Option ((List (List Int)))
 | 0,_,_,_,_,_,_,_,_,_,_,_=>none
 | k + 1,x3,x4,x7,x9,x12,x13,x14,x18,x19,x20,x31=>if x31 = true then (if x3.length < 17592186044416 then (spec_l2Rename.j3 k (x3 ++ [x9]) x4 x7 x9 x12 x13 x14 x18 x19 x20) else (none)) else (spec_l2Rename.j3 k x3 x4 x7 x9 x12 x13 x14 x18 x19 x20)
def spec_l2Rename.j3:Nat → List Int → List (List Int) → List Int → Int → List (List Int) → Int → Int → List Int → Int → Int → Option ((List (List Int)))
 | 0,_,_,_,_,_,_,_,_,_,_=>none
 | k + 1,x3,x4,x7,x9,x12,x13,x14,x18,x19,x20=>spec_l2Rename.l2 k x3 x4 x7 x9 x12 x13 x14 x18 x19 x20 x3 (x3.length:Int) 0
def spec_l2Rename.l2:Nat → List Int → List (List Int) → List Int → Int → List (List Int) → Int → Int → List Int → Int → Int → List Int → Int → Int → Option ((List (List Int)))
 | 0,_,_,_,_,_,_,_,_,_,_,_,_,_=>none
 | k + 1,x3,x4,x7,x9,x12,x13,x14,x18,x19,x20,x36,x37,x38=>if x38 < x37 then (if 0 ≤ x38 then (if x38 < (x36.length:Int) then (if (rd x36 x38) = x9 then (if x7.length < 17592186044416 then (spec_l2Rename.l1 k x3 x4 (x7 ++ [wrap64 ((-1) - x38)]) x12 x13 x14 x18 x19 (wrap64 (x20 + 1))) else (none)) else (spec_l2Rename.l2 k x3 x4 x7 x9 x12 x13 x14 x18 x19 x20 x36 x37 (wrap64 (x38 + 1)))) else (none)) else (none)) else (if x7.length < 17592186044416 then (spec_l2Rename.l1 k x3 x4 (x7 ++ [x9]) x12 x13 x14 x18 x19 (wrap64 (x20 + 1))) else (none))
end
def spec_l2Rename.f (k:Nat) (l0:List (List Int)):Option ((List (List Int))):=spec_l2Rename.l0 k ([]:List Int) ([]:List (List Int)) l0 (l0.length:Int) 0
theorem spec_l2Rename.mono_l:∀ k,(∀ y0 y1 y2 y3 y4,LeO (spec_l2Rename.l0 k y0 y1 y2 y3 y4) (spec_l2Rename.l0 (k + 1) y0 y1 y2 y3 y4)) ∧ (∀ y0 y1 y2 y3 y4 y5 y6 y7 y8,LeO (spec_l2Rename.l1 k y0 y1 y2 y3 y4 y5 y6 y7 y8) (spec_l2Rename.l1 (k + 1) y0 y1 y2 y3 y4 y5 y6 y7 y8)) ∧ (∀ y0 y1 y2 y3 y4 y5 y6 y7 y8 y9 y10,LeO (spec_l2Rename.j2 k y0 y1 y2 y3 y4 y5 y6 y7 y8 y9 y10) (spec_l2Rename.j2 (k + 1) y0 y1 y2 y3 y4 y5 y6 y7 y8 y9 y10)) ∧ (∀ y0 y1 y2 y3 y4 y5 y6 y7 y8 y9,LeO (spec_l2Rename.j3 k y0 y1 y2 y3 y4 y5 y6 y7 y8 y9) (spec_l2Rename.j3 (k + 1) y0 y1 y2 y3 y4 y5 y6 y7 y8 y9)) ∧ (∀ y0 y1 y2 y3 y4 y5 y6 y7 y8 y9 y10 y11 y12,LeO (spec_l2Rename.l2 k y0 y1 y2 y3 y4 y5 y6 y7 y8 y9 y10 y11 y12) (spec_l2Rename.l2 (k + 1) y0 y1 y2 y3 y4 y5 y6 y7 y8 y9 y10 y11 y12))
 | 0=>⟨fun _ _ _ _ _ r h=>by simp [spec_l2Rename.l0] at h,fun _ _ _ _ _ _ _ _ _ r h=>by simp [spec_l2Rename.l1] at h,fun _ _ _ _ _ _ _ _ _ _ _ r h=>by simp [spec_l2Rename.j2] at h,fun _ _ _ _ _ _ _ _ _ _ r h=>by simp [spec_l2Rename.j3] at h,fun _ _ _ _ _ _ _ _ _ _ _ _ _ r h=>by simp [spec_l2Rename.l2] at h⟩
 | k + 1=>by
  obtain ⟨ih0,ih1,ih2,ih3,ih4⟩:=spec_l2Rename.mono_l k
  refine ⟨?_,?_,?_,?_,?_⟩
  ·intro y0 y1 y2 y3 y4
   unfold spec_l2Rename.l0
   have m0:=@ih4
   have m1:=@spec_l1Has.mono
   exact mO
  ·intro y0 y1 y2 y3 y4 y5 y6 y7 y8
   unfold spec_l2Rename.l1
   have m0:=@ih4
   have m1:=@spec_l1Has.mono
   exact mO
  ·intro y0 y1 y2 y3 y4 y5 y6 y7 y8 y9 y10
   unfold spec_l2Rename.j2
   have m0:=@ih4
   have m1:=@spec_l1Has.mono
   exact mO
  ·intro y0 y1 y2 y3 y4 y5 y6 y7 y8 y9
   unfold spec_l2Rename.j3
   have m0:=@ih4
   have m1:=@spec_l1Has.mono
   exact mO
  ·intro y0 y1 y2 y3 y4 y5 y6 y7 y8 y9 y10 y11 y12
   unfold spec_l2Rename.l2
   have m0:=@ih4
   have m1:=@spec_l1Has.mono
   exact mO
theorem spec_l2Rename.mono:∀ a0 k,LeO (spec_l2Rename.f k a0) (spec_l2Rename.f (k + 1) a0):=by
 intro a0 k
 obtain ⟨ih0,ih1,ih2,ih3,ih4⟩:=spec_l2Rename.mono_l k
 unfold spec_l2Rename.f
 have m0:=@ih4
 have m1:=@spec_l1Has.mono
 exact mO
set_option maxHeartbeats 8000000 in
set_option maxRecDepth 100000 in
theorem spec_l2Rename.calls (k:Nat) (A0:Option Addr) (c0:Nat) (l0:List (List Int)) (r:List (List Int)) (w:World) (hr0:Kd.C (Kd.slice 3 (Kd.int .i64)) w A0 l0.length l0) (hc0:l0.length ≤ c0) (h:spec_l2Rename.f k l0 = some r) :
  Calls Try.prog 135 #[.slice A0 l0.length c0] w fun e w'=>∃ v0_:Value,e = .returned (v0_) ∧ Kd.S (Kd.slice 3 (Kd.int .i64)) 22 w' w.heap.size (fun _=>True) v0_ r ∧ Below w.heap.size w w':=by
 have HR0:=Aside0.mk hr0
 have HC0:=Aside0.mk hc0
 clear hr0 hc0
 have HB:=Aside0.mk (Below.refl w.heap.size w)
 have H:(spec_l2Rename.l0 k ([]:List Int) ([]:List (List Int)) l0 (l0.length:Int) 0) = some r:=h
 clear h
 have H':=Aside0.mk H
 clear H
 go_enter Try.func135,Try.ntmps135
 go_wp2
 go_loopg [3,4,14] k (fun kq v3 v4 v14 w'=>∃ (x3_1:List Int) (x4_1:List (List Int)) (x14_1:Int),v14 = .int .i64 x14_1 ∧ Aside0 (spec_l2Rename.l0 kq x3_1 x4_1 l0 (l0.length:Int) x14_1 = some r) ∧ Aside0 (kq ≤ k) ∧ Aside0 (Kd.R (Kd.int .i64) 3 w' w.heap.size (fun _=>True) v3 x3_1) ∧ Aside0 (Kd.S (Kd.slice 3 (Kd.int .i64)) 22 w' w.heap.size (fun k_=>some k_ ≠ (v3:Value).ownBlock) v4 x4_1) ∧ Aside0 (Below w.heap.size w w'))
 case atStart=>exact ⟨(([]:List Int)),(([]:List (List Int))),(0),Yb,H',⟨Nat.le_refl _⟩,⟨by first|exact Kd.R_nil _ _ _ _ _|exact Kd.N_nil _ _ _ _ _|exact Kd.V_nil _ _ _ _ _|exact Kd.Q_nil _ _ _ _ _|exact Kd.S_nil _ _ _ _ _⟩,⟨by first|exact Kd.S_nil _ _ _ _ _|exact Kd.N_nil _ _ _ _ _|exact Kd.V_nil _ _ _ _ _|exact Kd.Q_nil _ _ _ _ _|exact Kd.R_nil _ _ _ _ _⟩,⟨bH⟩⟩
 case round =>
  clear H'
  try clear c1
  obtain ⟨x3_1,x4_1,x14_1,rfl,HA,HK1,HO_3,HO_4,HB⟩:=hrel
  cases gk with
  | zero=>exact absurd HA.out (by simp [spec_l2Rename.l0])
  | succ k1 =>
   have H:=HA.out
   clear HA
   simp only [spec_l2Rename.l0] at H
   by_cases c2:x14_1 < (l0.length:Int)
   ·rw [if_pos c2] at H
    have c2b0:=decide_eq_true c2
    clear c2
    by_cases c3:0 ≤ x14_1
    ·rw [if_pos c3] at H
     have c3b0:=decide_eq_true c3
     clear c3
     by_cases c4:x14_1 < (l0.length:Int)
     ·rw [if_pos c4] at H
      have c4b0:=decide_eq_true c4
      clear c4
      have H':=Aside0.mk H
      clear H
      have p294:0 ≤ (x14_1:Int):=oD
      have q294:x14_1 < (l0.length:Int):=oD
      obtain ⟨ad294,A294_0,c294_0,e294,hx294_0,hl294_0,hi294_0⟩:=at_L2 HR0.out x14_1 p294 q294
      cases e294
      replace hx294_0:=(HB.out.cell (World.block_lt_of_cell? w _ hx294_0)).trans hx294_0
      have HR294_0:=Aside0.mk hi294_0
      have HC294_0:=Aside0.mk hl294_0
      clear hi294_0 hl294_0
      replace p294:=eq_true p294
      replace q294:=eq_true q294
      go_wp2
      go_loopg [3,7,20] k1 (fun kq v3 v7 v20 w'=>∃ (x3_2:List Int) (x7_2:List Int) (x20_2:Int),v20 = .int .i64 x20_2 ∧ Aside0 (spec_l2Rename.l1 kq x3_2 x4_1 x7_2 l0 (l0.length:Int) x14_1 (rd_L2 l0 x14_1) ((rd_L2 l0 x14_1).length:Int) x20_2 = some r) ∧ Aside0 (kq ≤ k1) ∧ Aside0 (Kd.R (Kd.int .i64) 3 w' w.heap.size (fun k_=>some k_ ≠ (v7:Value).ownBlock) v3 x3_2) ∧ Aside0 (Kd.S (Kd.slice 3 (Kd.int .i64)) 22 w' w.heap.size (fun k_=>some k_ ≠ (v3:Value).ownBlock ∧ some k_ ≠ (v7:Value).ownBlock) u4 x4_1) ∧ Aside0 (Kd.R (Kd.int .i64) 3 w' w.heap.size (fun k_=>some k_ ≠ (v3:Value).ownBlock) v7 x7_2) ∧ Aside0 (Below w.heap.size w w'))
      case atStart=>exact ⟨(x3_1),(([]:List Int)),(0),Yb,H',⟨Nat.le_refl _⟩,⟨by (with_reducible repeat (first|apply Kd.R_alloc|apply Kd.R_drewN|apply Kd.R_drew));exact Kd.R_mono HO_3.out (fun _ hk=>(by simp [Value.ownBlock]))⟩,⟨by (with_reducible repeat (first|apply Kd.S_alloc|apply Kd.S_drewN|apply Kd.S_drew));exact Kd.S_mono HO_4.out (fun _ hk=>⟨hk,(by simp [Value.ownBlock])⟩)⟩,⟨by first|exact Kd.R_nil _ _ _ _ _|exact Kd.N_nil _ _ _ _ _|exact Kd.V_nil _ _ _ _ _|exact Kd.Q_nil _ _ _ _ _|exact Kd.S_nil _ _ _ _ _⟩,⟨bH⟩⟩
      case round =>
       clear H'
       try clear c1
       try clear c2
       try clear c2b0
       try clear p2
       try clear q2
       try clear hx2
       try clear c3
       try clear c3b0
       try clear c4
       try clear c4b0
       try clear hx294_0
       try clear p294
       try clear q294
       obtain ⟨x3_2,x7_2,x20_2,rfl,HA,HK2,HO_3,HO_4,HO_7,HB⟩:=hrel
       cases gk with
       | zero=>exact absurd HA.out (by simp [spec_l2Rename.l1])
       | succ k2 =>
        have H:=HA.out
        clear HA
        simp only [spec_l2Rename.l1] at H
        by_cases c5:x20_2 < ((rd_L2 l0 x14_1).length:Int)
        ·rw [if_pos c5] at H
         have c5b0:=decide_eq_true c5
         clear c5
         by_cases c6:0 ≤ x20_2
         ·rw [if_pos c6] at H
          have c6b0:=decide_eq_true c6
          clear c6
          by_cases c7:x20_2 < ((rd_L2 l0 x14_1).length:Int)
          ·rw [if_pos c7] at H
           have c7b0:=decide_eq_true c7
           clear c7
           have HC8:=Aside0.mk H
           clear H
           have p298:0 ≤ (x20_2:Int):=oD
           have q298:x20_2 < ((rd_L2 l0 x14_1).length:Int):=oD
           obtain ⟨ad298,e298,hx298_0⟩:=Kd.at_int HR294_0.out x20_2 p298 q298
           cases e298
           replace hx298_0:=(HB.out.cell (World.block_lt_of_cell? w _ hx298_0)).trans hx298_0
           replace p298:=eq_true p298
           replace q298:=eq_true q298
           go_upto_region 10 with (fail)
           go_cut [31] (fun v31 wc=>∃ (kq:Nat) (x31_7:Bool),v31 = .bool x31_7 ∧ Aside0 (spec_l2Rename.j2 kq x3_2 x4_1 x7_2 (rd (rd_L2 l0 x14_1) x20_2) l0 (l0.length:Int) x14_1 (rd_L2 l0 x14_1) ((rd_L2 l0 x14_1).length:Int) x20_2 x31_7 = some r) ∧ Aside0 (kq ≤ k2) ∧ Aside0 (Kd.R (Kd.int .i64) 3 wc w.heap.size (fun k_=>some k_ ≠ (u7:Value).ownBlock) u3 x3_2) ∧ Aside0 (Kd.S (Kd.slice 3 (Kd.int .i64)) 22 wc w.heap.size (fun k_=>some k_ ≠ (u3:Value).ownBlock ∧ some k_ ≠ (u7:Value).ownBlock) u4 x4_1) ∧ Aside0 (Kd.R (Kd.int .i64) 3 wc w.heap.size (fun k_=>some k_ ≠ (u3:Value).ownBlock) u7 x7_2) ∧ Aside0 (Below w.heap.size w wc))
           case first =>
            have H:=HC8.out
            clear HC8
            by_cases c9:(rd (rd_L2 l0 x14_1) x20_2) < 0
            ·rw [if_pos c9] at H
             have c9b0:=decide_eq_true c9
             clear c9
             (first|rw [c9b0]|(simp only [i64_w,i32_w];rw [c9b0])|skip)
             replace H:=Option.bind_eq_some_iff.mp H
             obtain ⟨t299,A100,H⟩:=H
             replace H:(spec_l2Rename.j2 k2 x3_2 x4_1 x7_2 (rd (rd_L2 l0 x14_1) x20_2) l0 (l0.length:Int) x14_1 (rd_L2 l0 x14_1) ((rd_L2 l0 x14_1).length:Int) x20_2 (!t299)) = some r:=H
             have A10:=Aside0.mk A100
             clear A100
             have H':=Aside0.mk H
             clear H
             obtain ⟨Ao11,co11,eo11⟩:=Kd.R_slice HO_3.out
             subst eo11
             go_wp2_with (first|(go_at_call 106;(with_reducible refine (spec_l1Has.calls k2 _ _ x3_2 (rd (rd_L2 l0 x14_1) x20_2) t299 _ ?side1 ?side2 A10.out).mono ?_);(case side1=>repeat (first|exact (Kd.R_reads' HO_3.out).2.2|(with_reducible refine Kd.C_alloc ?_ _)|(with_reducible refine Kd.C_drewN ?_ _)|(with_reducible refine Kd.C_drew ?_)));(case side2=>exact (Kd.R_reads' HO_3.out).2.1);rintro e w' ⟨rfl,⟨nd,rfl⟩⟩))
             go_meet
             case rel=>exact ⟨_,(!t299),Yb,H',⟨by have:=HK1.out;have:=HK2.out;first|omega|exact Nat.le_refl _⟩,⟨rR HO_3⟩,⟨rS HO_4⟩,⟨rR HO_7⟩,⟨bH⟩⟩
            ·rw [if_neg c9] at H
             have c9b0:decide ((rd (rd_L2 l0 x14_1) x20_2) < 0) = false:=decide_eq_false c9
             clear c9
             (first|rw [c9b0]|(simp only [i64_w,i32_w];rw [c9b0])|skip)
             have H':=Aside0.mk H
             clear H
             go_wp2
             go_meet
             case rel=>exact ⟨_,(false),Yb,H',⟨by have:=HK1.out;have:=HK2.out;first|omega|exact Nat.le_refl _⟩,⟨rR HO_3⟩,⟨rS HO_4⟩,⟨rR HO_7⟩,⟨bH⟩⟩
           case rest =>
            clear HC8
            try clear c1
            try clear c2
            try clear c2b0
            try clear p2
            try clear q2
            try clear hx2
            try clear c3
            try clear c3b0
            try clear c4
            try clear c4b0
            try clear c5
            try clear c5b0
            try clear c6
            try clear c6b0
            try clear c7
            try clear c7b0
            try clear c9
            try clear c9b0
            try clear hx294_0
            try clear hx298_0
            try clear p2
            try clear p294
            try clear p298
            try clear q2
            try clear q294
            try clear q298
            obtain ⟨kq,x31_7,rfl,HA,HJ7,HO_3,HO_4,HO_7,HB⟩:=hcut
            cases kq with
            | zero=>exact absurd HA.out (by simp [spec_l2Rename.j2])
            | succ kj7 =>
             have H:=HA.out
             clear HA
             simp only [spec_l2Rename.j2] at H
             have HC12:=Aside0.mk H
             clear H
             go_upto_if 31 with (fail)
             go_cut [3] (fun v3 wc=>∃ (kq:Nat) (x3_11:List Int),Aside0 (spec_l2Rename.j3 kq x3_11 x4_1 x7_2 (rd (rd_L2 l0 x14_1) x20_2) l0 (l0.length:Int) x14_1 (rd_L2 l0 x14_1) ((rd_L2 l0 x14_1).length:Int) x20_2 = some r) ∧ Aside0 (kq ≤ kj7) ∧ Aside0 (Kd.R (Kd.int .i64) 3 wc w.heap.size (fun k_=>some k_ ≠ (u7:Value).ownBlock) v3 x3_11) ∧ Aside0 (Kd.S (Kd.slice 3 (Kd.int .i64)) 22 wc w.heap.size (fun k_=>some k_ ≠ (v3:Value).ownBlock ∧ some k_ ≠ (u7:Value).ownBlock) u4 x4_1) ∧ Aside0 (Kd.R (Kd.int .i64) 3 wc w.heap.size (fun k_=>some k_ ≠ (v3:Value).ownBlock) u7 x7_2) ∧ Aside0 (Below w.heap.size w wc))
             case first =>
              have H:=HC12.out
              clear HC12
              by_cases c13:x31_7 = true
              ·subst c13
               have H1:(if x3_2.length < 17592186044416 then (spec_l2Rename.j3 kj7 (x3_2 ++ [(rd (rd_L2 l0 x14_1) x20_2)]) x4_1 x7_2 (rd (rd_L2 l0 x14_1) x20_2) l0 (l0.length:Int) x14_1 (rd_L2 l0 x14_1) ((rd_L2 l0 x14_1).length:Int) x20_2) else (none)) = some r:=by rw [if_pos rfl] at H;exact H
               clear H
               have H:=H1
               clear H1
               by_cases c14:x3_2.length < 17592186044416
               ·rw [if_pos c14] at H
                have LMc14:=Aside0.mk c14
                clear c14
                obtain ⟨y300,hy300⟩:∃ y_:List Int,y_ = (x3_2 ++ [(rd (rd_L2 l0 x14_1) x20_2)]):=⟨_,rfl⟩
                replace H:(spec_l2Rename.j3 kj7 y300 x4_1 x7_2 (rd (rd_L2 l0 x14_1) x20_2) l0 (l0.length:Int) x14_1 (rd_L2 l0 x14_1) ((rd_L2 l0 x14_1).length:Int) x20_2) = some r:=by first|(rw [hy300];with_reducible exact H)|(have H2_:=(Option.bind_some _ _).symm.trans H;rw [hy300];with_reducible exact H2_)|(have H2_:=(Option.bind_some _ _).symm.trans H;with_reducible exact H2_)|with_reducible exact H|(rw [hy300];exact H)|exact H
                have Ny300:=Aside0.mk hy300
                clear hy300
                have H':=Aside0.mk H
                clear H
                go_wp2_with (first|((with_reducible refine gate_builtin (b:=.append) (xs:=#[.tmp 32,.tmp 34]) rfl ?_);at_builtin;refine Kd.R_append (Kd.int .i64) (w0:=w) w.heap.size rfl (.tmp 32) (.tmp 34) 22 3 (.int .i64 0) 8 rfl Try.underlying22 info3 rfl (by decide) (by first|decide|omega) u3 x3_2 (rd (rd_L2 l0 x14_1) x20_2) [.int .i64 (rd (rd_L2 l0 x14_1) x20_2)] (fun k_=>some k_ ≠ (u7:Value).ownBlock) (fun _=>False) rfl rfl ?aP (fun _ hk=>hk.elim) ?aF ?aO ?aB ?aS ?aL ?_;(case aP=>exact rfl);(case aB=>exact bH);(case aF=>exact (fun k_ hk=>Kd.fresh' (Kd.R_lt (rR HO_7)) k_ hk));(case aO=>exact (rR HO_3));(case aS=>exact (below_size bH));(case aL=>have:=LMc14.out;omega);intro v301 w15 ho hb hg hat;rw [← Ny300.out] at ho;have n0_:=Aside0.mk (Kd.S_after (ok:=(fun k_=>some k_ ≠ (u7:Value).ownBlock)) (by (with_reducible repeat (first|apply Kd.S_alloc|apply Kd.S_drewN|apply Kd.S_drew));exact Kd.S_mono HO_4.out (fun _ hk=>⟨hk.2,hk.1⟩)) hg hat);have n1_:=Aside0.mk (Kd.R_after (ok:=(fun _=>True)) (by (with_reducible repeat (first|apply Kd.R_alloc|apply Kd.R_drewN|apply Kd.R_drew));exact Kd.R_mono HO_7.out (fun _ hk=>⟨trivial,hk⟩)) hg hat);have n2_:=Aside0.mk (hb);have n3_:=Aside0.mk (ho);clear HO_4;clear HO_7;clear HB;clear HO_3;have HO_4:=n0_;have HO_7:=n1_;have HB:=n2_;have HO302:=n3_;clear n0_ n1_ n2_ n3_;clear ho hb hg hat))
                go_meet
                case rel=>exact ⟨_,(y300),H',⟨by have:=HK1.out;have:=HK2.out;have:=HJ7.out;first|omega|exact Nat.le_refl _⟩,⟨rR HO302⟩,⟨by (with_reducible repeat (first|apply Kd.S_alloc|apply Kd.S_drewN|apply Kd.S_drew));exact Kd.S_mono HO_4.out (fun _ hk=>⟨hk.2,hk.1⟩)⟩,⟨by (with_reducible repeat (first|apply Kd.R_alloc|apply Kd.R_drewN|apply Kd.R_drew));exact Kd.R_mono HO_7.out (fun _ hk=>hk.2)⟩,⟨bH⟩⟩
               ·rw [if_neg c14] at H
                exact absurd H (by simp)
              ·replace c13:=Bool.eq_false_iff.mpr c13
               subst c13
               have H1:(spec_l2Rename.j3 kj7 x3_2 x4_1 x7_2 (rd (rd_L2 l0 x14_1) x20_2) l0 (l0.length:Int) x14_1 (rd_L2 l0 x14_1) ((rd_L2 l0 x14_1).length:Int) x20_2) = some r:=by rw [if_neg (show ¬ (false = true) by decide)] at H;exact H
               clear H
               have H:=H1
               clear H1
               have H':=Aside0.mk H
               clear H
               go_wp2
               go_meet
               case rel=>exact ⟨_,(x3_2),H',⟨by have:=HK1.out;have:=HK2.out;have:=HJ7.out;first|omega|exact Nat.le_refl _⟩,⟨rR HO_3⟩,⟨rS HO_4⟩,⟨rR HO_7⟩,⟨bH⟩⟩
             case rest =>
              clear HC12
              try clear c1
              try clear c2
              try clear c2b0
              try clear p2
              try clear q2
              try clear hx2
              try clear c3
              try clear c3b0
              try clear c4
              try clear c4b0
              try clear c5
              try clear c5b0
              try clear c6
              try clear c6b0
              try clear c7
              try clear c7b0
              try clear c9
              try clear c9b0
              try clear c13
              try clear c14
              try clear hx294_0
              try clear hx298_0
              try clear p2
              try clear p294
              try clear p298
              try clear q2
              try clear q294
              try clear q298
              obtain ⟨kq,x3_11,HA,HJ11,HO_3,HO_4,HO_7,HB⟩:=hcut
              cases kq with
              | zero=>exact absurd HA.out (by simp [spec_l2Rename.j3])
              | succ kj11 =>
               have H:=HA.out
               clear HA
               simp only [spec_l2Rename.j3] at H
               have H':=Aside0.mk H
               clear H
               obtain ⟨Ao16,co16,eo16⟩:=Kd.R_slice HO_3.out
               subst eo16
               go_wp2
               go_loopg [9,38] kj11 (fun kq v9 v38 w'=>∃ (x9_5:Int) (x38_5:Int),v9 = .int .i64 x9_5 ∧ v38 = .int .i64 x38_5 ∧ Aside0 (spec_l2Rename.l2 kq x3_11 x4_1 x7_2 x9_5 l0 (l0.length:Int) x14_1 (rd_L2 l0 x14_1) ((rd_L2 l0 x14_1).length:Int) x20_2 x3_11 (x3_11.length:Int) x38_5 = some r) ∧ Aside0 (kq ≤ kj11) ∧ Aside0 (Kd.R (Kd.int .i64) 3 w' w.heap.size (fun k_=>some k_ ≠ (u7:Value).ownBlock) (.slice Ao16 x3_11.length co16) x3_11) ∧ Aside0 (Kd.S (Kd.slice 3 (Kd.int .i64)) 22 w' w.heap.size (fun k_=>some k_ ≠ ((.slice Ao16 x3_11.length co16):Value).ownBlock ∧ some k_ ≠ (u7:Value).ownBlock ∧ some k_ ≠ ((.slice Ao16 x3_11.length co16):Value).ownBlock) u4 x4_1) ∧ Aside0 (Kd.R (Kd.int .i64) 3 w' w.heap.size (fun k_=>some k_ ≠ ((.slice Ao16 x3_11.length co16):Value).ownBlock ∧ some k_ ≠ ((.slice Ao16 x3_11.length co16):Value).ownBlock) u7 x7_2) ∧ Aside0 (Kd.R (Kd.int .i64) 3 w' w.heap.size (fun k_=>some k_ ≠ (u7:Value).ownBlock) (.slice Ao16 x3_11.length co16) x3_11) ∧ Aside0 (Below w.heap.size w w'))
               case atStart=>exact ⟨((rd (rd_L2 l0 x14_1) x20_2)),(0),Yb,Yb,H',⟨Nat.le_refl _⟩,⟨rR HO_3⟩,⟨by (with_reducible repeat (first|apply Kd.S_alloc|apply Kd.S_drewN|apply Kd.S_drew));exact Kd.S_mono HO_4.out (fun _ hk=>⟨hk.1,⟨hk.2,hk.1⟩⟩)⟩,⟨by (with_reducible repeat (first|apply Kd.R_alloc|apply Kd.R_drewN|apply Kd.R_drew));exact Kd.R_mono HO_7.out (fun _ hk=>⟨hk,hk⟩)⟩,⟨rR HO_3⟩,⟨bH⟩⟩
               case round =>
                clear H'
                try clear c1
                try clear c2
                try clear c2b0
                try clear p2
                try clear q2
                try clear hx2
                try clear c3
                try clear c3b0
                try clear c4
                try clear c4b0
                try clear c5
                try clear c5b0
                try clear c6
                try clear c6b0
                try clear c7
                try clear c7b0
                try clear c9
                try clear c9b0
                try clear c13
                try clear c14
                try clear hx294_0
                try clear hx298_0
                try clear p2
                try clear p294
                try clear p298
                try clear q2
                try clear q294
                try clear q298
                obtain ⟨x9_5,x38_5,rfl,rfl,HA,HK5,HO_3,HO_4,HO_7,HO_36,HB⟩:=hrel
                cases gk with
                | zero=>exact absurd HA.out (by simp [spec_l2Rename.l2])
                | succ k5 =>
                 have H:=HA.out
                 clear HA
                 simp only [spec_l2Rename.l2] at H
                 by_cases c17:x38_5 < (x3_11.length:Int)
                 ·rw [if_pos c17] at H
                  have c17b0:=decide_eq_true c17
                  clear c17
                  by_cases c18:0 ≤ x38_5
                  ·rw [if_pos c18] at H
                   have c18b0:=decide_eq_true c18
                   clear c18
                   by_cases c19:x38_5 < (x3_11.length:Int)
                   ·rw [if_pos c19] at H
                    have c19b0:=decide_eq_true c19
                    clear c19
                    by_cases c20:(rd x3_11 x38_5) = x9_5
                    ·rw [if_pos c20] at H
                     have c20b0:((rd x3_11 x38_5) == x9_5) = true:=beq_iff_eq.mpr c20
                     have c20b1:((rd x3_11 x38_5) != x9_5) = false:=bne_eq_false_iff_eq.mpr c20
                     clear c20
                     by_cases c21:x7_2.length < 17592186044416
                     ·rw [if_pos c21] at H
                      have LMc21:=Aside0.mk c21
                      clear c21
                      obtain ⟨y304,hy304⟩:∃ y_:List Int,y_ = (x7_2 ++ [wrap64 ((-1) - x38_5)]):=⟨_,rfl⟩
                      replace H:(spec_l2Rename.l1 k5 x3_11 x4_1 y304 l0 (l0.length:Int) x14_1 (rd_L2 l0 x14_1) ((rd_L2 l0 x14_1).length:Int) (wrap64 (x20_2 + 1))) = some r:=by first|(rw [hy304];with_reducible exact H)|(have H2_:=(Option.bind_some _ _).symm.trans H;rw [hy304];with_reducible exact H2_)|(have H2_:=(Option.bind_some _ _).symm.trans H;with_reducible exact H2_)|with_reducible exact H|(rw [hy304];exact H)|exact H
                      have Ny304:=Aside0.mk hy304
                      clear hy304
                      have H':=Aside0.mk H
                      clear H
                      have p303:0 ≤ (x38_5:Int):=oD
                      have q303:x38_5 < (x3_11.length:Int):=oD
                      obtain ⟨ad303,e303,hx303_0⟩:=Kd.at_int (Kd.R_reads' HO_36.out).2.2 x38_5 p303 q303
                      cases e303
                      replace p303:=eq_true p303
                      replace q303:=eq_true q303
                      go_wp2_with (first|((with_reducible refine gate_builtin (b:=.append) (xs:=#[.tmp 49,.tmp 51]) rfl ?_);at_builtin;refine Kd.R_append (Kd.int .i64) (w0:=w) w.heap.size rfl (.tmp 49) (.tmp 51) 22 3 (.int .i64 0) 8 rfl Try.underlying22 info3 rfl (by decide) (by first|decide|omega) u7 x7_2 (wrap64 ((-1) - x38_5)) [.int .i64 (wrap64 ((-1) - x38_5))] (fun k_=>some k_ ≠ (.slice (some ad303) x3_11.length co16:Value).ownBlock ∧ some k_ ≠ (.slice (some ad303) x3_11.length co16:Value).ownBlock) (fun _=>False) rfl rfl ?aP (fun _ hk=>hk.elim) ?aF ?aO ?aB ?aS ?aL ?_;(case aP=>exact rfl);(case aB=>exact bH);(case aF=>exact (fun k_ hk=>⟨Kd.fresh' (Kd.R_lt (rR HO_3)) k_ hk,Kd.fresh' (Kd.R_lt (rR HO_36)) k_ hk⟩));(case aO=>exact (rR HO_7));(case aS=>exact (below_size bH));(case aL=>have:=LMc21.out;omega);intro v305 w22 ho hb hg hat;rw [← Ny304.out] at ho;have n0_:=Aside0.mk (Kd.R_after (ok:=(fun _=>True)) (by (with_reducible repeat (first|apply Kd.R_alloc|apply Kd.R_drewN|apply Kd.R_drew));exact Kd.R_mono HO_3.out (fun _ hk=>⟨trivial,hk⟩)) hg hat);have n1_:=Aside0.mk (Kd.S_after (ok:=(fun k_=>some k_ ≠ (.slice (some ad303) x3_11.length co16:Value).ownBlock ∧ some k_ ≠ (.slice (some ad303) x3_11.length co16:Value).ownBlock)) (by (with_reducible repeat (first|apply Kd.S_alloc|apply Kd.S_drewN|apply Kd.S_drew));exact Kd.S_mono HO_4.out (fun _ hk=>⟨⟨hk.1,hk.2.2⟩,hk.2.1⟩)) hg hat);have n2_:=Aside0.mk (Kd.R_after (ok:=(fun _=>True)) (by (with_reducible repeat (first|apply Kd.R_alloc|apply Kd.R_drewN|apply Kd.R_drew));exact Kd.R_mono HO_36.out (fun _ hk=>⟨trivial,hk⟩)) hg hat);have n3_:=Aside0.mk (hb);have n4_:=Aside0.mk (ho);clear HO_3;clear HO_4;clear HO_36;clear HB;clear HO_7;have HO_3:=n0_;have HO_4:=n1_;have HO_36:=n2_;have HB:=n3_;have HO306:=n4_;clear n0_ n1_ n2_ n3_ n4_;clear ho hb hg hat))
                      go_roundg k5
                      case measure=>have:=HK1.out;have:=HK2.out;have:=HJ7.out;have:=HJ11.out;have:=HK5.out;omega
                      case rel=>exact ⟨(x3_11),(y304),(wrap64 (x20_2 + 1)),Yb,H',⟨by have:=HK1.out;have:=HK2.out;have:=HJ7.out;have:=HJ11.out;have:=HK5.out;omega⟩,⟨by (with_reducible repeat (first|apply Kd.R_alloc|apply Kd.R_drewN|apply Kd.R_drew));exact Kd.R_mono HO_3.out (fun _ hk=>hk.2)⟩,⟨by (with_reducible repeat (first|apply Kd.S_alloc|apply Kd.S_drewN|apply Kd.S_drew));exact Kd.S_mono HO_4.out (fun _ hk=>⟨hk.1.1,hk.2⟩)⟩,⟨by (with_reducible repeat (first|apply Kd.R_alloc|apply Kd.R_drewN|apply Kd.R_drew));exact Kd.R_mono HO306.out (fun _ hk=>hk.1)⟩,⟨bH⟩⟩
                     ·rw [if_neg c21] at H
                      exact absurd H (by simp)
                    ·rw [if_neg c20] at H
                     have c20b0:((rd x3_11 x38_5) == x9_5) = false:=beq_eq_false_iff_ne.mpr c20
                     have c20b1:((rd x3_11 x38_5) != x9_5) = true:=bne_iff_ne.mpr c20
                     have H':=Aside0.mk H
                     clear H
                     have p303:0 ≤ (x38_5:Int):=oD
                     have q303:x38_5 < (x3_11.length:Int):=oD
                     obtain ⟨ad303,e303,hx303_0⟩:=Kd.at_int (Kd.R_reads' HO_36.out).2.2 x38_5 p303 q303
                     cases e303
                     replace p303:=eq_true p303
                     replace q303:=eq_true q303
                     go_wp2
                     go_roundg k5
                     case measure=>have:=HK1.out;have:=HK2.out;have:=HJ7.out;have:=HJ11.out;have:=HK5.out;omega
                     case rel=>exact ⟨(x9_5),(wrap64 (x38_5 + 1)),Yb,Yb,H',⟨by have:=HK1.out;have:=HK2.out;have:=HJ7.out;have:=HJ11.out;have:=HK5.out;omega⟩,⟨rR HO_3⟩,⟨rS HO_4⟩,⟨rR HO_7⟩,⟨rR HO_36⟩,⟨bH⟩⟩
                   ·rw [if_neg c19] at H
                    exact absurd H (by simp)
                  ·rw [if_neg c18] at H
                   exact absurd H (by simp)
                 ·rw [if_neg c17] at H
                  have c17b0:decide (x38_5 < (x3_11.length:Int)) = false:=decide_eq_false c17
                  clear c17
                  by_cases c23:x7_2.length < 17592186044416
                  ·rw [if_pos c23] at H
                   have LMc23:=Aside0.mk c23
                   clear c23
                   obtain ⟨y307,hy307⟩:∃ y_:List Int,y_ = (x7_2 ++ [x9_5]):=⟨_,rfl⟩
                   replace H:(spec_l2Rename.l1 k5 x3_11 x4_1 y307 l0 (l0.length:Int) x14_1 (rd_L2 l0 x14_1) ((rd_L2 l0 x14_1).length:Int) (wrap64 (x20_2 + 1))) = some r:=by first|(rw [hy307];with_reducible exact H)|(have H2_:=(Option.bind_some _ _).symm.trans H;rw [hy307];with_reducible exact H2_)|(have H2_:=(Option.bind_some _ _).symm.trans H;with_reducible exact H2_)|with_reducible exact H|(rw [hy307];exact H)|exact H
                   have Ny307:=Aside0.mk hy307
                   clear hy307
                   have H':=Aside0.mk H
                   clear H
                   go_wp2_with (first|((with_reducible refine gate_builtin (b:=.append) (xs:=#[.tmp 49,.tmp 51]) rfl ?_);at_builtin;refine Kd.R_append (Kd.int .i64) (w0:=w) w.heap.size rfl (.tmp 49) (.tmp 51) 22 3 (.int .i64 0) 8 rfl Try.underlying22 info3 rfl (by decide) (by first|decide|omega) u7 x7_2 x9_5 [.int .i64 x9_5] (fun k_=>some k_ ≠ (.slice Ao16 x3_11.length co16:Value).ownBlock ∧ some k_ ≠ (.slice Ao16 x3_11.length co16:Value).ownBlock) (fun _=>False) rfl rfl ?aP (fun _ hk=>hk.elim) ?aF ?aO ?aB ?aS ?aL ?_;(case aP=>exact rfl);(case aB=>exact bH);(case aF=>exact (fun k_ hk=>⟨Kd.fresh' (Kd.R_lt (rR HO_3)) k_ hk,Kd.fresh' (Kd.R_lt (rR HO_36)) k_ hk⟩));(case aO=>exact (rR HO_7));(case aS=>exact (below_size bH));(case aL=>have:=LMc23.out;omega);intro v308 w24 ho hb hg hat;rw [← Ny307.out] at ho;have n0_:=Aside0.mk (Kd.R_after (ok:=(fun _=>True)) (by (with_reducible repeat (first|apply Kd.R_alloc|apply Kd.R_drewN|apply Kd.R_drew));exact Kd.R_mono HO_3.out (fun _ hk=>⟨trivial,hk⟩)) hg hat);have n1_:=Aside0.mk (Kd.S_after (ok:=(fun k_=>some k_ ≠ (.slice Ao16 x3_11.length co16:Value).ownBlock ∧ some k_ ≠ (.slice Ao16 x3_11.length co16:Value).ownBlock)) (by (with_reducible repeat (first|apply Kd.S_alloc|apply Kd.S_drewN|apply Kd.S_drew));exact Kd.S_mono HO_4.out (fun _ hk=>⟨⟨hk.1,hk.2.2⟩,hk.2.1⟩)) hg hat);have n2_:=Aside0.mk (Kd.R_after (ok:=(fun _=>True)) (by (with_reducible repeat (first|apply Kd.R_alloc|apply Kd.R_drewN|apply Kd.R_drew));exact Kd.R_mono HO_36.out (fun _ hk=>⟨trivial,hk⟩)) hg hat);have n3_:=Aside0.mk (hb);have n4_:=Aside0.mk (ho);clear HO_3;clear HO_4;clear HO_36;clear HB;clear HO_7;have HO_3:=n0_;have HO_4:=n1_;have HO_36:=n2_;have HB:=n3_;have HO309:=n4_;clear n0_ n1_ n2_ n3_ n4_;clear ho hb hg hat))
                   go_roundg k5
                   case measure=>have:=HK1.out;have:=HK2.out;have:=HJ7.out;have:=HJ11.out;have:=HK5.out;omega
                   case rel=>exact ⟨(x3_11),(y307),(wrap64 (x20_2 + 1)),Yb,H',⟨by have:=HK1.out;have:=HK2.out;have:=HJ7.out;have:=HJ11.out;have:=HK5.out;omega⟩,⟨by (with_reducible repeat (first|apply Kd.R_alloc|apply Kd.R_drewN|apply Kd.R_drew));exact Kd.R_mono HO_3.out (fun _ hk=>hk.2)⟩,⟨by (with_reducible repeat (first|apply Kd.S_alloc|apply Kd.S_drewN|apply Kd.S_drew));exact Kd.S_mono HO_4.out (fun _ hk=>⟨hk.1.1,hk.2⟩)⟩,⟨by (with_reducible repeat (first|apply Kd.R_alloc|apply Kd.R_drewN|apply Kd.R_drew));exact Kd.R_mono HO309.out (fun _ hk=>hk.1)⟩,⟨bH⟩⟩
                  ·rw [if_neg c23] at H
                   exact absurd H (by simp)
          ·rw [if_neg c7] at H
           exact absurd H (by simp)
         ·rw [if_neg c6] at H
          exact absurd H (by simp)
        ·rw [if_neg c5] at H
         have c5b0:decide (x20_2 < ((rd_L2 l0 x14_1).length:Int)) = false:=decide_eq_false c5
         clear c5
         by_cases c25:x4_1.length < 5864062014805
         ·rw [if_pos c25] at H
          have LMc25:=Aside0.mk c25
          clear c25
          obtain ⟨y295,hy295⟩:∃ y_:List (List Int),y_ = (x4_1 ++ [x7_2]):=⟨_,rfl⟩
          replace H:(spec_l2Rename.l0 k2 x3_2 y295 l0 (l0.length:Int) (wrap64 (x14_1 + 1))) = some r:=by first|(rw [hy295];with_reducible exact H)|(have H2_:=(Option.bind_some _ _).symm.trans H;rw [hy295];with_reducible exact H2_)|(have H2_:=(Option.bind_some _ _).symm.trans H;with_reducible exact H2_)|with_reducible exact H|(rw [hy295];exact H)|exact H
          have Ny295:=Aside0.mk hy295
          clear hy295
          have H':=Aside0.mk H
          clear H
          obtain ⟨Ao27,co27,eo27⟩:=Kd.R_slice HO_7.out
          subst eo27
          go_wp2_with (first|((with_reducible refine gate_builtin (b:=.append) (xs:=#[.tmp 54,.tmp 56]) rfl ?_);at_builtin;refine Kd.S_append (Kd.slice 3 (Kd.int .i64)) (w0:=w) w.heap.size rfl (.tmp 54) (.tmp 56) 105 22 (.slice none 0 0) 24 rfl Try.underlying105 info22 rfl (by decide) (by first|decide|omega) u4 x4_1 x7_2 [.slice Ao27 x7_2.length co27] (fun k_=>some k_ ≠ (u3:Value).ownBlock) (fun k_=>some k_ = (.slice Ao27 x7_2.length co27:Value).ownBlock) rfl rfl ?aP (fun k_ hk_=>((Kd.R_mono (ok':=fun k_=>((fun k_=>some k_ ≠ (u3:Value).ownBlock)) k_ ∧ some k_ ≠ (u4:Value).ownBlock) (Kd.R_apart' (HO_7.out) (Kd.S_typed HO_4.out) (by decide)) (fun k_ hk=>⟨hk.1,hk.2⟩))).1 k_ hk_.symm) ?aF ?aO ?aB ?aS ?aL ?_;(case aP=>exact Kd.M_row (Kd.R_mono (Kd.R_tight rfl (Kd.R_mono (ok':=fun k_=>((fun k_=>some k_ ≠ (u3:Value).ownBlock)) k_ ∧ some k_ ≠ (u4:Value).ownBlock) (Kd.R_apart' (HO_7.out) (Kd.S_typed HO_4.out) (by decide)) (fun k_ hk=>⟨hk.1,hk.2⟩))) (fun _ h_=>h_)));(case aB=>exact bH);(case aF=>exact (fun k_ hk=>Kd.fresh' (Kd.R_lt (rR HO_3)) k_ hk));(case aO=>exact (by (with_reducible repeat (first|apply Kd.S_alloc|apply Kd.S_drewN|apply Kd.S_drew));exact Kd.S_mono HO_4.out (fun k_ hk=>⟨hk.1,fun e_=>hk.2 e_⟩)));(case aS=>exact (below_size bH));(case aL=>have:=LMc25.out;omega);intro v296 w26 ho hb hg hat;rw [← Ny295.out] at ho;have n0_:=Aside0.mk (Kd.R_over' (rR HO_3) (Kd.S_typed (rS HO_4)) (by decide) hg);have n1_:=Aside0.mk (hb);have n2_:=Aside0.mk (ho);clear HO_3;clear HB;clear HO_4;clear HO_7;have HO_3:=n0_;have HB:=n1_;have HO297:=n2_;clear n0_ n1_ n2_;clear ho hb hg hat))
          go_roundg k2
          case measure=>have:=HK1.out;have:=HK2.out;omega
          case rel=>exact ⟨(x3_2),(y295),(wrap64 (x14_1 + 1)),Yb,H',⟨by have:=HK1.out;have:=HK2.out;omega⟩,⟨by (with_reducible repeat (first|apply Kd.R_alloc|apply Kd.R_drewN|apply Kd.R_drew));exact Kd.R_mono HO_3.out (fun _ hk=>trivial)⟩,⟨rS HO297⟩,⟨bH⟩⟩
         ·rw [if_neg c25] at H
          exact absurd H (by simp)
     ·rw [if_neg c4] at H
      exact absurd H (by simp)
    ·rw [if_neg c3] at H
     exact absurd H (by simp)
   ·rw [if_neg c2] at H
    have c2b0:decide (x14_1 < (l0.length:Int)) = false:=decide_eq_false c2
    clear c2
    obtain rfl:=Option.some.inj H
    go_wp2
    go_ret
    exact ⟨_,by first|rfl|(simp [errW_none,errW_some] <;> rfl)|(simp [*,errW_none,errW_some] <;> rfl),by (with_reducible repeat (first|apply Kd.S_alloc|apply Kd.S_drewN|apply Kd.S_drew));exact Kd.S_mono HO_4.out (fun _ hk=>trivial),bH⟩

end Go.Proofs.Ytlgnanbnicmdaab.QFnExactNormalClause
