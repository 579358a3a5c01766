-- Written by this session's own program (wip/x/xprint.py, over the kit's printer); Lean checks it.
import Derived.Test.YtlgnanbnicmdaabQFnExactNormalClausex0
import Derived.Test.YtlgnanbnicmdaabQFnExactNormalClausex10
import Derived.Test.YtlgnanbnicmdaabQFnExactNormalClausex11
import Derived.Test.YtlgnanbnicmdaabQFnExactNormalClausex14
namespace Go.Proofs.Ytlgnanbnicmdaab.QFnExactNormalClause
open Go.RowKit Go.Proofs.YtlgnanbnicmdaabW.PrintWords Go.Proofs.YtlgnanbnicmdaabW.PrintLast Go.Proofs.YtlgnanbnicmdaabW.PrintMore
attribute [local go_sem] max2_int min2_int max_two min_two max_three min_three max_four min_four   -- for this text's walks alone
set_option linter.unusedVariables false
set_option linter.unusedSimpArgs false

/-! ### impl_Sign_normal: function 49 -/
def impl_Sign_normal.l0:Nat → List Int → List (S65) → Int → List Int → Option (List Int × Int)
 | 0,_,_,_,_=>none
 | k + 1,x1,x2,x8,x439000=>(impl_Sign_step.f k x439000 x1 x2).bind fun bt442=>(if bt442.2.2.2 = true then (impl_Sign_normal.l0 k bt442.1 x2 (wrap64 (x8 + 1)) x439000) else (some (x1,x8)))
def impl_Sign_normal.f (k:Nat) (l0_0:List Int) (l1:List Int) (l2:List (S65)):Option (List Int × Int):=(slices_Clone_int_int_83.f l1).bind fun t439=>(impl_Sign_normal.l0 k t439 l2 0 l0_0)
theorem impl_Sign_normal.mono_l:∀ k,(∀ y0 y1 y2 y3,LeO (impl_Sign_normal.l0 k y0 y1 y2 y3) (impl_Sign_normal.l0 (k + 1) y0 y1 y2 y3))
 | 0=>fun _ _ _ _ r h=>by simp [impl_Sign_normal.l0] at h
 | k + 1=>by
  have ih0:=impl_Sign_normal.mono_l k
  ·intro y0 y1 y2 y3
   unfold impl_Sign_normal.l0
   have m0:=@impl_Sign_step.mono
   exact mO
theorem impl_Sign_normal.mono:∀ a0 a1 a2 k,LeO (impl_Sign_normal.f k a0 a1 a2) (impl_Sign_normal.f (k + 1) a0 a1 a2):=by
 intro a0 a1 a2 k
 have ih0:=impl_Sign_normal.mono_l k
 unfold impl_Sign_normal.f
 have m0:=@impl_Sign_step.mono
 exact mO
set_option maxHeartbeats 8000000 in
set_option maxRecDepth 100000 in
theorem impl_Sign_normal.calls (k:Nat) (A0_0:Option Addr) (c0_0:Nat) (l0_0:List Int) (A1:Option Addr) (c1:Nat) (l1:List Int) (A2:Option Addr) (c2:Nat) (l2:List (S65)) (r1:List Int) (r2:Int) (w:World) (hr0_0:Kd.C (Kd.int .i64) w A0_0 l0_0.length l0_0) (hc0_0:l0_0.length ≤ c0_0) (hr1:Kd.C (Kd.int .i64) w A1 l1.length l1) (hc1:l1.length ≤ c1) (hr2:Kd.C k65 w A2 l2.length l2) (hc2:l2.length ≤ c2) (h:impl_Sign_normal.f k l0_0 l1 l2 = some (r1,r2)) :
  Calls Try.prog 49 #[.agg #[.slice A0_0 l0_0.length c0_0],.slice A1 l1.length c1,.slice A2 l2.length c2] w fun e w'=>∃ v0_:Value,e = .returned (.tuple #[v0_,.int .i64 r2]) ∧ Kd.R (Kd.int .i64) 3 w' w.heap.size (fun _=>True) v0_ r1 ∧ Below w.heap.size w w':=by
 have hu30:=Try.underlying30
 have HR0_0:=Aside0.mk hr0_0
 have HC0_0:=Aside0.mk hc0_0
 clear hr0_0 hc0_0
 have HR1:=Aside0.mk hr1
 have HC1:=Aside0.mk hc1
 clear hr1 hc1
 have HR2:=Aside0.mk hr2
 have HC2:=Aside0.mk hc2
 clear hr2 hc2
 have HB:=Aside0.mk (Below.refl w.heap.size w)
 have H:((slices_Clone_int_int_83.f l1).bind fun t439=>(impl_Sign_normal.l0 k t439 l2 0 l0_0)) = some (r1,r2):=h
 clear h
 replace H:=Option.bind_eq_some_iff.mp H
 obtain ⟨t439,A40,H⟩:=H
 replace H:(impl_Sign_normal.l0 k t439 l2 0 l0_0) = some (r1,r2):=H
 have A4:=Aside0.mk A40
 clear A40
 have H':=Aside0.mk H
 clear H
 go_enter Try.func49,Try.ntmps49
 go_wp2_with (first|((with_reducible refine gate_dst (N:=3) rfl ?_);refine box_event ?hg (N:=3) ?hd (cs:=#[.slice A0_0 l0_0.length c0_0]) (t:=30) ?hr ?_;(case hd=>rfl);(case hg=>rfl);(case hr=>first|(go_simp;done)|(go_simp;rfl));intro gb438 hg w5 hbox hb;have BK438:=Aside0.mk (hbox);have GW438:=Aside0.mk ((hZ:w.heap.size ≤ gb438));have GE438:=Aside0.mk ((hZ:w.heap.size ≤ gb438));replace HB:=Aside0.mk (below_step bH hb);clear hb hbox hg)|((with_reducible refine gate_callee (f:=83) rfl ?_);refine goesL_ (some 14) rfl rfl Try.func83 (by kernel_rfl) rfl #[.slice A1 l1.length c1] rfl Ya ?_;(with_reducible refine (slices_Clone_int_int_83.calls _ _ l1 t439 _ ?side1 ?side2 A4.out).mono ?_);(case side1=>exact sC HR1);(case side2=>exact HC1.out);rintro e w6 ⟨v440,rfl,ho0,hb⟩;refine ⟨_,rfl,?_⟩;have HO441:=Aside0.mk (Kd.R_lower ho0 (below_size bH));replace BK438:=Aside0.mk (blk_below (bB BK438) hb);replace HB:=Aside0.mk (below_step bH hb);(try clear hb);(try clear hb2);(try clear hk);(try clear hi);(try clear ho0)))
 go_loopg [1,8] k (fun kq v1 v8 w'=>∃ (x1_1:List Int) (x8_1:Int),v8 = .int .i64 x8_1 ∧ Aside0 (impl_Sign_normal.l0 kq x1_1 l2 x8_1 l0_0 = some (r1,r2)) ∧ Aside0 (kq ≤ k) ∧ Aside0 (Kd.R (Kd.int .i64) 3 w' w.heap.size (fun _=>True) v1 x1_1) ∧ Aside0 (w'.heap[gb438]? = some (.cells #[(.slice A0_0 l0_0.length c0_0)] 30 (0,0))) ∧ Aside0 (Below w.heap.size w w'))
 case atStart=>exact ⟨(t439),(0),Yb,H',⟨Nat.le_refl _⟩,⟨rR HO441⟩,⟨by (with_reducible repeat (first|refine blk_drewN ?_ _|refine blk_drew ?_|refine blk_alloc ?_ _));exact BK438.out⟩,⟨bH⟩⟩
 case round =>
  clear H'
  try clear c1
  try clear c2
  try clear p2
  try clear c4
  obtain ⟨x1_1,x8_1,rfl,HA,HK1,HO_1,BK438,HB⟩:=hrel
  cases gk with
  | zero=>exact absurd HA.out (by simp [impl_Sign_normal.l0])
  | succ k1 =>
   have H:=HA.out
   clear HA
   simp only [impl_Sign_normal.l0] at H
   replace H:=Option.bind_eq_some_iff.mp H
   obtain ⟨⟨t442,t445,t446,t447⟩,A70,H⟩:=H
   replace H:(if t447 = true then (impl_Sign_normal.l0 k1 t442 l2 (wrap64 (x8_1 + 1)) l0_0) else (some (x1_1,x8_1))) = some (r1,r2):=H
   have A7:=Aside0.mk A70
   clear A70
   by_cases c8:t447 = true
   ·subst c8
    have H1:(impl_Sign_normal.l0 k1 t442 l2 (wrap64 (x8_1 + 1)) l0_0) = some (r1,r2):=by rw [if_pos rfl] at H;exact H
    clear H
    have H:=H1
    clear H1
    have H':=Aside0.mk H
    clear H
    have hcz9_0:wr.cell? ⟨gb438,0,none⟩ = some (.slice A0_0 l0_0.length c0_0):=(blk_cell BK438.out 0).trans rfl
    have hfz9_0:=blk_frozen BK438.out 0
    obtain ⟨Ao10,co10,eo10⟩:=Kd.R_slice HO_1.out
    subst eo10
    go_wp2_with (first|((with_reducible refine gate_callee (f:=46) rfl ?_);refine goesL_ (some 21) rfl rfl Try.func46 (by kernel_rfl) rfl #[.agg #[.slice A0_0 l0_0.length c0_0],.slice Ao10 x1_1.length co10,.slice A2 l2.length c2] rfl Ya ?_;(with_reducible refine (impl_Sign_step.calls k1 _ _ l0_0 _ _ x1_1 _ _ l2 t442 t445 t446 true _ ?side1 ?side2 ?side3 ?side4 ?side5 ?side6 A7.out).mono ?_);(case side1=>exact sC HR0_0);(case side2=>exact HC0_0.out);(case side3=>repeat (first|exact (Kd.R_reads' HO_1.out).2.2|(with_reducible refine Kd.C_alloc ?_ _)|(with_reducible refine Kd.C_drewN ?_ _)|(with_reducible refine Kd.C_drew ?_)));(case side4=>exact (Kd.R_reads' HO_1.out).2.1);(case side5=>exact sC HR2);(case side6=>exact HC2.out);rintro e w11 ⟨v443,rfl,ho0,hb⟩;refine ⟨_,rfl,?_⟩;have HO444:=Aside0.mk (Kd.R_lower (Kd.R_new' ho0 (Kd.R_lt (rR HO_1))) (below_size bH));replace HO_1:=Aside0.mk (Kd.R_elder' (rR HO_1) (Kd.R_base ho0) hb);replace BK438:=Aside0.mk (blk_below (bB BK438) hb);replace HB:=Aside0.mk (below_step bH hb);(try clear hb);(try clear hb2);(try clear hk);(try clear hi);(try clear ho0)))
    go_roundg k1
    case measure=>have:=HK1.out;omega
    case rel=>exact ⟨(t442),(wrap64 (x8_1 + 1)),Yb,H',⟨by have:=HK1.out;omega⟩,⟨by (with_reducible repeat (first|apply Kd.R_alloc|apply Kd.R_drewN|apply Kd.R_drew));exact Kd.R_mono HO444.out (fun _ hk=>trivial)⟩,⟨by (with_reducible repeat (first|refine blk_drewN ?_ _|refine blk_drew ?_|refine blk_alloc ?_ _));exact BK438.out⟩,⟨bH⟩⟩
   ·replace c8:=Bool.eq_false_iff.mpr c8
    subst c8
    have H1:(some (x1_1,x8_1)) = some (r1,r2):=by rw [if_neg (show ¬ (false = true) by decide)] at H;exact H
    clear H
    have H:=H1
    clear H1
    simp only [Option.some.injEq,Prod.mk.injEq] at H
    obtain ⟨rfl,rfl⟩:=H
    have hcz12_0:wr.cell? ⟨gb438,0,none⟩ = some (.slice A0_0 l0_0.length c0_0):=(blk_cell BK438.out 0).trans rfl
    have hfz12_0:=blk_frozen BK438.out 0
    obtain ⟨Ao13,co13,eo13⟩:=Kd.R_slice HO_1.out
    subst eo13
    go_wp2_with (first|((with_reducible refine gate_callee (f:=46) rfl ?_);refine goesL_ (some 21) rfl rfl Try.func46 (by kernel_rfl) rfl #[.agg #[.slice A0_0 l0_0.length c0_0],.slice Ao13 x1_1.length co13,.slice A2 l2.length c2] rfl Ya ?_;(with_reducible refine (impl_Sign_step.calls k1 _ _ l0_0 _ _ x1_1 _ _ l2 t442 t445 t446 false _ ?side1 ?side2 ?side3 ?side4 ?side5 ?side6 A7.out).mono ?_);(case side1=>exact sC HR0_0);(case side2=>exact HC0_0.out);(case side3=>repeat (first|exact (Kd.R_reads' HO_1.out).2.2|(with_reducible refine Kd.C_alloc ?_ _)|(with_reducible refine Kd.C_drewN ?_ _)|(with_reducible refine Kd.C_drew ?_)));(case side4=>exact (Kd.R_reads' HO_1.out).2.1);(case side5=>exact sC HR2);(case side6=>exact HC2.out);rintro e w14 ⟨v443,rfl,ho0,hb⟩;refine ⟨_,rfl,?_⟩;have HO444:=Aside0.mk (Kd.R_lower (Kd.R_new' ho0 (Kd.R_lt (rR HO_1))) (below_size bH));replace HO_1:=Aside0.mk (Kd.R_elder' (rR HO_1) (Kd.R_base ho0) hb);replace BK438:=Aside0.mk (blk_below (bB BK438) hb);replace HB:=Aside0.mk (below_step bH hb);(try clear hb);(try clear hb2);(try clear hk);(try clear hi);(try clear ho0)))
    go_ret2
    exact ⟨_,by first|rfl|(simp [errW_none,errW_some] <;> rfl)|(simp [*,errW_none,errW_some] <;> rfl),by (with_reducible repeat (first|apply Kd.R_alloc|apply Kd.R_drewN|apply Kd.R_drew));exact Kd.R_mono HO_1.out (fun _ hk=>trivial),bH⟩

/-! ### impl_withTerms: function 87 -/
def impl_withTerms.l0:Nat → List (List Int) → List (S65) → List (S65) → Int → Int → Option ((List (S65)))
 | 0,_,_,_,_,_=>none
 | k + 1,x1,x5,x8,x9,x10=>if x10 < x9 then (if 0 ≤ x10 then (if x10 < (x8.length:Int) then (if 0 ≤ (wrap64 (2 * x10)) then (if (wrap64 (2 * x10)) < (x1.length:Int) then (if 0 ≤ (wrap64 ((wrap64 (2 * x10)) + 1)) then (if (wrap64 ((wrap64 (2 * x10)) + 1)) < (x1.length:Int) then (if x5.length < 2513169434916 then (impl_withTerms.l0 k x1 (x5 ++ [(⟨(rd_T65 x8 x10).f0,rd_L2 x1 (wrap64 (2 * x10)),rd_L2 x1 (wrap64 ((wrap64 (2 * x10)) + 1))⟩:S65)]) x8 x9 (wrap64 (x10 + 1))) else (none)) else (none)) else (none)) else (none)) else (none)) else (none)) else (none)) else (some x5)
def impl_withTerms.f (k:Nat) (l0:List (S65)) (l1:List (List Int)):Option ((List (S65))):=impl_withTerms.l0 k l1 ([]:List (S65)) l0 (l0.length:Int) 0
theorem impl_withTerms.mono_l:∀ k,(∀ y0 y1 y2 y3 y4,LeO (impl_withTerms.l0 k y0 y1 y2 y3 y4) (impl_withTerms.l0 (k + 1) y0 y1 y2 y3 y4))
 | 0=>fun _ _ _ _ _ r h=>by simp [impl_withTerms.l0] at h
 | k + 1=>by
  have ih0:=impl_withTerms.mono_l k
  ·intro y0 y1 y2 y3 y4
   unfold impl_withTerms.l0
   exact mO
theorem impl_withTerms.mono:∀ a0 a1 k,LeO (impl_withTerms.f k a0 a1) (impl_withTerms.f (k + 1) a0 a1):=by
 intro a0 a1 k
 have ih0:=impl_withTerms.mono_l k
 unfold impl_withTerms.f
 exact mO
def impl_withTerms.T5:Bool × List (List Nat × List Nat):=(true,[([],[]),([],[]),([1],[1]),([],[]),([],[]),([4],[4]),([3,5],[3,5]),([6],[6]),([],[]),([],[]),([9],[9]),([10],[10]),([8,11],[8,11]),([12],[12]),([2,7,13],[2,7,13]),([14],[14]),([0,15],[0,15]),([16,16,0,1,2,3,4,5,6,7,8,9,10,11,12,13,14,15,16],[0,16])])
def impl_withTerms.B5:List Nat:=[0,0,2,0,0,16,56,120,0,0,512,1536,3840,7936,16382,32766,65535,131071]
theorem impl_withTerms.tab5:rtab .any (opsOf Try.f87 5) = impl_withTerms.T5:=by kernel_rfl
theorem impl_withTerms.bits5:waitsOk impl_withTerms.T5.2 impl_withTerms.B5 = true:=by kernel_rfl
set_option maxHeartbeats 8000000 in
set_option maxRecDepth 100000 in
theorem impl_withTerms.calls (k:Nat) (A0:Option Addr) (c0:Nat) (l0:List (S65)) (P1_:Nat → Prop) (A1:Option Addr) (c1:Nat) (l1:List (List Int)) (r:List (S65)) (w:World) (hr0:Kd.C k65 w A0 l0.length l0) (hc0:l0.length ≤ c0) (hs1:Kd.V (Kd.slice 3 (Kd.int .i64)) 22 w w.heap.size (fun k_=>P1_ k_) (.slice A1 l1.length c1) l1) (h:impl_withTerms.f k l0 l1 = some r) :
  Calls Try.prog 87 #[.slice A0 l0.length c0,.slice A1 l1.length c1] w fun e w'=>∃ v0_:Value,e = .returned (v0_) ∧ Kd.N k65 65 w' w.heap.size (fun k_=>(P1_ k_ ∨ w.heap.size ≤ k_)) v0_ r ∧ Below w.heap.size w w':=by
 have hu65:=Try.underlying65
 have HR0:=Aside0.mk hr0
 have HC0:=Aside0.mk hc0
 clear hr0 hc0
 have HO1:=Aside0.mk (show Kd.V (Kd.slice 3 (Kd.int .i64)) 22 w w.heap.size (fun k_=>(P1_ k_ ∨ w.heap.size ≤ k_)) (.slice A1 l1.length c1) l1 from Kd.V_mono hs1 (fun k_ hk=>.inl hk))
 have HB:=Aside0.mk (Below.refl w.heap.size w)
 have H:(impl_withTerms.l0 k l1 ([]:List (S65)) l0 (l0.length:Int) 0) = some r:=h
 clear h
 have H':=Aside0.mk H
 clear H
 go_enter Try.func87,Try.ntmps87
 go_wp2
 go_loopg [5,10] k (fun kq v5 v10 w'=>∃ (x5_1:List (S65)) (x10_1:Int),v10 = .int .i64 x10_1 ∧ Aside0 (impl_withTerms.l0 kq l1 x5_1 l0 (l0.length:Int) x10_1 = some r) ∧ Aside0 (kq ≤ k) ∧ Aside0 (Kd.V (Kd.slice 3 (Kd.int .i64)) 22 w' w.heap.size (fun k_=>(P1_ k_ ∨ w.heap.size ≤ k_) ∧ some k_ ≠ (v5:Value).ownBlock) (.slice A1 l1.length c1) l1) ∧ Aside0 (Kd.N k65 65 w' w.heap.size (fun k_=>(P1_ k_ ∨ w.heap.size ≤ k_)) v5 x5_1) ∧ Aside0 (Below w.heap.size w w'))
 case atStart=>exact ⟨(([]:List (S65))),(0),Yb,H',⟨Nat.le_refl _⟩,⟨by (with_reducible repeat (first|apply Kd.V_alloc|apply Kd.V_drewN|apply Kd.V_drew));exact Kd.V_mono HO1.out (fun _ hk=>⟨hk,(by simp [Value.ownBlock])⟩)⟩,⟨by first|exact Kd.S_nil _ _ _ _ _|exact Kd.N_nil _ _ _ _ _|exact Kd.V_nil _ _ _ _ _|exact Kd.Q_nil _ _ _ _ _|exact Kd.R_nil _ _ _ _ _⟩,⟨bH⟩⟩
 case round =>
  clear H'
  try clear c1
  try clear p2
  obtain ⟨x5_1,x10_1,rfl,HA,HK1,HO_1,HO_5,HB⟩:=hrel
  cases gk with
  | zero=>exact absurd HA.out (by simp [impl_withTerms.l0])
  | succ k1 =>
   have H:=HA.out
   clear HA
   simp only [impl_withTerms.l0] at H
   by_cases c3:x10_1 < (l0.length:Int)
   ·rw [if_pos c3] at H
    have c3b0:=decide_eq_true c3
    clear c3
    by_cases c4:0 ≤ x10_1
    ·rw [if_pos c4] at H
     have c4b0:=decide_eq_true c4
     clear c4
     by_cases c5:x10_1 < (l0.length:Int)
     ·rw [if_pos c5] at H
      have c5b0:=decide_eq_true c5
      clear c5
      obtain ⟨ji6,hji6⟩:∃ j_:Int,(wrap64 (2 * x10_1)) = j_:=⟨_,rfl⟩
      replace H:(if 0 ≤ (ji6) then (if (ji6) < (l1.length:Int) then (if 0 ≤ (wrap64 ((ji6) + 1)) then (if (wrap64 ((ji6) + 1)) < (l1.length:Int) then (if x5_1.length < 2513169434916 then (impl_withTerms.l0 k1 l1 (x5_1 ++ [(⟨(rd_T65 l0 x10_1).f0,rd_L2 l1 (ji6),rd_L2 l1 (wrap64 ((ji6) + 1))⟩:S65)]) l0 (l0.length:Int) (wrap64 (x10_1 + 1))) else (none)) else (none)) else (none)) else (none)) else (none)) = some r:=by first|(rw [hji6] at H;exact H)|(simp only [hji6] at H ⊢;exact H)
      have hji6w:(IntKind.i64.wrap (2 * x10_1)) = ji6:=(i64_w _).trans hji6
      by_cases c7:0 ≤ (ji6)
      ·rw [if_pos c7] at H
       have c7b0:=decide_eq_true c7
       clear c7
       by_cases c8:(ji6) < (l1.length:Int)
       ·rw [if_pos c8] at H
        have c8b0:=decide_eq_true c8
        clear c8
        obtain ⟨ji9,hji9⟩:∃ j_:Int,(wrap64 ((ji6) + 1)) = j_:=⟨_,rfl⟩
        replace H:(if 0 ≤ (ji9) then (if (ji9) < (l1.length:Int) then (if x5_1.length < 2513169434916 then (impl_withTerms.l0 k1 l1 (x5_1 ++ [(⟨(rd_T65 l0 x10_1).f0,rd_L2 l1 (ji6),rd_L2 l1 (ji9)⟩:S65)]) l0 (l0.length:Int) (wrap64 (x10_1 + 1))) else (none)) else (none)) else (none)) = some r:=by first|(rw [hji9] at H;exact H)|(simp only [hji9] at H ⊢;exact H)
        have hji9w:(IntKind.i64.wrap ((ji6) + 1)) = ji9:=(i64_w _).trans hji9
        by_cases c10:0 ≤ (ji9)
        ·rw [if_pos c10] at H
         have c10b0:=decide_eq_true c10
         clear c10
         by_cases c11:(ji9) < (l1.length:Int)
         ·rw [if_pos c11] at H
          have c11b0:=decide_eq_true c11
          clear c11
          by_cases c12:x5_1.length < 2513169434916
          ·rw [if_pos c12] at H
           have LMc12:=Aside0.mk c12
           clear c12
           obtain ⟨y452,hy452⟩:∃ y_:List (S65),y_ = (x5_1 ++ [(⟨(rd_T65 l0 x10_1).f0,rd_L2 l1 (ji6),rd_L2 l1 (ji9)⟩:S65)]):=⟨_,rfl⟩
           replace H:(impl_withTerms.l0 k1 l1 y452 l0 (l0.length:Int) (wrap64 (x10_1 + 1))) = some r:=by first|(rw [hy452];with_reducible exact H)|(have H2_:=(Option.bind_some _ _).symm.trans H;rw [hy452];with_reducible exact H2_)|(have H2_:=(Option.bind_some _ _).symm.trans H;with_reducible exact H2_)|with_reducible exact H|(rw [hy452];exact H)|exact H
           have Ny452:=Aside0.mk hy452
           clear hy452
           have H':=Aside0.mk H
           clear H
           have p448:0 ≤ (x10_1:Int):=oD
           have q448:x10_1 < (l0.length:Int):=oD
           obtain ⟨ad448,A448_1,c448_1,A448_2,c448_2,e448,hx448_0,hx448_1,hx448_2,hl448_1,hi448_1,hl448_2,hi448_2⟩:=at_T65 HR0.out x10_1 p448 q448
           cases e448
           replace hx448_0:=(HB.out.cell (World.block_lt_of_cell? w _ hx448_0)).trans hx448_0
           replace hx448_1:=(HB.out.cell (World.block_lt_of_cell? w _ hx448_1)).trans hx448_1
           replace hx448_2:=(HB.out.cell (World.block_lt_of_cell? w _ hx448_2)).trans hx448_2
           have HR448_1:=Aside0.mk hi448_1
           have HC448_1:=Aside0.mk hl448_1
           clear hi448_1 hl448_1
           have HR448_2:=Aside0.mk hi448_2
           have HC448_2:=Aside0.mk hl448_2
           clear hi448_2 hl448_2
           replace p448:=eq_true p448
           replace q448:=eq_true q448
           try go_wp2_with (first|((with_reducible refine gate_dst (N:=7) rfl ?_);refine box_event ?hg (N:=7) ?hd (cs:=#[.bool false,.slice none 0 0,.slice none 0 0]) (t:=65) ?hr ?_;(case hd=>rfl);(case hg=>rfl);(case hr=>first|(go_simp;done)|(go_simp;rfl));intro gb449 hg w13 hbox hb;replace HO_1:=Aside0.mk (Kd.V_below (Kd.V_elderB (rV HO_1) gb449 (Nat.le_of_eq hg.symm)) hb);replace HO_5:=Aside0.mk (Kd.N_below (Kd.N_elderB (rN HO_5) gb449 (Nat.le_of_eq hg.symm)) hb);have BK449:=Aside0.mk (hbox);have GW449:=Aside0.mk ((hZ:w.heap.size ≤ gb449));have GE449:=Aside0.mk ((hZ:w.heap.size ≤ gb449));replace HB:=Aside0.mk (below_step bH hb);clear hb hbox hg;have hcz14_0:w13.cell? ⟨gb449,0,none⟩ = some (.bool false):=(blk_cell BK449.out 0).trans rfl;have hcz14_1:w13.cell? ⟨gb449,1,none⟩ = some (.slice none 0 0):=(blk_cell BK449.out 1).trans rfl;have hcz14_2:w13.cell? ⟨gb449,2,none⟩ = some (.slice none 0 0):=(blk_cell BK449.out 2).trans rfl;have hfz14_0:=blk_frozen BK449.out 0;have hfz14_1:=blk_frozen BK449.out 1;have hfz14_2:=blk_frozen BK449.out 2))
           have n0_:Aside0 (Kd.V (Kd.slice 3 (Kd.int .i64)) 22 (((w13.setCell ⟨gb449,0,none⟩ (.bool ((rd_T65 l0 x10_1).f0))).setCell ⟨gb449,1,none⟩ (.slice A448_1 ((rd_T65 l0 x10_1).f1).length c448_1)).setCell ⟨gb449,2,none⟩ (.slice A448_2 ((rd_T65 l0 x10_1).f2).length c448_2)) w.heap.size (fun k_=>(P1_ k_ ∨ w.heap.size ≤ k_) ∧ some k_ ≠ (u5:Value).ownBlock ∧ k_ ≠ gb449) (.slice A1 l1.length c1) l1):=⟨by (with_reducible repeat (first|apply Kd.V_alloc|apply Kd.V_drewN|apply Kd.V_drew));exact Kd.V_mono (Kd.V_far (p:=⟨gb449,2,none⟩) (Kd.V_far (p:=⟨gb449,1,none⟩) (Kd.V_far (p:=⟨gb449,0,none⟩) (Kd.V_mono HO_1.out (fun k_ hk=>(⟨hk,hk.2⟩:_ ∧ k_ ≠ gb449))) (fun _ hk=>hk.2) (.bool ((rd_T65 l0 x10_1).f0))) (fun _ hk=>hk.2) (.slice A448_1 ((rd_T65 l0 x10_1).f1).length c448_1)) (fun _ hk=>hk.2) (.slice A448_2 ((rd_T65 l0 x10_1).f2).length c448_2)) (fun _ hk=>⟨hk.1.1.1,⟨hk.1.1.2,hk.1.2⟩⟩)⟩
           have n1_:Aside0 (Kd.N k65 65 (((w13.setCell ⟨gb449,0,none⟩ (.bool ((rd_T65 l0 x10_1).f0))).setCell ⟨gb449,1,none⟩ (.slice A448_1 ((rd_T65 l0 x10_1).f1).length c448_1)).setCell ⟨gb449,2,none⟩ (.slice A448_2 ((rd_T65 l0 x10_1).f2).length c448_2)) w.heap.size (fun k_=>(P1_ k_ ∨ w.heap.size ≤ k_) ∧ k_ ≠ gb449) u5 x5_1):=⟨by (with_reducible repeat (first|apply Kd.N_alloc|apply Kd.N_drewN|apply Kd.N_drew));exact Kd.N_mono (Kd.N_far (p:=⟨gb449,2,none⟩) (Kd.N_far (p:=⟨gb449,1,none⟩) (Kd.N_far (p:=⟨gb449,0,none⟩) (Kd.N_mono HO_5.out (fun k_ hk=>(⟨hk,hk.2⟩:_ ∧ k_ ≠ gb449))) (fun _ hk=>hk.2) (.bool ((rd_T65 l0 x10_1).f0))) (fun _ hk=>hk.2) (.slice A448_1 ((rd_T65 l0 x10_1).f1).length c448_1)) (fun _ hk=>hk.2) (.slice A448_2 ((rd_T65 l0 x10_1).f2).length c448_2)) (fun _ hk=>⟨hk.1.1,hk.1.2⟩)⟩
           have n2_:Aside0 ((((w13.setCell ⟨gb449,0,none⟩ (.bool ((rd_T65 l0 x10_1).f0))).setCell ⟨gb449,1,none⟩ (.slice A448_1 ((rd_T65 l0 x10_1).f1).length c448_1)).setCell ⟨gb449,2,none⟩ (.slice A448_2 ((rd_T65 l0 x10_1).f2).length c448_2)).heap[gb449]? = some (.cells #[.bool ((rd_T65 l0 x10_1).f0),.slice A448_1 ((rd_T65 l0 x10_1).f1).length c448_1,.slice A448_2 ((rd_T65 l0 x10_1).f2).length c448_2] 65 (0,0))):=⟨by (with_reducible repeat (first|refine blk_drewN ?_ _|refine blk_drew ?_|refine blk_alloc ?_ _));refine blk_put (cs:=#[.bool ((rd_T65 l0 x10_1).f0),.slice A448_1 ((rd_T65 l0 x10_1).f1).length c448_1,.slice none 0 0]) ?_ 2 _ rfl;(with_reducible repeat (first|refine blk_drewN ?_ _|refine blk_drew ?_|refine blk_alloc ?_ _));refine blk_put (cs:=#[.bool ((rd_T65 l0 x10_1).f0),.slice none 0 0,.slice none 0 0]) ?_ 1 _ rfl;(with_reducible repeat (first|refine blk_drewN ?_ _|refine blk_drew ?_|refine blk_alloc ?_ _));refine blk_put (cs:=#[.bool false,.slice none 0 0,.slice none 0 0]) ?_ 0 _ rfl;(with_reducible repeat (first|refine blk_drewN ?_ _|refine blk_drew ?_|refine blk_alloc ?_ _));exact BK449.out⟩
           have n3_:Aside0 (Below w.heap.size w (((w13.setCell ⟨gb449,0,none⟩ (.bool ((rd_T65 l0 x10_1).f0))).setCell ⟨gb449,1,none⟩ (.slice A448_1 ((rd_T65 l0 x10_1).f1).length c448_1)).setCell ⟨gb449,2,none⟩ (.slice A448_2 ((rd_T65 l0 x10_1).f2).length c448_2))):=⟨bH⟩
           (try clear HO_1)
           (try clear HO_5)
           (try clear BK449)
           (try clear HB)
           generalize (((w13.setCell ⟨gb449,0,none⟩ (.bool ((rd_T65 l0 x10_1).f0))).setCell ⟨gb449,1,none⟩ (.slice A448_1 ((rd_T65 l0 x10_1).f1).length c448_1)).setCell ⟨gb449,2,none⟩ (.slice A448_2 ((rd_T65 l0 x10_1).f2).length c448_2)) = w15 at n0_ n1_ n2_ n3_ ⊢
           have HO_1:=n0_
           have HO_5:=n1_
           have BK449:=n2_
           have HB:=n3_
           clear n0_ n1_ n2_ n3_
           have n0_:=Aside0.mk (Kd.V_drew HO_1.out)
           have n1_:=Aside0.mk (Kd.N_drew HO_5.out)
           have n2_:=Aside0.mk (blk_drew BK449.out)
           have n3_:=Aside0.mk (below_drew1 HB.out)
           clear HO_1
           clear HO_5
           clear BK449
           clear HB
           have HO_1:=n0_
           have HO_5:=n1_
           have BK449:=n2_
           have HB:=n3_
           clear n0_ n1_ n2_ n3_
           have p450:0 ≤ ((ji6):Int):=oD
           have q450:(ji6) < (l1.length:Int):=oD
           obtain ⟨ad450,A450_0,c450_0,e450,hx450_0,hl450_0,hi450_0⟩:=at_L2 (Kd.V_reads' HO_1.out).2.2 (ji6) p450 q450
           cases e450
           obtain ⟨ce450,hce450,hMe450,hcc450⟩:=Kd.V_get HO_1.out [] (ji6) p450 (by first|exact q450|exact oD|(have e_:=(Kd.V_reads' HO_1.out).1;omega))
           obtain ⟨ua450_0,uc450_0,rfl,ul450_0,ge450_0⟩:=Kd.FK_slice_open hMe450
           have hv450_0:=hcc450 0 _ rfl
           rw [Nat.add_zero,show ((Kd.slice 3 (Kd.int .i64))).sz = 1 from rfl,Nat.mul_one] at hv450_0
           replace hv450_0:=Option.some.inj (hv450_0.symm.trans hx450_0)
           injection hv450_0 with hva_ hvn_ hvc_
           rw [hva_] at ge450_0
           rw [hvc_] at ul450_0
           have HL450_0:=Aside0.mk (show Kd.V (Kd.int .i64) 3 _ w.heap.size _ _ (rd_L2 l1 (ji6)) from Kd.V_mk ul450_0 ge450_0)
           clear hva_ hvn_ hvc_ ge450_0 ul450_0
           clear hcc450 hce450
           have HR450_0:=Aside0.mk hi450_0
           have HC450_0:=Aside0.mk hl450_0
           clear hi450_0 hl450_0
           replace p450:=eq_true p450
           replace q450:=eq_true q450
           have p451:0 ≤ ((ji9):Int):=oD
           have q451:(ji9) < (l1.length:Int):=oD
           obtain ⟨ad451,A451_0,c451_0,e451,hx451_0,hl451_0,hi451_0⟩:=at_L2 (Kd.V_reads' HO_1.out).2.2 (ji9) p451 q451
           obtain rfl:ad450 = ad451:=(by injection e451)
           obtain ⟨ce451,hce451,hMe451,hcc451⟩:=Kd.V_get HO_1.out [] (ji9) p451 (by first|exact q451|exact oD|(have e_:=(Kd.V_reads' HO_1.out).1;omega))
           obtain ⟨ua451_0,uc451_0,rfl,ul451_0,ge451_0⟩:=Kd.FK_slice_open hMe451
           have hv451_0:=hcc451 0 _ rfl
           rw [Nat.add_zero,show ((Kd.slice 3 (Kd.int .i64))).sz = 1 from rfl,Nat.mul_one] at hv451_0
           replace hv451_0:=Option.some.inj (hv451_0.symm.trans hx451_0)
           injection hv451_0 with hva_ hvn_ hvc_
           rw [hva_] at ge451_0
           rw [hvc_] at ul451_0
           have HL451_0:=Aside0.mk (show Kd.V (Kd.int .i64) 3 _ w.heap.size _ _ (rd_L2 l1 (ji9)) from Kd.V_mk ul451_0 ge451_0)
           clear hva_ hvn_ hvc_ ge451_0 ul451_0
           clear hcc451 hce451
           have HR451_0:=Aside0.mk hi451_0
           have HC451_0:=Aside0.mk hl451_0
           clear hi451_0 hl451_0
           replace p451:=eq_true p451
           replace q451:=eq_true q451
           refine start_ (n:=18) (S:=fun w'=>w'.cell? ⟨gb449,0,none⟩ = some (.bool ((rd_T65 l0 x10_1).f0)) ∧ w'.cell? ⟨gb449,1,none⟩ = some (.slice A448_1 ((rd_T65 l0 x10_1).f1).length c448_1) ∧ w'.cell? ⟨gb449,2,none⟩ = some (.slice A448_2 ((rd_T65 l0 x10_1).f2).length c448_2) ∧ w'.cell? (ad450.add ((ji6)).toNat) = some (.slice A450_0 (rd_L2 l1 (ji6)).length c450_0) ∧ w'.cell? (ad450.add ((ji9)).toNat) = some (.slice A451_0 (rd_L2 l1 (ji9)).length c451_0)) (ds:=[15,16]) #[false,false,false,false,false,false,false,false,false,false,false,false,false,false,false,false,false,false] (by kernel_rfl) rfl rfl ⟨(blk_cell BK449.out 0).trans rfl,(blk_cell BK449.out 1).trans rfl,(blk_cell BK449.out 2).trans rfl,hx450_0,hx451_0⟩ (fun hHeld=>?_);refine with_tabW impl_withTerms.tab5 impl_withTerms.bits5 (fun HT_ HW_=>?_)
           generalize w15.drew = w16 at HO_1 HO_5 BK449 HB HL450_0 HL451_0 HR450_0 HR451_0 hx450_0 hx451_0 hHeld ⊢
           refine pure_ (i:=0) (N:=some 15) (v:=?_) (a':=?_) #[true,false,false,false,false,false,false,false,false,false,false,false,false,false,false,false,false,false] rfl rfl (any_of HT_.out (by kernel_rfl)) (fun _ _ _ h=>h) (Or.inl ⟨by rfl,?_⟩) ?_ ?_
           rotate_left
           ·intro w'
            go_simp
            with_reducible rfl
           rotate_left
           ·simp only [Act.put,List.setIfInBounds_toArray,List.set_cons_zero,List.set_cons_succ,i64_w,i32_w]
            rfl
           refine pure_ (i:=1) (N:=some 16) (v:=?_) (a':=?_) #[true,true,false,false,false,false,false,false,false,false,false,false,false,false,false,false,false,false] rfl rfl (any_of HT_.out (by kernel_rfl)) (fun _ _ _ h=>h) (Or.inl ⟨by rfl,?_⟩) ?_ ?_
           rotate_left
           ·intro w'
            go_simp
            with_reducible rfl
           rotate_left
           ·simp only [Act.put,List.setIfInBounds_toArray,List.set_cons_zero,List.set_cons_succ,i64_w,i32_w]
            rfl
           refine pure_ (i:=3) (N:=some 18) (v:=?_) (a':=?_) #[true,true,false,true,false,false,false,false,false,false,false,false,false,false,false,false,false,false] rfl rfl (any_of HT_.out (by kernel_rfl)) (fun _ _ _ h=>h) (Or.inl ⟨by rfl,?_⟩) ?_ ?_
           rotate_left
           ·intro w'
            go_simp
            with_reducible rfl
           rotate_left
           ·simp only [Act.put,List.setIfInBounds_toArray,List.set_cons_zero,List.set_cons_succ,i64_w,i32_w]
            rfl
           refine pure_ (i:=4) (N:=some 19) (v:=?_) (a':=?_) #[true,true,false,true,true,false,false,false,false,false,false,false,false,false,false,false,false,false] rfl rfl (any_of HT_.out (by kernel_rfl)) (fun _ _ _ h=>h) (Or.inl ⟨by rfl,?_⟩) ?_ ?_
           rotate_left
           ·intro w'
            go_simp
            with_reducible rfl
           rotate_left
           ·simp only [Act.put,List.setIfInBounds_toArray,List.set_cons_zero,List.set_cons_succ,i64_w,i32_w]
            rfl
           refine pure_ (i:=5) (N:=some 20) (v:=?_) (a':=?_) #[true,true,false,true,true,true,false,false,false,false,false,false,false,false,false,false,false,false] rfl rfl (any_of HT_.out (by kernel_rfl)) (fun _ _ _ h=>h) (Or.inl ⟨by rfl,?_⟩) ?_ ?_
           rotate_left
           ·intro w'
            go_simp
            with_reducible rfl
           rotate_left
           ·simp only [Act.put,List.setIfInBounds_toArray,List.set_cons_zero,List.set_cons_succ,i64_w,i32_w]
            rfl
           refine pure_ (i:=6) (N:=some 21) (v:=?_) (a':=?_) #[true,true,false,true,true,true,true,false,false,false,false,false,false,false,false,false,false,false] rfl rfl (any_of HT_.out (by kernel_rfl)) (fun _ _ _ h=>h) (Or.inl ⟨by rfl,?_⟩) ?_ ?_
           rotate_left
           ·intro w'
            go_simp
            with_reducible rfl
           rotate_left
           ·simp only [Act.put,List.setIfInBounds_toArray,List.set_cons_zero,List.set_cons_succ,i64_w,i32_w]
            rfl
           refine pure_ (i:=8) (N:=some 23) (v:=?_) (a':=?_) #[true,true,false,true,true,true,true,false,true,false,false,false,false,false,false,false,false,false] rfl rfl (any_of HT_.out (by kernel_rfl)) (fun _ _ _ h=>h) (Or.inl ⟨by rfl,?_⟩) ?_ ?_
           rotate_left
           ·intro w'
            go_simp
            with_reducible rfl
           rotate_left
           ·simp only [Act.put,List.setIfInBounds_toArray,List.set_cons_zero,List.set_cons_succ,i64_w,i32_w]
            rfl
           refine pure_ (i:=9) (N:=some 24) (v:=?_) (a':=?_) #[true,true,false,true,true,true,true,false,true,true,false,false,false,false,false,false,false,false] rfl rfl (any_of HT_.out (by kernel_rfl)) (fun _ _ _ h=>h) (Or.inl ⟨by rfl,?_⟩) ?_ ?_
           rotate_left
           ·intro w'
            go_simp
            with_reducible rfl
           rotate_left
           ·simp only [Act.put,List.setIfInBounds_toArray,List.set_cons_zero,List.set_cons_succ,i64_w,i32_w]
            rfl
           refine pure_ (i:=10) (N:=some 25) (v:=?_) (a':=?_) #[true,true,false,true,true,true,true,false,true,true,true,false,false,false,false,false,false,false] rfl rfl (any_of HT_.out (by kernel_rfl)) (fun _ _ _ h=>h) (Or.inl ⟨by rfl,?_⟩) ?_ ?_
           rotate_left
           ·intro w'
            go_simp
            with_reducible rfl
           rotate_left
           ·simp only [Act.put,List.setIfInBounds_toArray,List.set_cons_zero,List.set_cons_succ,i64_w,i32_w]
            rfl
           refine pure_ (i:=11) (N:=some 26) (v:=?_) (a':=?_) #[true,true,false,true,true,true,true,false,true,true,true,true,false,false,false,false,false,false] rfl rfl (any_of HT_.out (by kernel_rfl)) (fun _ _ _ h=>h) (Or.inl ⟨by rfl,?_⟩) ?_ ?_
           rotate_left
           ·intro w'
            go_simp
            with_reducible rfl
           rotate_left
           ·simp only [Act.put,List.setIfInBounds_toArray,List.set_cons_zero,List.set_cons_succ,i64_w,i32_w]
            rfl
           refine pure_ (i:=12) (N:=some 27) (v:=?_) (a':=?_) #[true,true,false,true,true,true,true,false,true,true,true,true,true,false,false,false,false,false] rfl rfl (any_of HT_.out (by kernel_rfl)) (fun _ _ _ h=>h) (Or.inl ⟨by rfl,?_⟩) ?_ ?_
           rotate_left
           ·intro w'
            go_simp
            with_reducible rfl
           rotate_left
           ·simp only [Act.put,List.setIfInBounds_toArray,List.set_cons_zero,List.set_cons_succ,i64_w,i32_w]
            rfl
           refine take_ (i:=2) (N:=some 17) (v:=?_) (a':=?_) #[true,true,true,true,true,true,true,false,true,true,true,true,true,false,false,false,false,false] rfl rfl (take_ofW HT_.out HW_.out (by kernel_rfl)) (fun _ _ _ h=>h) (Or.inl ⟨by rfl,?_⟩) hHeld ?_ ?_
           rotate_left
           ·rintro w' ⟨s0,s1,s2,s3,s4⟩
            go_simp
            with_reducible rfl
           rotate_left
           ·simp only [Act.put,List.setIfInBounds_toArray,List.set_cons_zero,List.set_cons_succ,i64_w,i32_w]
            rfl
           refine take_ (i:=7) (N:=some 22) (v:=?_) (a':=?_) #[true,true,true,true,true,true,true,true,true,true,true,true,true,false,false,false,false,false] rfl rfl (take_ofW HT_.out HW_.out (by kernel_rfl)) (fun _ _ _ h=>h) (Or.inl ⟨by rfl,?_⟩) hHeld ?_ ?_
           rotate_left
           ·rintro w' ⟨s0,s1,s2,s3,s4⟩
            go_simp
            with_reducible rfl
           rotate_left
           ·simp only [Act.put,List.setIfInBounds_toArray,List.set_cons_zero,List.set_cons_succ,i64_w,i32_w]
            rfl
           refine take_ (i:=13) (N:=some 28) (v:=?_) (a':=?_) #[true,true,true,true,true,true,true,true,true,true,true,true,true,true,false,false,false,false] rfl rfl (take_ofW HT_.out HW_.out (by kernel_rfl)) (fun _ _ _ h=>h) (Or.inl ⟨by rfl,?_⟩) hHeld ?_ ?_
           rotate_left
           ·rintro w' ⟨s0,s1,s2,s3,s4⟩
            go_simp
            with_reducible rfl
           rotate_left
           ·simp only [Act.put,List.setIfInBounds_toArray,List.set_cons_zero,List.set_cons_succ,i64_w,i32_w]
            rfl
           refine pure_ (i:=14) (N:=some 29) (v:=?_) (a':=?_) #[true,true,true,true,true,true,true,true,true,true,true,true,true,true,true,false,false,false] rfl rfl (any_of HT_.out (by kernel_rfl)) (fun _ _ _ h=>h) (Or.inl ⟨by rfl,?_⟩) ?_ ?_
           rotate_left
           ·intro w'
            go_simp
            with_reducible rfl
           rotate_left
           ·simp only [Act.put,List.setIfInBounds_toArray,List.set_cons_zero,List.set_cons_succ,i64_w,i32_w]
            rfl
           refine last_ (i:=15) (N:=some 30) #[true,true,true,true,true,true,true,true,true,true,true,true,true,true,true,true,false,false] rfl rfl (one_of HT_.out (by kernel_rfl)) (by decide) (fun K hK=>?_)
           refine value_ (w1:=?_) (v:=?_) (by rfl) rfl ?_ ?_
           rotate_left 2
           ·go_simp
            constructor
            ·rfl
            ·rfl
           refine hK.out _ _ ?_
           clear hK K
           refine norm_ (a':=?_) ?_ ?_
           rotate_left
           ·show Act.put _ (some 30) _ = _
            simp only [Act.put,List.setIfInBounds_toArray,List.set_cons_zero,List.set_cons_succ,i64_w,i32_w]
            rfl
           refine last_ (i:=16) (N:=some 31) #[true,true,true,true,true,true,true,true,true,true,true,true,true,true,true,true,true,false] rfl rfl (one_of HT_.out (by kernel_rfl)) (by decide) (fun K hK=>?_)
           refine Kd.N_append_step k65 (w0:=w) w.heap.size (by rfl) (.tmp 15) (.tmp 30) 33 65 (.agg #[(.bool false),(.slice none 0 0),(.slice none 0 0)]) 56 rfl Try.underlying33 info65 rfl (by decide) (by first|decide|omega) u5 x5_1 (⟨(rd_T65 l0 x10_1).f0,rd_L2 l1 (ji6),rd_L2 l1 (ji9)⟩:S65) [.bool ((rd_T65 l0 x10_1).f0),.slice A450_0 (rd_L2 l1 (ji6)).length c450_0,.slice A451_0 (rd_L2 l1 (ji9)).length c451_0] (fun k_=>(P1_ k_ ∨ w.heap.size ≤ k_) ∧ k_ ≠ gb449) (fun k_=>((fun k_=>(P1_ k_ ∨ w.heap.size ≤ k_) ∧ k_ ≠ gb449)) k_ ∧ some k_ ≠ (u5:Value).ownBlock) rfl rfl ?aP (fun _ hk=>hk) ?aF ?aO ?aB ?aS ?aL ?_
           (case aP=>exact (k65_mkF _ _ (⟨(rd_T65 l0 x10_1).f0,rd_L2 l1 (ji6),rd_L2 l1 (ji9)⟩:S65) (Kd.V_reads' (Kd.V_mono (ok':=(fun k_=>((fun k_=>(P1_ k_ ∨ w.heap.size ≤ k_) ∧ k_ ≠ gb449)) k_ ∧ some k_ ≠ (u5:Value).ownBlock)) (HL450_0.out) (fun k_ hk=>⟨⟨hk.1,hk.2.2⟩,hk.2.1⟩))).2.1 (Kd.V_F (Kd.V_mono (ok':=(fun k_=>((fun k_=>(P1_ k_ ∨ w.heap.size ≤ k_) ∧ k_ ≠ gb449)) k_ ∧ some k_ ≠ (u5:Value).ownBlock)) (HL450_0.out) (fun k_ hk=>⟨⟨hk.1,hk.2.2⟩,hk.2.1⟩))) (Kd.V_reads' (Kd.V_mono (ok':=(fun k_=>((fun k_=>(P1_ k_ ∨ w.heap.size ≤ k_) ∧ k_ ≠ gb449)) k_ ∧ some k_ ≠ (u5:Value).ownBlock)) (HL451_0.out) (fun k_ hk=>⟨⟨hk.1,hk.2.2⟩,hk.2.1⟩))).2.1 (Kd.V_F (Kd.V_mono (ok':=(fun k_=>((fun k_=>(P1_ k_ ∨ w.heap.size ≤ k_) ∧ k_ ≠ gb449)) k_ ∧ some k_ ≠ (u5:Value).ownBlock)) (HL451_0.out) (fun k_ hk=>⟨⟨hk.1,hk.2.2⟩,hk.2.1⟩)))))
           (case aB=>exact bH)
           (case aF=>exact (fun k_ hk=>⟨(.inr (Nat.le_trans (below_size bH) hk)),Kd.freshB (bB BK449) k_ hk⟩))
           (case aO=>exact (rN HO_5))
           (case aS=>exact (below_size bH))
           (case aL=>have:=LMc12.out;omega)
           intro v453 w17 ho hb hg hat
           rw [← Ny452.out] at ho
           have n0_:=Aside0.mk (Kd.V_afterv (ok:=(fun k_=>(P1_ k_ ∨ w.heap.size ≤ k_) ∧ k_ ≠ gb449)) (by (with_reducible repeat (first|apply Kd.V_alloc|apply Kd.V_drewN|apply Kd.V_drew));exact Kd.V_mono HO_1.out (fun _ hk=>⟨⟨hk.1,hk.2.2⟩,hk.2.1⟩)) hg hat)
           have n1_:=Aside0.mk (blk_grown (bB BK449) hg (Kd.N_away HO_5.out (fun _ hk=>hk.2)))
           have n2_:=Aside0.mk (Kd.V_afterv (ok:=(fun k_=>(P1_ k_ ∨ w.heap.size ≤ k_) ∧ k_ ≠ gb449)) (by (with_reducible repeat (first|apply Kd.V_alloc|apply Kd.V_drewN|apply Kd.V_drew));exact Kd.V_mono HL450_0.out (fun _ hk=>⟨⟨hk.1,hk.2.2⟩,hk.2.1⟩)) hg hat)
           have n3_:=Aside0.mk (Kd.V_afterv (ok:=(fun k_=>(P1_ k_ ∨ w.heap.size ≤ k_) ∧ k_ ≠ gb449)) (by (with_reducible repeat (first|apply Kd.V_alloc|apply Kd.V_drewN|apply Kd.V_drew));exact Kd.V_mono HL451_0.out (fun _ hk=>⟨⟨hk.1,hk.2.2⟩,hk.2.1⟩)) hg hat)
           have n4_:=Aside0.mk (hb)
           have n5_:=Aside0.mk (ho)
           clear HO_1
           clear BK449
           clear HL450_0
           clear HL451_0
           clear HB
           clear HO_5
           have HO_1:=n0_
           have BK449:=n1_
           have HL450_0:=n2_
           have HL451_0:=n3_
           have HB:=n4_
           have HO454:=n5_
           clear n0_ n1_ n2_ n3_ n4_ n5_
           clear ho hb hg hat
           refine hK.out _ _ ?_
           clear hK K
           refine norm_ (a':=?_) ?_ ?_
           rotate_left
           ·show Act.put _ (some 31) _ = _
            simp only [Act.put,List.setIfInBounds_toArray,List.set_cons_zero,List.set_cons_succ,i64_w,i32_w]
            rfl
           refine pure_ (i:=17) (N:=some 5) (v:=?_) (a':=?_) #[true,true,true,true,true,true,true,true,true,true,true,true,true,true,true,true,true,true] rfl rfl (any_of HT_.out (by kernel_rfl)) (fun _ _ _ h=>h) (Or.inl ⟨by rfl,?_⟩) ?_ ?_
           rotate_left
           ·intro w'
            go_simp
            with_reducible rfl
           rotate_left
           ·simp only [Act.put,List.setIfInBounds_toArray,List.set_cons_zero,List.set_cons_succ,i64_w,i32_w]
            rfl
           refine done_ (done_of HT_.out (by kernel_rfl)) ?_
           try go_wp2
           go_roundg k1
           case measure=>have:=HK1.out;omega
           case rel=>exact ⟨(y452),(wrap64 (x10_1 + 1)),Yb,H',⟨by have:=HK1.out;omega⟩,⟨by (with_reducible repeat (first|apply Kd.V_alloc|apply Kd.V_drewN|apply Kd.V_drew));exact Kd.V_mono HO_1.out (fun _ hk=>⟨hk.1.1,hk.2⟩)⟩,⟨by (with_reducible repeat (first|apply Kd.N_alloc|apply Kd.N_drewN|apply Kd.N_drew));exact Kd.N_mono HO454.out (fun _ hk=>hk.1)⟩,⟨bH⟩⟩
          ·rw [if_neg c12] at H
           exact absurd H (by simp)
         ·rw [if_neg c11] at H
          exact absurd H (by simp)
        ·rw [if_neg c10] at H
         exact absurd H (by simp)
       ·rw [if_neg c8] at H
        exact absurd H (by simp)
      ·rw [if_neg c7] at H
       exact absurd H (by simp)
     ·rw [if_neg c5] at H
      exact absurd H (by simp)
    ·rw [if_neg c4] at H
     exact absurd H (by simp)
   ·rw [if_neg c3] at H
    have c3b0:decide (x10_1 < (l0.length:Int)) = false:=decide_eq_false c3
    clear c3
    obtain rfl:=Option.some.inj H
    go_wp2
    go_ret
    exact ⟨_,by first|rfl|(simp [errW_none,errW_some] <;> rfl)|(simp [*,errW_none,errW_some] <;> rfl),rN HO_5,bH⟩

/-! ### impl_sameSides: function 141, by a walk of this session's own -/
def impl_sameSides.f (k:Nat) (a0_0:Bool) (l0_1:List Int) (l0_2:List Int) (a1_0:Bool) (l1_1:List Int) (l1_2:List Int):Option Bool:=(slices_Equal_int_int.f k l0_1 l1_1).bind fun t1=>(if t1 = true then ((slices_Equal_int_int.f k l0_2 l1_2).bind fun t2=>(if t2 = true then (some true) else ((slices_Equal_int_int.f k l0_1 l1_2).bind fun t3=>(if t3 = true then ((slices_Equal_int_int.f k l0_2 l1_1).bind fun t4=>(some t4)) else (some false))))) else ((slices_Equal_int_int.f k l0_1 l1_2).bind fun t3=>(if t3 = true then ((slices_Equal_int_int.f k l0_2 l1_1).bind fun t4=>(some t4)) else (some false))))
theorem impl_sameSides.mono (a0_0:Bool) (l0_1:List Int) (l0_2:List Int) (a1_0:Bool) (l1_1:List Int) (l1_2:List Int) (k:Nat):LeO (impl_sameSides.f k a0_0 l0_1 l0_2 a1_0 l1_1 l1_2) (impl_sameSides.f (k + 1) a0_0 l0_1 l0_2 a1_0 l1_1 l1_2):=by
  unfold impl_sameSides.f
  exact LeO.bind (slices_Equal_int_int.mono _ _ _) (fun _=>LeO.ite (LeO.bind (slices_Equal_int_int.mono _ _ _) (fun _=>LeO.ite (LeO.refl _) (LeO.bind (slices_Equal_int_int.mono _ _ _) (fun _=>LeO.ite (LeO.bind (slices_Equal_int_int.mono _ _ _) (fun _=>LeO.refl _)) (LeO.refl _))))) (LeO.bind (slices_Equal_int_int.mono _ _ _) (fun _=>LeO.ite (LeO.bind (slices_Equal_int_int.mono _ _ _) (fun _=>LeO.refl _)) (LeO.refl _))))
set_option maxHeartbeats 8000000 in
set_option maxRecDepth 1000000 in
theorem impl_sameSides.calls (k:Nat) (a0_0:Bool) (A0_1:Option Addr) (c0_1:Nat) (l0_1:List Int) (A0_2:Option Addr) (c0_2:Nat) (l0_2:List Int) (a1_0:Bool) (A1_1:Option Addr) (c1_1:Nat) (l1_1:List Int) (A1_2:Option Addr) (c1_2:Nat) (l1_2:List Int) (r:Bool) (w:World) (hr0_1:Kd.C (Kd.int .i64) w A0_1 l0_1.length l0_1) (hc0_1:l0_1.length ≤ c0_1) (hr0_2:Kd.C (Kd.int .i64) w A0_2 l0_2.length l0_2) (hc0_2:l0_2.length ≤ c0_2) (hr1_1:Kd.C (Kd.int .i64) w A1_1 l1_1.length l1_1) (hc1_1:l1_1.length ≤ c1_1) (hr1_2:Kd.C (Kd.int .i64) w A1_2 l1_2.length l1_2) (hc1_2:l1_2.length ≤ c1_2) (h:impl_sameSides.f k a0_0 l0_1 l0_2 a1_0 l1_1 l1_2 = some r) :
    Calls Try.prog 141 #[.agg #[.bool a0_0,.slice A0_1 l0_1.length c0_1,.slice A0_2 l0_2.length c0_2],.agg #[.bool a1_0,.slice A1_1 l1_1.length c1_1,.slice A1_2 l1_2.length c1_2]] w fun e w'=>e = .returned (.bool r) ∧ Below w.heap.size w w':=by
  have P1:=Aside0.mk hr0_1
  have P2:=Aside0.mk hr0_2
  have Q1:=Aside0.mk hr1_1
  have Q2:=Aside0.mk hr1_2
  unfold impl_sameSides.f at h
  have HH:=Aside0.mk h
  clear hr0_1 hr0_2 hr1_1 hr1_2 h
  go_enter Try.func141,Try.ntmps141
  go_upto_region 1 with fail
  have HX:=Aside0.mk (blk_alloc (heap_alloc_new w (.cells #[.bool a0_0,.slice A0_1 l0_1.length c0_1,.slice A0_2 l0_2.length c0_2] 65)) (.cells #[.bool a1_0,.slice A1_1 l1_1.length c1_1,.slice A1_2 l1_2.length c1_2] 65))
  have HY:=Aside0.mk (heap_alloc_new (w.alloc (.cells #[.bool a0_0,.slice A0_1 l0_1.length c0_1,.slice A0_2 l0_2.length c0_2] 65)) (.cells #[.bool a1_0,.slice A1_1 l1_1.length c1_1,.slice A1_2 l1_2.length c1_2] 65))
  have HB:=Aside0.mk (below_step (below_alloc (Below.refl w.heap.size w) (.cells #[.bool a0_0,.slice A0_1 l0_1.length c0_1,.slice A0_2 l0_2.length c0_2] 65)) (below_alloc (Below.refl _ _) (.cells #[.bool a1_0,.slice A1_1 l1_1.length c1_1,.slice A1_2 l1_2.length c1_2] 65)))
  have hsz:(w.alloc (.cells #[.bool a0_0,.slice A0_1 l0_1.length c0_1,.slice A0_2 l0_2.length c0_2] 65)).heap.size = w.heap.size + 1:=by unfold World.alloc;exact Array.size_push _
  rw [hsz] at HY
  clear hsz
  obtain ⟨gx,hgx⟩:∃ g,g = w.heap.size:=⟨_,rfl⟩
  obtain ⟨gy,hgy⟩:∃ g,g = w.heap.size + 1:=⟨_,rfl⟩
  generalize (w.alloc (.cells #[.bool a0_0,.slice A0_1 l0_1.length c0_1,.slice A0_2 l0_2.length c0_2] 65)).alloc (.cells #[.bool a1_0,.slice A1_1 l1_1.length c1_1,.slice A1_2 l1_2.length c1_2] 65) = W at HX HY HB ⊢
  rw [← hgy] at HY ⊢
  rw [← hgx] at HX ⊢
  clear hgx hgy
  have xa1:W.cell? ⟨gx,1,none⟩ = some (.slice A0_1 l0_1.length c0_1):=(blk_cell HX.out 1).trans rfl
  have xa2:W.cell? ⟨gx,2,none⟩ = some (.slice A0_2 l0_2.length c0_2):=(blk_cell HX.out 2).trans rfl
  have ya1:W.cell? ⟨gy,1,none⟩ = some (.slice A1_1 l1_1.length c1_1):=(blk_cell HY.out 1).trans rfl
  have ya2:W.cell? ⟨gy,2,none⟩ = some (.slice A1_2 l1_2.length c1_2):=(blk_cell HY.out 2).trans rfl
  have h9:=HH.out
  clear HH
  obtain ⟨t1,e1,h9⟩:=Option.bind_eq_some_iff.1 h9
  have E1:=Aside0.mk e1
  clear e1
  cases t1 with
  | false =>
    simp only [Bool.false_eq_true,if_false] at h9
    obtain ⟨t3,e3,h9⟩:=Option.bind_eq_some_iff.1 h9
    have E3:=Aside0.mk e3
    cases t3 with
    | false =>
      simp only [Bool.false_eq_true,if_false,Option.some.injEq] at h9
      subst h9
      clear e3
      have c1:=slices_Equal_int_int.calls k A0_1 c0_1 l0_1 A1_1 c1_1 l1_1 false W (Kd.C_below P1.out HB.out) hc0_1 (Kd.C_below Q1.out HB.out) hc1_1 E1.out
      go_wp2_with (first|(go_at_call 130;refine c1.mono ?_;clear c1;first|rintro e_ W1 rfl hd|rintro e_ W1 ⟨rfl,hd⟩;have HX:=Aside0.mk ((hd.below.block gx (blk_lt HX.out)).trans HX.out);have HY:=Aside0.mk ((hd.below.block gy (blk_lt HY.out)).trans HY.out);have HB:=Aside0.mk (below_step HB.out hd.below);clear hd;have xb1:W1.cell? ⟨gx,1,none⟩ = some (.slice A0_1 l0_1.length c0_1):=(blk_cell HX.out 1).trans rfl;have xb2:W1.cell? ⟨gx,2,none⟩ = some (.slice A0_2 l0_2.length c0_2):=(blk_cell HX.out 2).trans rfl;have yb1:W1.cell? ⟨gy,1,none⟩ = some (.slice A1_1 l1_1.length c1_1):=(blk_cell HY.out 1).trans rfl;have yb2:W1.cell? ⟨gy,2,none⟩ = some (.slice A1_2 l1_2.length c1_2):=(blk_cell HY.out 2).trans rfl;have c2:=slices_Equal_int_int.calls k A0_1 c0_1 l0_1 A1_2 c1_2 l1_2 false W1 (Kd.C_below P1.out HB.out) hc0_1 (Kd.C_below Q2.out HB.out) hc1_2 E3.out)|(go_at_call 130;refine c2.mono ?_;clear c2;first|rintro e_ W2 rfl hd|rintro e_ W2 ⟨rfl,hd⟩;have HX:=Aside0.mk ((hd.below.block gx (blk_lt HX.out)).trans HX.out);have HY:=Aside0.mk ((hd.below.block gy (blk_lt HY.out)).trans HY.out);have HB:=Aside0.mk (below_step HB.out hd.below);clear hd))
      go_ret
      exact ⟨rfl,HB.out⟩
    | true =>
      simp only [if_true] at h9
      obtain ⟨t4,e4,h9⟩:=Option.bind_eq_some_iff.1 h9
      have E4:=Aside0.mk e4
      simp only [Option.some.injEq] at h9
      subst h9
      clear e3 e4
      have c1:=slices_Equal_int_int.calls k A0_1 c0_1 l0_1 A1_1 c1_1 l1_1 false W (Kd.C_below P1.out HB.out) hc0_1 (Kd.C_below Q1.out HB.out) hc1_1 E1.out
      go_wp2_with (first|(go_at_call 130;refine c1.mono ?_;clear c1;first|rintro e_ W1 rfl hd|rintro e_ W1 ⟨rfl,hd⟩;have HX:=Aside0.mk ((hd.below.block gx (blk_lt HX.out)).trans HX.out);have HY:=Aside0.mk ((hd.below.block gy (blk_lt HY.out)).trans HY.out);have HB:=Aside0.mk (below_step HB.out hd.below);clear hd;have xb1:W1.cell? ⟨gx,1,none⟩ = some (.slice A0_1 l0_1.length c0_1):=(blk_cell HX.out 1).trans rfl;have xb2:W1.cell? ⟨gx,2,none⟩ = some (.slice A0_2 l0_2.length c0_2):=(blk_cell HX.out 2).trans rfl;have yb1:W1.cell? ⟨gy,1,none⟩ = some (.slice A1_1 l1_1.length c1_1):=(blk_cell HY.out 1).trans rfl;have yb2:W1.cell? ⟨gy,2,none⟩ = some (.slice A1_2 l1_2.length c1_2):=(blk_cell HY.out 2).trans rfl;have c2:=slices_Equal_int_int.calls k A0_1 c0_1 l0_1 A1_2 c1_2 l1_2 true W1 (Kd.C_below P1.out HB.out) hc0_1 (Kd.C_below Q2.out HB.out) hc1_2 E3.out)|(go_at_call 130;refine c2.mono ?_;clear c2;first|rintro e_ W2 rfl hd|rintro e_ W2 ⟨rfl,hd⟩;have HX:=Aside0.mk ((hd.below.block gx (blk_lt HX.out)).trans HX.out);have HY:=Aside0.mk ((hd.below.block gy (blk_lt HY.out)).trans HY.out);have HB:=Aside0.mk (below_step HB.out hd.below);clear hd;have xc1:W2.cell? ⟨gx,1,none⟩ = some (.slice A0_1 l0_1.length c0_1):=(blk_cell HX.out 1).trans rfl;have xc2:W2.cell? ⟨gx,2,none⟩ = some (.slice A0_2 l0_2.length c0_2):=(blk_cell HX.out 2).trans rfl;have yc1:W2.cell? ⟨gy,1,none⟩ = some (.slice A1_1 l1_1.length c1_1):=(blk_cell HY.out 1).trans rfl;have yc2:W2.cell? ⟨gy,2,none⟩ = some (.slice A1_2 l1_2.length c1_2):=(blk_cell HY.out 2).trans rfl;have c3:=slices_Equal_int_int.calls k A0_2 c0_2 l0_2 A1_1 c1_1 l1_1 t4 W2 (Kd.C_below P2.out HB.out) hc0_2 (Kd.C_below Q1.out HB.out) hc1_1 E4.out)|(go_at_call 130;refine c3.mono ?_;clear c3;first|rintro e_ W3 rfl hd|rintro e_ W3 ⟨rfl,hd⟩;have HX:=Aside0.mk ((hd.below.block gx (blk_lt HX.out)).trans HX.out);have HY:=Aside0.mk ((hd.below.block gy (blk_lt HY.out)).trans HY.out);have HB:=Aside0.mk (below_step HB.out hd.below);clear hd))
      go_ret
      exact ⟨rfl,HB.out⟩
  | true =>
    simp only [if_true] at h9
    obtain ⟨t2,e2,h9⟩:=Option.bind_eq_some_iff.1 h9
    have E2:=Aside0.mk e2
    clear e2
    cases t2 with
    | true =>
      simp only [if_true,Option.some.injEq] at h9
      subst h9
      have c1:=slices_Equal_int_int.calls k A0_1 c0_1 l0_1 A1_1 c1_1 l1_1 true W (Kd.C_below P1.out HB.out) hc0_1 (Kd.C_below Q1.out HB.out) hc1_1 E1.out
      go_wp2_with (first|(go_at_call 130;refine c1.mono ?_;clear c1;first|rintro e_ W1 rfl hd|rintro e_ W1 ⟨rfl,hd⟩;have HX:=Aside0.mk ((hd.below.block gx (blk_lt HX.out)).trans HX.out);have HY:=Aside0.mk ((hd.below.block gy (blk_lt HY.out)).trans HY.out);have HB:=Aside0.mk (below_step HB.out hd.below);clear hd;have xb1:W1.cell? ⟨gx,1,none⟩ = some (.slice A0_1 l0_1.length c0_1):=(blk_cell HX.out 1).trans rfl;have xb2:W1.cell? ⟨gx,2,none⟩ = some (.slice A0_2 l0_2.length c0_2):=(blk_cell HX.out 2).trans rfl;have yb1:W1.cell? ⟨gy,1,none⟩ = some (.slice A1_1 l1_1.length c1_1):=(blk_cell HY.out 1).trans rfl;have yb2:W1.cell? ⟨gy,2,none⟩ = some (.slice A1_2 l1_2.length c1_2):=(blk_cell HY.out 2).trans rfl;have c2:=slices_Equal_int_int.calls k A0_2 c0_2 l0_2 A1_2 c1_2 l1_2 true W1 (Kd.C_below P2.out HB.out) hc0_2 (Kd.C_below Q2.out HB.out) hc1_2 E2.out)|(go_at_call 130;refine c2.mono ?_;clear c2;first|rintro e_ W2 rfl hd|rintro e_ W2 ⟨rfl,hd⟩;have HX:=Aside0.mk ((hd.below.block gx (blk_lt HX.out)).trans HX.out);have HY:=Aside0.mk ((hd.below.block gy (blk_lt HY.out)).trans HY.out);have HB:=Aside0.mk (below_step HB.out hd.below);clear hd))
      go_ret
      exact ⟨rfl,HB.out⟩
    | false =>
      simp only [Bool.false_eq_true,if_false] at h9
      obtain ⟨t3,e3,h9⟩:=Option.bind_eq_some_iff.1 h9
      have E3:=Aside0.mk e3
      cases t3 with
      | false =>
        simp only [Bool.false_eq_true,if_false,Option.some.injEq] at h9
        subst h9
        clear e3
        have c1:=slices_Equal_int_int.calls k A0_1 c0_1 l0_1 A1_1 c1_1 l1_1 true W (Kd.C_below P1.out HB.out) hc0_1 (Kd.C_below Q1.out HB.out) hc1_1 E1.out
        go_wp2_with (first|(go_at_call 130;refine c1.mono ?_;clear c1;first|rintro e_ W1 rfl hd|rintro e_ W1 ⟨rfl,hd⟩;have HX:=Aside0.mk ((hd.below.block gx (blk_lt HX.out)).trans HX.out);have HY:=Aside0.mk ((hd.below.block gy (blk_lt HY.out)).trans HY.out);have HB:=Aside0.mk (below_step HB.out hd.below);clear hd;have xb1:W1.cell? ⟨gx,1,none⟩ = some (.slice A0_1 l0_1.length c0_1):=(blk_cell HX.out 1).trans rfl;have xb2:W1.cell? ⟨gx,2,none⟩ = some (.slice A0_2 l0_2.length c0_2):=(blk_cell HX.out 2).trans rfl;have yb1:W1.cell? ⟨gy,1,none⟩ = some (.slice A1_1 l1_1.length c1_1):=(blk_cell HY.out 1).trans rfl;have yb2:W1.cell? ⟨gy,2,none⟩ = some (.slice A1_2 l1_2.length c1_2):=(blk_cell HY.out 2).trans rfl;have c2:=slices_Equal_int_int.calls k A0_2 c0_2 l0_2 A1_2 c1_2 l1_2 false W1 (Kd.C_below P2.out HB.out) hc0_2 (Kd.C_below Q2.out HB.out) hc1_2 E2.out)|(go_at_call 130;refine c2.mono ?_;clear c2;first|rintro e_ W2 rfl hd|rintro e_ W2 ⟨rfl,hd⟩;have HX:=Aside0.mk ((hd.below.block gx (blk_lt HX.out)).trans HX.out);have HY:=Aside0.mk ((hd.below.block gy (blk_lt HY.out)).trans HY.out);have HB:=Aside0.mk (below_step HB.out hd.below);clear hd;have xc1:W2.cell? ⟨gx,1,none⟩ = some (.slice A0_1 l0_1.length c0_1):=(blk_cell HX.out 1).trans rfl;have xc2:W2.cell? ⟨gx,2,none⟩ = some (.slice A0_2 l0_2.length c0_2):=(blk_cell HX.out 2).trans rfl;have yc1:W2.cell? ⟨gy,1,none⟩ = some (.slice A1_1 l1_1.length c1_1):=(blk_cell HY.out 1).trans rfl;have yc2:W2.cell? ⟨gy,2,none⟩ = some (.slice A1_2 l1_2.length c1_2):=(blk_cell HY.out 2).trans rfl;have c3:=slices_Equal_int_int.calls k A0_1 c0_1 l0_1 A1_2 c1_2 l1_2 false W2 (Kd.C_below P1.out HB.out) hc0_1 (Kd.C_below Q2.out HB.out) hc1_2 E3.out)|(go_at_call 130;refine c3.mono ?_;clear c3;first|rintro e_ W3 rfl hd|rintro e_ W3 ⟨rfl,hd⟩;have HX:=Aside0.mk ((hd.below.block gx (blk_lt HX.out)).trans HX.out);have HY:=Aside0.mk ((hd.below.block gy (blk_lt HY.out)).trans HY.out);have HB:=Aside0.mk (below_step HB.out hd.below);clear hd))
        go_ret
        exact ⟨rfl,HB.out⟩
      | true =>
        simp only [if_true] at h9
        obtain ⟨t4,e4,h9⟩:=Option.bind_eq_some_iff.1 h9
        have E4:=Aside0.mk e4
        simp only [Option.some.injEq] at h9
        subst h9
        clear e3 e4
        have c1:=slices_Equal_int_int.calls k A0_1 c0_1 l0_1 A1_1 c1_1 l1_1 true W (Kd.C_below P1.out HB.out) hc0_1 (Kd.C_below Q1.out HB.out) hc1_1 E1.out
        go_wp2_with (first|(go_at_call 130;refine c1.mono ?_;clear c1;first|rintro e_ W1 rfl hd|rintro e_ W1 ⟨rfl,hd⟩;have HX:=Aside0.mk ((hd.below.block gx (blk_lt HX.out)).trans HX.out);have HY:=Aside0.mk ((hd.below.block gy (blk_lt HY.out)).trans HY.out);have HB:=Aside0.mk (below_step HB.out hd.below);clear hd;have xb1:W1.cell? ⟨gx,1,none⟩ = some (.slice A0_1 l0_1.length c0_1):=(blk_cell HX.out 1).trans rfl;have xb2:W1.cell? ⟨gx,2,none⟩ = some (.slice A0_2 l0_2.length c0_2):=(blk_cell HX.out 2).trans rfl;have yb1:W1.cell? ⟨gy,1,none⟩ = some (.slice A1_1 l1_1.length c1_1):=(blk_cell HY.out 1).trans rfl;have yb2:W1.cell? ⟨gy,2,none⟩ = some (.slice A1_2 l1_2.length c1_2):=(blk_cell HY.out 2).trans rfl;have c2:=slices_Equal_int_int.calls k A0_2 c0_2 l0_2 A1_2 c1_2 l1_2 false W1 (Kd.C_below P2.out HB.out) hc0_2 (Kd.C_below Q2.out HB.out) hc1_2 E2.out)|(go_at_call 130;refine c2.mono ?_;clear c2;first|rintro e_ W2 rfl hd|rintro e_ W2 ⟨rfl,hd⟩;have HX:=Aside0.mk ((hd.below.block gx (blk_lt HX.out)).trans HX.out);have HY:=Aside0.mk ((hd.below.block gy (blk_lt HY.out)).trans HY.out);have HB:=Aside0.mk (below_step HB.out hd.below);clear hd;have xc1:W2.cell? ⟨gx,1,none⟩ = some (.slice A0_1 l0_1.length c0_1):=(blk_cell HX.out 1).trans rfl;have xc2:W2.cell? ⟨gx,2,none⟩ = some (.slice A0_2 l0_2.length c0_2):=(blk_cell HX.out 2).trans rfl;have yc1:W2.cell? ⟨gy,1,none⟩ = some (.slice A1_1 l1_1.length c1_1):=(blk_cell HY.out 1).trans rfl;have yc2:W2.cell? ⟨gy,2,none⟩ = some (.slice A1_2 l1_2.length c1_2):=(blk_cell HY.out 2).trans rfl;have c3:=slices_Equal_int_int.calls k A0_1 c0_1 l0_1 A1_2 c1_2 l1_2 true W2 (Kd.C_below P1.out HB.out) hc0_1 (Kd.C_below Q2.out HB.out) hc1_2 E3.out)|(go_at_call 130;refine c3.mono ?_;clear c3;first|rintro e_ W3 rfl hd|rintro e_ W3 ⟨rfl,hd⟩;have HX:=Aside0.mk ((hd.below.block gx (blk_lt HX.out)).trans HX.out);have HY:=Aside0.mk ((hd.below.block gy (blk_lt HY.out)).trans HY.out);have HB:=Aside0.mk (below_step HB.out hd.below);clear hd;have xd1:W3.cell? ⟨gx,1,none⟩ = some (.slice A0_1 l0_1.length c0_1):=(blk_cell HX.out 1).trans rfl;have xd2:W3.cell? ⟨gx,2,none⟩ = some (.slice A0_2 l0_2.length c0_2):=(blk_cell HX.out 2).trans rfl;have yd1:W3.cell? ⟨gy,1,none⟩ = some (.slice A1_1 l1_1.length c1_1):=(blk_cell HY.out 1).trans rfl;have yd2:W3.cell? ⟨gy,2,none⟩ = some (.slice A1_2 l1_2.length c1_2):=(blk_cell HY.out 2).trans rfl;have c4:=slices_Equal_int_int.calls k A0_2 c0_2 l0_2 A1_1 c1_1 l1_1 t4 W3 (Kd.C_below P2.out HB.out) hc0_2 (Kd.C_below Q1.out HB.out) hc1_1 E4.out)|(go_at_call 130;refine c4.mono ?_;clear c4;first|rintro e_ W4 rfl hd|rintro e_ W4 ⟨rfl,hd⟩;have HX:=Aside0.mk ((hd.below.block gx (blk_lt HX.out)).trans HX.out);have HY:=Aside0.mk ((hd.below.block gy (blk_lt HY.out)).trans HY.out);have HB:=Aside0.mk (below_step HB.out hd.below);clear hd))
        go_ret
        exact ⟨rfl,HB.out⟩

/-! ### impl_tidy_1: function 140 -/
def impl_tidy_1.f (k:Nat) (a0_0:Bool) (l0_1:List Int) (l0_2:List Int) (a1_0:Bool) (l1_1:List Int) (l1_2:List Int):Option (Bool):=if (a1_0 == a0_0) = true then ((impl_sameSides.f k a1_0 l1_1 l1_2 a0_0 l0_1 l0_2).bind fun t456=>(some t456)) else (some false)
theorem impl_tidy_1.mono:∀ a0 a1 a2 a3 a4 a5 k,LeO (impl_tidy_1.f k a0 a1 a2 a3 a4 a5) (impl_tidy_1.f (k + 1) a0 a1 a2 a3 a4 a5):=by
 intro a0 a1 a2 a3 a4 a5 k
 unfold impl_tidy_1.f
 have m0:=@impl_sameSides.mono
 exact mO
set_option maxHeartbeats 8000000 in
set_option maxRecDepth 100000 in
theorem impl_tidy_1.calls (k:Nat) (a0_0:Bool) (A0_1:Option Addr) (c0_1:Nat) (l0_1:List Int) (A0_2:Option Addr) (c0_2:Nat) (l0_2:List Int) (g1_:Nat) (a1_0:Bool) (A1_1:Option Addr) (c1_1:Nat) (l1_1:List Int) (A1_2:Option Addr) (c1_2:Nat) (l1_2:List Int) (r:Bool) (w:World) (hr0_1:Kd.C (Kd.int .i64) w A0_1 l0_1.length l0_1) (hc0_1:l0_1.length ≤ c0_1) (hr0_2:Kd.C (Kd.int .i64) w A0_2 l0_2.length l0_2) (hc0_2:l0_2.length ≤ c0_2) (hr1_1:Kd.C (Kd.int .i64) w A1_1 l1_1.length l1_1) (hc1_1:l1_1.length ≤ c1_1) (hr1_2:Kd.C (Kd.int .i64) w A1_2 l1_2.length l1_2) (hc1_2:l1_2.length ≤ c1_2) (hg1:w.heap[g1_]? = some (.cells #[.bool a1_0,.slice A1_1 l1_1.length c1_1,.slice A1_2 l1_2.length c1_2] 65 (0,0))) (h:impl_tidy_1.f k a0_0 l0_1 l0_2 a1_0 l1_1 l1_2 = some r) :
  Calls Try.prog 140 #[.agg #[.bool a0_0,.slice A0_1 l0_1.length c0_1,.slice A0_2 l0_2.length c0_2],.pointer (some ⟨g1_,0,none⟩)] w fun e w'=>e = .returned (.bool r) ∧ Below w.heap.size w w':=by
 have hu65:=Try.underlying65
 have HR0_1:=Aside0.mk hr0_1
 have HC0_1:=Aside0.mk hc0_1
 clear hr0_1 hc0_1
 have HR0_2:=Aside0.mk hr0_2
 have HC0_2:=Aside0.mk hc0_2
 clear hr0_2 hc0_2
 have HR1_1:=Aside0.mk hr1_1
 have HC1_1:=Aside0.mk hc1_1
 clear hr1_1 hc1_1
 have HR1_2:=Aside0.mk hr1_2
 have HC1_2:=Aside0.mk hc1_2
 clear hr1_2 hc1_2
 have BK1:=Aside0.mk hg1
 clear hg1
 have HB:=Aside0.mk (Below.refl w.heap.size w)
 have H:(if (a1_0 == a0_0) = true then ((impl_sameSides.f k a1_0 l1_1 l1_2 a0_0 l0_1 l0_2).bind fun t456=>(some t456)) else (some false)) = some r:=h
 clear h
 by_cases c3:(a1_0 == a0_0) = true
 ·rw [if_pos c3] at H
  have c3b0:(a1_0 == a0_0) = true:=c3
  (try (have c3b1:decide (a1_0 = a0_0) = true:=by simpa using c3))
  (try (have c3b2:(a1_0 == a0_0) = true:=by simpa using c3))
  clear c3
  replace H:=Option.bind_eq_some_iff.mp H
  obtain ⟨t456,A40,H⟩:=H
  replace H:(some t456) = some r:=H
  have A4:=Aside0.mk A40
  clear A40
  obtain rfl:=Option.some.inj H
  go_enter Try.func140,Try.ntmps140
  go_wp2_with (first|((with_reducible refine gate_dst (N:=2) rfl ?_);refine box_event ?hg (N:=2) ?hd (cs:=#[.bool a0_0,.slice A0_1 l0_1.length c0_1,.slice A0_2 l0_2.length c0_2]) (t:=65) ?hr ?_;(case hd=>rfl);(case hg=>rfl);(case hr=>first|(go_simp;done)|(go_simp;rfl));intro gb455 hg w5 hbox hb;have BK455:=Aside0.mk (hbox);have GW455:=Aside0.mk ((hZ:w.heap.size ≤ gb455));have GE455:=Aside0.mk ((hZ:w.heap.size ≤ gb455));replace HB:=Aside0.mk (below_step bH hb);have NB1_455:=Aside0.mk ((nL BK1:g1_ ≠ gb455));have NB455_1:=Aside0.mk ((nG BK1:gb455 ≠ g1_));replace BK1:=Aside0.mk (blk_below (bB BK1) hb);clear hb hbox hg;have hnb6:=NB1_455.out;have hnc6:=NB455_1.out;have hcz7_0:w5.cell? ⟨g1_,0,none⟩ = some (.bool a1_0):=(blk_cell BK1.out 0).trans rfl;have hcz7_1:w5.cell? ⟨g1_,1,none⟩ = some (.slice A1_1 l1_1.length c1_1):=(blk_cell BK1.out 1).trans rfl;have hcz7_2:w5.cell? ⟨g1_,2,none⟩ = some (.slice A1_2 l1_2.length c1_2):=(blk_cell BK1.out 2).trans rfl;have hfz7_0:=blk_frozen BK1.out 0;have hfz7_1:=blk_frozen BK1.out 1;have hfz7_2:=blk_frozen BK1.out 2;have hcz8_0:w5.cell? ⟨gb455,0,none⟩ = some (.bool a0_0):=(blk_cell BK455.out 0).trans rfl;have hcz8_1:w5.cell? ⟨gb455,1,none⟩ = some (.slice A0_1 l0_1.length c0_1):=(blk_cell BK455.out 1).trans rfl;have hcz8_2:w5.cell? ⟨gb455,2,none⟩ = some (.slice A0_2 l0_2.length c0_2):=(blk_cell BK455.out 2).trans rfl;have hfz8_0:=blk_frozen BK455.out 0;have hfz8_1:=blk_frozen BK455.out 1;have hfz8_2:=blk_frozen BK455.out 2)|(go_at_call 141;(with_reducible refine (impl_sameSides.calls k a1_0 _ _ l1_1 _ _ l1_2 a0_0 _ _ l0_1 _ _ l0_2 t456 _ ?side1 ?side2 ?side3 ?side4 ?side5 ?side6 ?side7 ?side8 A4.out).mono ?_);(case side1=>exact sC HR1_1);(case side2=>exact HC1_1.out);(case side3=>exact sC HR1_2);(case side4=>exact HC1_2.out);(case side5=>exact sC HR0_1);(case side6=>exact HC0_1.out);(case side7=>exact sC HR0_2);(case side8=>exact HC0_2.out);rintro e w9 ⟨rfl,hb⟩;replace BK1:=Aside0.mk (blk_below (bB BK1) hb);replace BK455:=Aside0.mk (blk_below (bB BK455) hb);replace HB:=Aside0.mk (below_step bH hb);(try clear hb);(try clear hb2);(try clear hk);(try clear hi)))
  go_ret
  exact ⟨by first|rfl|(simp [errW_none,errW_some] <;> rfl)|(simp [*,errW_none,errW_some] <;> rfl),bH⟩
 ·rw [if_neg c3] at H
  have c3b0:(a1_0 == a0_0) = false:=by simpa using c3
  (try (have c3b1:decide (a1_0 = a0_0) = false:=by simpa using c3))
  (try (have c3b2:(a1_0 == a0_0) = false:=by simpa using c3))
  (try (have c3b3:¬ (a1_0 = a0_0):=by simpa using c3))
  clear c3
  obtain rfl:=Option.some.inj H
  go_enter Try.func140,Try.ntmps140
  go_wp2_with (first|((with_reducible refine gate_dst (N:=2) rfl ?_);refine box_event ?hg (N:=2) ?hd (cs:=#[.bool a0_0,.slice A0_1 l0_1.length c0_1,.slice A0_2 l0_2.length c0_2]) (t:=65) ?hr ?_;(case hd=>rfl);(case hg=>rfl);(case hr=>first|(go_simp;done)|(go_simp;rfl));intro gb455 hg w10 hbox hb;have BK455:=Aside0.mk (hbox);have GW455:=Aside0.mk ((hZ:w.heap.size ≤ gb455));have GE455:=Aside0.mk ((hZ:w.heap.size ≤ gb455));replace HB:=Aside0.mk (below_step bH hb);have NB1_455:=Aside0.mk ((nL BK1:g1_ ≠ gb455));have NB455_1:=Aside0.mk ((nG BK1:gb455 ≠ g1_));replace BK1:=Aside0.mk (blk_below (bB BK1) hb);clear hb hbox hg;have hnb11:=NB1_455.out;have hnc11:=NB455_1.out;have hcz12_0:w10.cell? ⟨g1_,0,none⟩ = some (.bool a1_0):=(blk_cell BK1.out 0).trans rfl;have hcz12_1:w10.cell? ⟨g1_,1,none⟩ = some (.slice A1_1 l1_1.length c1_1):=(blk_cell BK1.out 1).trans rfl;have hcz12_2:w10.cell? ⟨g1_,2,none⟩ = some (.slice A1_2 l1_2.length c1_2):=(blk_cell BK1.out 2).trans rfl;have hfz12_0:=blk_frozen BK1.out 0;have hfz12_1:=blk_frozen BK1.out 1;have hfz12_2:=blk_frozen BK1.out 2;have hcz13_0:w10.cell? ⟨gb455,0,none⟩ = some (.bool a0_0):=(blk_cell BK455.out 0).trans rfl;have hcz13_1:w10.cell? ⟨gb455,1,none⟩ = some (.slice A0_1 l0_1.length c0_1):=(blk_cell BK455.out 1).trans rfl;have hcz13_2:w10.cell? ⟨gb455,2,none⟩ = some (.slice A0_2 l0_2.length c0_2):=(blk_cell BK455.out 2).trans rfl;have hfz13_0:=blk_frozen BK455.out 0;have hfz13_1:=blk_frozen BK455.out 1;have hfz13_2:=blk_frozen BK455.out 2))
  go_ret
  exact ⟨by first|rfl|(simp [errW_none,errW_some] <;> rfl)|(simp [*,errW_none,errW_some] <;> rfl),bH⟩

/-! ### impl_copyLit: function 142 -/
def impl_copyLit.f (a0_0:Bool) (l0_1:List Int) (l0_2:List Int):Option (Bool × List Int × List Int):=(slices_Clone_int_int_83.f l0_1).bind fun t459=>((slices_Clone_int_int_83.f l0_2).bind fun t462=>(some (a0_0,t459,t462)))
def impl_copyLit.T1:Bool × List (List Nat × List Nat):=(true,[([],[]),([0],[0]),([],[]),([2],[2]),([3],[3]),([],[]),([5],[5]),([6,4],[6]),([1,4,7],[1,4,7]),([8,7,0,1,2,3,4,5,6,7,8],[8])])
def impl_copyLit.B1:List Nat:=[0,1,0,4,12,0,32,124,255,511]
theorem impl_copyLit.tab1:rtab .any (opsOf Try.f142 1) = impl_copyLit.T1:=by kernel_rfl
theorem impl_copyLit.bits1:waitsOk impl_copyLit.T1.2 impl_copyLit.B1 = true:=by kernel_rfl
set_option maxHeartbeats 8000000 in
set_option maxRecDepth 100000 in
theorem impl_copyLit.calls (a0_0:Bool) (A0_1:Option Addr) (c0_1:Nat) (l0_1:List Int) (A0_2:Option Addr) (c0_2:Nat) (l0_2:List Int) (r1:Bool) (r2:List Int) (r3:List Int) (w:World) (hr0_1:Kd.C (Kd.int .i64) w A0_1 l0_1.length l0_1) (hc0_1:l0_1.length ≤ c0_1) (hr0_2:Kd.C (Kd.int .i64) w A0_2 l0_2.length l0_2) (hc0_2:l0_2.length ≤ c0_2) (h:impl_copyLit.f a0_0 l0_1 l0_2 = some (r1,r2,r3)) :
  Calls Try.prog 142 #[.agg #[.bool a0_0,.slice A0_1 l0_1.length c0_1,.slice A0_2 l0_2.length c0_2]] w fun e w'=>∃ v1_ v2_:Value,e = .returned (.agg #[.bool r1,v1_,v2_]) ∧ Kd.R (Kd.int .i64) 3 w' w.heap.size (fun k_=>some k_ ≠ (v2_:Value).ownBlock) v1_ r2 ∧ Kd.R (Kd.int .i64) 3 w' w.heap.size (fun k_=>some k_ ≠ (v1_:Value).ownBlock) v2_ r3 ∧ Below w.heap.size w w':=by
 have hu65:=Try.underlying65
 have HR0_1:=Aside0.mk hr0_1
 have HC0_1:=Aside0.mk hc0_1
 clear hr0_1 hc0_1
 have HR0_2:=Aside0.mk hr0_2
 have HC0_2:=Aside0.mk hc0_2
 clear hr0_2 hc0_2
 have HB:=Aside0.mk (Below.refl w.heap.size w)
 have H:((slices_Clone_int_int_83.f l0_1).bind fun t459=>((slices_Clone_int_int_83.f l0_2).bind fun t462=>(some (a0_0,t459,t462)))) = some (r1,r2,r3):=h
 clear h
 replace H:=Option.bind_eq_some_iff.mp H
 obtain ⟨t459,A20,H⟩:=H
 replace H:((slices_Clone_int_int_83.f l0_2).bind fun t462=>(some (a0_0,t459,t462))) = some (r1,r2,r3):=H
 have A2:=Aside0.mk A20
 clear A20
 replace H:=Option.bind_eq_some_iff.mp H
 obtain ⟨t462,A30,H⟩:=H
 replace H:(some (a0_0,t459,t462)) = some (r1,r2,r3):=H
 have A3:=Aside0.mk A30
 clear A30
 simp only [Option.some.injEq,Prod.mk.injEq] at H
 obtain ⟨rfl,rfl,rfl⟩:=H
 go_enter Try.func142,Try.ntmps142
 try go_wp2_with (first|((with_reducible refine gate_dst (N:=1) rfl ?_);refine box_event ?hg (N:=1) ?hd (cs:=#[.bool a0_0,.slice A0_1 l0_1.length c0_1,.slice A0_2 l0_2.length c0_2]) (t:=65) ?hr ?_;(case hd=>rfl);(case hg=>rfl);(case hr=>first|(go_simp;done)|(go_simp;rfl));intro gb457 hg w4 hbox hb;have BK457:=Aside0.mk (hbox);have GW457:=Aside0.mk ((hZ:w.heap.size ≤ gb457));have GE457:=Aside0.mk ((hZ:w.heap.size ≤ gb457));replace HB:=Aside0.mk (below_step bH hb);clear hb hbox hg)|((with_reducible refine gate_dst (N:=2) rfl ?_);refine box_event ?hg (N:=2) ?hd (cs:=#[.bool false,.slice none 0 0,.slice none 0 0]) (t:=65) ?hr ?_;(case hd=>rfl);(case hg=>rfl);(case hr=>first|(go_simp;done)|(go_simp;rfl));intro gb458 hg w5 hbox hb;have BK458:=Aside0.mk (hbox);have GW458:=Aside0.mk ((hZ:w.heap.size ≤ gb458));have GE458:=Aside0.mk ((hZ:w.heap.size ≤ gb458));replace HB:=Aside0.mk (below_step bH hb);have NB457_458:=Aside0.mk ((nL BK457:gb457 ≠ gb458));have NB458_457:=Aside0.mk ((nG BK457:gb458 ≠ gb457));replace BK457:=Aside0.mk (blk_below (bB BK457) hb);clear hb hbox hg))
 have n0_:=Aside0.mk (blk_drew BK457.out)
 have n1_:=Aside0.mk (blk_drew BK458.out)
 have n2_:=Aside0.mk (below_drew1 HB.out)
 clear BK457
 clear BK458
 clear HB
 have BK457:=n0_
 have BK458:=n1_
 have HB:=n2_
 clear n0_ n1_ n2_
 refine start_ (n:=10) (S:=fun w'=>w'.cell? ⟨gb457,0,none⟩ = some (.bool a0_0) ∧ w'.cell? ⟨gb457,1,none⟩ = some (.slice A0_1 l0_1.length c0_1) ∧ w'.cell? ⟨gb457,2,none⟩ = some (.slice A0_2 l0_2.length c0_2)) (ds:=[]) #[false,false,false,false,false,false,false,false,false,false] (by kernel_rfl) rfl rfl ⟨(blk_cell BK457.out 0).trans rfl,(blk_cell BK457.out 1).trans rfl,(blk_cell BK457.out 2).trans rfl⟩ (fun hHeld=>?_);refine with_tabW impl_copyLit.tab1 impl_copyLit.bits1 (fun HT_ HW_=>?_)
 generalize w5.drew = w6 at BK457 BK458 HB hHeld ⊢
 refine pure_ (i:=0) (N:=some 3) (v:=?_) (a':=?_) #[true,false,false,false,false,false,false,false,false,false] rfl rfl (any_of HT_.out (by kernel_rfl)) (fun _ _ _ h=>h) (Or.inl ⟨by rfl,?_⟩) ?_ ?_
 rotate_left
 ·intro w'
  go_simp
  with_reducible rfl
 rotate_left
 ·simp only [Act.put,List.setIfInBounds_toArray,List.set_cons_zero,List.set_cons_succ,i64_w,i32_w]
  rfl
 refine pure_ (i:=2) (N:=some 5) (v:=?_) (a':=?_) #[true,false,true,false,false,false,false,false,false,false] rfl rfl (any_of HT_.out (by kernel_rfl)) (fun _ _ _ h=>h) (Or.inl ⟨by rfl,?_⟩) ?_ ?_
 rotate_left
 ·intro w'
  go_simp
  with_reducible rfl
 rotate_left
 ·simp only [Act.put,List.setIfInBounds_toArray,List.set_cons_zero,List.set_cons_succ,i64_w,i32_w]
  rfl
 refine pure_ (i:=5) (N:=some 8) (v:=?_) (a':=?_) #[true,false,true,false,false,true,false,false,false,false] rfl rfl (any_of HT_.out (by kernel_rfl)) (fun _ _ _ h=>h) (Or.inl ⟨by rfl,?_⟩) ?_ ?_
 rotate_left
 ·intro w'
  go_simp
  with_reducible rfl
 rotate_left
 ·simp only [Act.put,List.setIfInBounds_toArray,List.set_cons_zero,List.set_cons_succ,i64_w,i32_w]
  rfl
 refine take_ (i:=1) (N:=some 4) (v:=?_) (a':=?_) #[true,true,true,false,false,true,false,false,false,false] rfl rfl (take_ofW HT_.out HW_.out (by kernel_rfl)) (fun _ _ _ h=>h) (Or.inl ⟨by rfl,?_⟩) hHeld ?_ ?_
 rotate_left
 ·rintro w' ⟨s0,s1,s2⟩
  go_simp
  with_reducible rfl
 rotate_left
 ·simp only [Act.put,List.setIfInBounds_toArray,List.set_cons_zero,List.set_cons_succ,i64_w,i32_w]
  rfl
 refine take_ (i:=3) (N:=some 6) (v:=?_) (a':=?_) #[true,true,true,true,false,true,false,false,false,false] rfl rfl (take_ofW HT_.out HW_.out (by kernel_rfl)) (fun _ _ _ h=>h) (Or.inl ⟨by rfl,?_⟩) hHeld ?_ ?_
 rotate_left
 ·rintro w' ⟨s0,s1,s2⟩
  go_simp
  with_reducible rfl
 rotate_left
 ·simp only [Act.put,List.setIfInBounds_toArray,List.set_cons_zero,List.set_cons_succ,i64_w,i32_w]
  rfl
 refine take_ (i:=6) (N:=some 9) (v:=?_) (a':=?_) #[true,true,true,true,false,true,true,false,false,false] rfl rfl (take_ofW HT_.out HW_.out (by kernel_rfl)) (fun _ _ _ h=>h) (Or.inl ⟨by rfl,?_⟩) hHeld ?_ ?_
 rotate_left
 ·rintro w' ⟨s0,s1,s2⟩
  go_simp
  with_reducible rfl
 rotate_left
 ·simp only [Act.put,List.setIfInBounds_toArray,List.set_cons_zero,List.set_cons_succ,i64_w,i32_w]
  rfl
 refine one_ (i:=4) (N:=some 7) #[true,true,true,true,true,true,true,false,false,false] rfl rfl (one_of HT_.out (by kernel_rfl)) (by decide) (fun K hK=>?_)
 refine goes_ Try.func83 (by kernel_rfl) rfl #[.slice A0_1 l0_1.length c0_1] (by rfl) rfl rfl Ya ?_
 with_reducible refine (slices_Clone_int_int_83.calls _ _ l0_1 t459 _ ?side1 ?side2 A2.out).mono ?_
 (case side1=>exact sC HR0_1)
 (case side2=>exact HC0_1.out)
 rintro e w7 ⟨v460,rfl,ho0,hb⟩
 refine ⟨_,rfl,?_⟩
 have n0_:=Aside0.mk (Kd.R_lower ho0 (below_size bH))
 have n1_:=Aside0.mk (blk_below (bB BK457) hb)
 have n2_:=Aside0.mk (blk_below (bB BK458) hb)
 have n3_:=Aside0.mk (below_step bH hb)
 clear BK457
 clear BK458
 clear HB
 have HO461:=n0_
 have BK457:=n1_
 have BK458:=n2_
 have HB:=n3_
 clear n0_ n1_ n2_ n3_
 (try clear hb)
 (try clear hb2)
 (try clear hk)
 (try clear hi)
 (try clear ho0)
 refine hK.out _ _ ⟨(blk_cell BK457.out 0).trans rfl,(blk_cell BK457.out 1).trans rfl,(blk_cell BK457.out 2).trans rfl⟩ (fun hHeld=>?_)
 clear hK K
 refine norm_ (a':=?_) ?_ ?_
 rotate_left
 ·show Act.put _ (some 7) _ = _
  simp only [Act.put,List.setIfInBounds_toArray,List.set_cons_zero,List.set_cons_succ,i64_w,i32_w]
  rfl
 refine one_ (i:=7) (N:=some 10) #[true,true,true,true,true,true,true,true,false,false] rfl rfl (one_of HT_.out (by kernel_rfl)) (by decide) (fun K hK=>?_)
 refine goes_ Try.func83 (by kernel_rfl) rfl #[.slice A0_2 l0_2.length c0_2] (by rfl) rfl rfl Ya ?_
 with_reducible refine (slices_Clone_int_int_83.calls _ _ l0_2 t462 _ ?side1 ?side2 A3.out).mono ?_
 (case side1=>exact sC HR0_2)
 (case side2=>exact HC0_2.out)
 rintro e w8 ⟨v463,rfl,ho0,hb⟩
 refine ⟨_,rfl,?_⟩
 have n0_:=Aside0.mk (Kd.R_elder' (rR HO461) (Kd.R_base ho0) hb)
 have n1_:=Aside0.mk (Kd.R_lower (Kd.R_new' ho0 (Kd.R_lt (rR HO461))) (below_size bH))
 have n2_:=Aside0.mk (blk_below (bB BK457) hb)
 have n3_:=Aside0.mk (blk_below (bB BK458) hb)
 have n4_:=Aside0.mk (below_step bH hb)
 clear HO461
 clear BK457
 clear BK458
 clear HB
 have HO461:=n0_
 have HO464:=n1_
 have BK457:=n2_
 have BK458:=n3_
 have HB:=n4_
 clear n0_ n1_ n2_ n3_ n4_
 (try clear hb)
 (try clear hb2)
 (try clear hk)
 (try clear hi)
 (try clear ho0)
 obtain ⟨Ao9,co9,eo9⟩:=Kd.R_slice HO464.out
 (first|subst eo9|(injection eo9 with f1_ f2_ f3_;have f4_:=f1_.symm;have f5_:=f3_.symm;clear f1_ f2_ f3_;subst f4_;subst f5_))
 obtain ⟨Ao10,co10,eo10⟩:=Kd.R_slice HO461.out
 (first|subst eo10|(injection eo10 with f1_ f2_ f3_;have f4_:=f1_.symm;have f5_:=f3_.symm;clear f1_ f2_ f3_;subst f4_;subst f5_))
 refine hK.out _ _ ⟨(blk_cell BK457.out 0).trans rfl,(blk_cell BK457.out 1).trans rfl,(blk_cell BK457.out 2).trans rfl⟩ (fun hHeld=>?_)
 clear hK K
 refine norm_ (a':=?_) ?_ ?_
 rotate_left
 ·show Act.put _ (some 10) _ = _
  simp only [Act.put,List.setIfInBounds_toArray,List.set_cons_zero,List.set_cons_succ,i64_w,i32_w]
  rfl
 refine pure_ (i:=8) (N:=some 11) (v:=?_) (a':=?_) #[true,true,true,true,true,true,true,true,true,false] rfl rfl (any_of HT_.out (by kernel_rfl)) (fun _ _ _ h=>h) (Or.inl ⟨by rfl,?_⟩) ?_ ?_
 rotate_left
 ·intro w'
  go_simp
  with_reducible rfl
 rotate_left
 ·simp only [Act.put,List.setIfInBounds_toArray,List.set_cons_zero,List.set_cons_succ,i64_w,i32_w]
  rfl
 refine one_ (i:=9) (N:=none) #[true,true,true,true,true,true,true,true,true,true] rfl rfl (one_of HT_.out (by kernel_rfl)) (by decide) (fun K hK=>?_)
 have hs11:w8.cell? ⟨gb458,0,none⟩ = some (.bool false):=(blk_cell BK458.out 0).trans rfl
 have hfs11:=blk_frozen BK458.out 0
 have hns11_0:=NB457_458.out
 have hms11_0:=NB458_457.out
 have hs12:w8.cell? ⟨gb458,1,none⟩ = some (.slice none 0 0):=(blk_cell BK458.out 1).trans rfl
 have hfs12:=blk_frozen BK458.out 1
 have hns12_0:=NB457_458.out
 have hms12_0:=NB458_457.out
 have hs13:w8.cell? ⟨gb458,2,none⟩ = some (.slice none 0 0):=(blk_cell BK458.out 2).trans rfl
 have hfs13:=blk_frozen BK458.out 2
 have hns13_0:=NB457_458.out
 have hms13_0:=NB458_457.out
 refine skip_ (w1:=?_) (by rfl) rfl ?_ ?_
 rotate_left
 ·go_simp
  rfl
 refine hK.out _ _ ⟨((cell_far (p:=⟨gb458,_,none⟩) NB457_458.out _).trans (((cell_far (p:=⟨gb458,_,none⟩) NB457_458.out _).trans (((cell_far (p:=⟨gb458,_,none⟩) NB457_458.out _).trans (hHeld.1)))))),((cell_far (p:=⟨gb458,_,none⟩) NB457_458.out _).trans (((cell_far (p:=⟨gb458,_,none⟩) NB457_458.out _).trans (((cell_far (p:=⟨gb458,_,none⟩) NB457_458.out _).trans (hHeld.2.1)))))),((cell_far (p:=⟨gb458,_,none⟩) NB457_458.out _).trans (((cell_far (p:=⟨gb458,_,none⟩) NB457_458.out _).trans (((cell_far (p:=⟨gb458,_,none⟩) NB457_458.out _).trans (hHeld.2.2))))))⟩ (fun hHeld=>?_)
 clear hK K
 refine done_ (done_of HT_.out (by kernel_rfl)) ?_
 try go_wp2
 refine bodyPost_ret (results_cell_row rfl _ _ gb458 65 #[.bool a0_0,.slice Ao10 t459.length co10,.slice Ao9 t462.length co9] (0,0) _ rfl (by (with_reducible repeat (first|refine blk_drewN ?_ _|refine blk_drew ?_|refine blk_alloc ?_ _));refine blk_put (cs:=#[.bool a0_0,.slice Ao10 t459.length co10,.slice none 0 0]) ?_ 2 _ rfl;(with_reducible repeat (first|refine blk_drewN ?_ _|refine blk_drew ?_|refine blk_alloc ?_ _));refine blk_put (cs:=#[.bool a0_0,.slice none 0 0,.slice none 0 0]) ?_ 1 _ rfl;(with_reducible repeat (first|refine blk_drewN ?_ _|refine blk_drew ?_|refine blk_alloc ?_ _));refine blk_put (cs:=#[.bool false,.slice none 0 0,.slice none 0 0]) ?_ 0 _ rfl;(with_reducible repeat (first|refine blk_drewN ?_ _|refine blk_drew ?_|refine blk_alloc ?_ _));exact BK458.out) Try.underlying65 rfl (by kernel_rfl)) rfl ?_
 exact ⟨_,_,by first|rfl|(simp [errW_none,errW_some] <;> rfl)|(simp [*,errW_none,errW_some] <;> rfl),by (with_reducible repeat (first|apply Kd.R_alloc|apply Kd.R_drewN|apply Kd.R_drew));exact Kd.R_mono (Kd.R_far (p:=⟨gb458,2,none⟩) (Kd.R_far (p:=⟨gb458,1,none⟩) (Kd.R_far (p:=⟨gb458,0,none⟩) (Kd.R_types HO461.out BK458.out (by decide)) (fun _ hk=>hk.2) (.bool a0_0)) (fun _ hk=>hk.2) (.slice Ao10 t459.length co10)) (fun _ hk=>hk.2) (.slice Ao9 t462.length co9)) (fun _ hk=>hk.1.2),by (with_reducible repeat (first|apply Kd.R_alloc|apply Kd.R_drewN|apply Kd.R_drew));exact Kd.R_mono (Kd.R_far (p:=⟨gb458,2,none⟩) (Kd.R_far (p:=⟨gb458,1,none⟩) (Kd.R_far (p:=⟨gb458,0,none⟩) (Kd.R_types HO464.out BK458.out (by decide)) (fun _ hk=>hk.2) (.bool a0_0)) (fun _ hk=>hk.2) (.slice Ao10 t459.length co10)) (fun _ hk=>hk.2) (.slice Ao9 t462.length co9)) (fun _ hk=>hk.1.2),bH⟩

end Go.Proofs.Ytlgnanbnicmdaab.QFnExactNormalClause
