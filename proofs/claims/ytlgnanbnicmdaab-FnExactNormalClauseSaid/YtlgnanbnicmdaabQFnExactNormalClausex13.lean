-- Written by this session's own program (wip/x/xprint.py, over the kit's printer); Lean checks it.
import Derived.Test.YtlgnanbnicmdaabQFnExactNormalClausex0
import Derived.Test.YtlgnanbnicmdaabQFnExactNormalClausex11
import Derived.Test.YtlgnanbnicmdaabQFnExactNormalClausex12
namespace Go.Proofs.Ytlgnanbnicmdaab.QFnExactNormalClause
open Go.RowKit Go.Proofs.YtlgnanbnicmdaabW.PrintWords Go.Proofs.YtlgnanbnicmdaabW.PrintLast Go.Proofs.YtlgnanbnicmdaabW.PrintMore
attribute [local go_sem] max2_int min2_int max_two min_two max_three min_three max_four min_four   -- for this text's walks alone
set_option linter.unusedVariables false
set_option linter.unusedSimpArgs false

/-! ### slices_Concat_int_int: function 116 -/
mutual
def slices_Concat_int_int.l0:Nat → List (List Int) → Int → List (List Int) → Int → Int → Option (List Int)
 | 0,_,_,_,_,_=>none
 | k + 1,x0,x3,x9,x10,x11=>if x11 < x10 then (if 0 ≤ x11 then (if x11 < (x9.length:Int) then (if (wrap64 (x3 + ((rd_L2 x9 x11).length:Int))) < 0 then (none) else (slices_Concat_int_int.l0 k x0 (wrap64 (x3 + ((rd_L2 x9 x11).length:Int))) x9 x10 (wrap64 (x11 + 1)))) else (none)) else (none)) else ((slices_Grow_int_int.f x3).bind fun t413=>(slices_Concat_int_int.l1 k t413 x0 (x0.length:Int) 0))
def slices_Concat_int_int.l1:Nat → List Int → List (List Int) → Int → Int → Option (List Int)
 | 0,_,_,_,_=>none
 | k + 1,x6,x25,x26,x27=>if x27 < x26 then (if 0 ≤ x27 then (if x27 < (x25.length:Int) then (if x6.length + (rd_L2 x25 x27).length < 17592186044416 then (slices_Concat_int_int.l1 k (x6 ++ (rd_L2 x25 x27)) x25 x26 (wrap64 (x27 + 1))) else (none)) else (none)) else (none)) else (some x6)
end
def slices_Concat_int_int.f (k:Nat) (l0:List (List Int)):Option (List Int):=slices_Concat_int_int.l0 k l0 0 l0 (l0.length:Int) 0
theorem slices_Concat_int_int.mono_l:∀ k,(∀ y0 y1 y2 y3 y4,LeO (slices_Concat_int_int.l0 k y0 y1 y2 y3 y4) (slices_Concat_int_int.l0 (k + 1) y0 y1 y2 y3 y4)) ∧ (∀ y0 y1 y2 y3,LeO (slices_Concat_int_int.l1 k y0 y1 y2 y3) (slices_Concat_int_int.l1 (k + 1) y0 y1 y2 y3))
 | 0=>⟨fun _ _ _ _ _ r h=>by simp [slices_Concat_int_int.l0] at h,fun _ _ _ _ r h=>by simp [slices_Concat_int_int.l1] at h⟩
 | k + 1=>by
  obtain ⟨ih0,ih1⟩:=slices_Concat_int_int.mono_l k
  refine ⟨?_,?_⟩
  ·intro y0 y1 y2 y3 y4
   unfold slices_Concat_int_int.l0
   exact mO
  ·intro y0 y1 y2 y3
   unfold slices_Concat_int_int.l1
   exact mO
theorem slices_Concat_int_int.mono:∀ a0 k,LeO (slices_Concat_int_int.f k a0) (slices_Concat_int_int.f (k + 1) a0):=by
 intro a0 k
 obtain ⟨ih0,ih1⟩:=slices_Concat_int_int.mono_l k
 unfold slices_Concat_int_int.f
 exact mO
set_option maxHeartbeats 8000000 in
set_option maxRecDepth 100000 in
theorem slices_Concat_int_int.calls (k:Nat) (A0:Option Addr) (c0:Nat) (l0:List (List Int)) (r:List Int) (w:World) (hr0:Kd.C (Kd.slice 3 (Kd.int .i64)) w A0 l0.length l0) (hc0:l0.length ≤ c0) (h:slices_Concat_int_int.f k l0 = some r) :
  Calls Try.prog 116 #[.slice A0 l0.length c0] w fun e w'=>∃ v0_:Value,e = .returned (v0_) ∧ Kd.R (Kd.int .i64) 3 w' w.heap.size (fun _=>True) v0_ r ∧ Below w.heap.size w w':=by
 have HR0:=Aside0.mk hr0
 have HC0:=Aside0.mk hc0
 clear hr0 hc0
 have HB:=Aside0.mk (Below.refl w.heap.size w)
 have H:(slices_Concat_int_int.l0 k l0 0 l0 (l0.length:Int) 0) = some r:=h
 clear h
 have H':=Aside0.mk H
 clear H
 go_enter Try.func116,Try.ntmps116
 go_wp2
 go_loopg [3,11] k (fun kq v3 v11 w'=>∃ (x3_1:Int) (x11_1:Int),v3 = .int .i64 x3_1 ∧ v11 = .int .i64 x11_1 ∧ Aside0 (slices_Concat_int_int.l0 kq l0 x3_1 l0 (l0.length:Int) x11_1 = some r) ∧ Aside0 (kq ≤ k) ∧ Aside0 (Below w.heap.size w w'))
 case atStart=>exact ⟨(0),(0),Yb,Yb,H',⟨Nat.le_refl _⟩,⟨bH⟩⟩
 case round =>
  clear H'
  try clear c1
  obtain ⟨x3_1,x11_1,rfl,rfl,HA,HK1,HB⟩:=hrel
  cases gk with
  | zero=>exact absurd HA.out (by simp [slices_Concat_int_int.l0])
  | succ k1 =>
   have H:=HA.out
   clear HA
   simp only [slices_Concat_int_int.l0] at H
   by_cases c2:x11_1 < (l0.length:Int)
   ·rw [if_pos c2] at H
    have c2b0:=decide_eq_true c2
    clear c2
    by_cases c3:0 ≤ x11_1
    ·rw [if_pos c3] at H
     have c3b0:=decide_eq_true c3
     clear c3
     by_cases c4:x11_1 < (l0.length:Int)
     ·rw [if_pos c4] at H
      have c4b0:=decide_eq_true c4
      clear c4
      by_cases c5:(wrap64 (x3_1 + ((rd_L2 l0 x11_1).length:Int))) < 0
      ·rw [if_pos c5] at H
       exact absurd H (by simp)
      ·rw [if_neg c5] at H
       have c5b0:decide ((wrap64 (x3_1 + ((rd_L2 l0 x11_1).length:Int))) < 0) = false:=decide_eq_false c5
       clear c5
       have H':=Aside0.mk H
       clear H
       have p412:0 ≤ (x11_1:Int):=oD
       have q412:x11_1 < (l0.length:Int):=oD
       obtain ⟨ad412,A412_0,c412_0,e412,hx412_0,hl412_0,hi412_0⟩:=at_L2 HR0.out x11_1 p412 q412
       cases e412
       replace hx412_0:=(HB.out.cell (World.block_lt_of_cell? w _ hx412_0)).trans hx412_0
       have HR412_0:=Aside0.mk hi412_0
       have HC412_0:=Aside0.mk hl412_0
       clear hi412_0 hl412_0
       replace p412:=eq_true p412
       replace q412:=eq_true q412
       go_wp2
       go_roundg k1
       case measure=>have:=HK1.out;omega
       case rel=>exact ⟨(wrap64 (x3_1 + ((rd_L2 l0 x11_1).length:Int))),(wrap64 (x11_1 + 1)),Yb,Yb,H',⟨by have:=HK1.out;omega⟩,⟨bH⟩⟩
     ·rw [if_neg c4] at H
      exact absurd H (by simp)
    ·rw [if_neg c3] at H
     exact absurd H (by simp)
   ·rw [if_neg c2] at H
    have c2b0:decide (x11_1 < (l0.length:Int)) = false:=decide_eq_false c2
    clear c2
    replace H:=Option.bind_eq_some_iff.mp H
    obtain ⟨t413,A60,H⟩:=H
    replace H:(slices_Concat_int_int.l1 k1 t413 l0 (l0.length:Int) 0) = some r:=H
    have A6:=Aside0.mk A60
    clear A60
    have H':=Aside0.mk H
    clear H
    go_wp2_with (first|((with_reducible refine gate_callee (f:=134) rfl ?_);refine goesL_ (some 24) rfl rfl Try.func134 (by kernel_rfl) rfl #[.slice none 0 0,.int .i64 x3_1] rfl Ya ?_;(with_reducible refine (slices_Grow_int_int.calls  x3_1 t413 _ A6.out).mono ?_);rintro e w7 ⟨v414,rfl,ho0,hb⟩;refine ⟨_,rfl,?_⟩;have HO415:=Aside0.mk (Kd.R_lower ho0 (below_size bH));replace HB:=Aside0.mk (below_step bH hb);(try clear hb);(try clear hb2);(try clear hk);(try clear hi);(try clear ho0)))
    go_loopg [6,27] k1 (fun kq v6 v27 w'=>∃ (x6_2:List Int) (x27_2:Int),v27 = .int .i64 x27_2 ∧ Aside0 (slices_Concat_int_int.l1 kq x6_2 l0 (l0.length:Int) x27_2 = some r) ∧ Aside0 (kq ≤ k1) ∧ Aside0 (Kd.R (Kd.int .i64) 3 w' w.heap.size (fun _=>True) v6 x6_2) ∧ Aside0 (Below w.heap.size w w'))
    case atStart=>exact ⟨(t413),(0),Yb,H',⟨Nat.le_refl _⟩,⟨rR HO415⟩,⟨bH⟩⟩
    case round =>
     clear H'
     try clear c1
     try clear c2
     try clear c2b0
     try clear p2
     try clear c3
     try clear c3b0
     try clear c4
     try clear c4b0
     try clear p4
     try clear q4
     try clear hx4
     try clear c5
     try clear c5b0
     try clear p6
     try clear hx412_0
     try clear p412
     try clear q412
     obtain ⟨x6_2,x27_2,rfl,HA,HK2,HO_6,HB⟩:=hrel
     cases gk with
     | zero=>exact absurd HA.out (by simp [slices_Concat_int_int.l1])
     | succ k2 =>
      have H:=HA.out
      clear HA
      simp only [slices_Concat_int_int.l1] at H
      by_cases c8:x27_2 < (l0.length:Int)
      ·rw [if_pos c8] at H
       have c8b0:=decide_eq_true c8
       clear c8
       by_cases c9:0 ≤ x27_2
       ·rw [if_pos c9] at H
        have c9b0:=decide_eq_true c9
        clear c9
        by_cases c10:x27_2 < (l0.length:Int)
        ·rw [if_pos c10] at H
         have c10b0:=decide_eq_true c10
         clear c10
         by_cases c11:x6_2.length + (rd_L2 l0 x27_2).length < 17592186044416
         ·rw [if_pos c11] at H
          have LMc11:=Aside0.mk c11
          clear c11
          obtain ⟨y417,hy417⟩:∃ y_:List Int,y_ = (x6_2 ++ (rd_L2 l0 x27_2)):=⟨_,rfl⟩
          replace H:(slices_Concat_int_int.l1 k2 y417 l0 (l0.length:Int) (wrap64 (x27_2 + 1))) = some r:=by first|(rw [hy417];with_reducible exact H)|(have H2_:=(Option.bind_some _ _).symm.trans H;rw [hy417];with_reducible exact H2_)|(have H2_:=(Option.bind_some _ _).symm.trans H;with_reducible exact H2_)|with_reducible exact H|(rw [hy417];exact H)|exact H
          have Ny417:=Aside0.mk hy417
          clear hy417
          have H':=Aside0.mk H
          clear H
          have p416:0 ≤ (x27_2:Int):=oD
          have q416:x27_2 < (l0.length:Int):=oD
          obtain ⟨ad416,A416_0,c416_0,e416,hx416_0,hl416_0,hi416_0⟩:=at_L2 HR0.out x27_2 p416 q416
          cases e416
          replace hx416_0:=(HB.out.cell (World.block_lt_of_cell? w _ hx416_0)).trans hx416_0
          have HR416_0:=Aside0.mk hi416_0
          have HC416_0:=Aside0.mk hl416_0
          clear hi416_0 hl416_0
          replace p416:=eq_true p416
          replace q416:=eq_true q416
          go_wp2_with (first|((with_reducible refine gate_builtin (b:=.append) (xs:=#[.tmp 31,.tmp 32]) rfl ?_);at_builtin;refine Kd.R_append_rows (Kd.int .i64) (w0:=w) w.heap.size rfl (.tmp 31) (.tmp 32) 22 3 (.int .i64 0) 8 rfl Try.underlying22 info3 rfl (by decide) (by first|decide|omega) u6 x6_2 (rd_L2 l0 x27_2) _ _ _ (fun _=>True) (fun _=>False) rfl rfl ?aO ?aR (fun _ _ h=>h) (fun _ h=>h.elim) ?aF ?aB ?aS ?aL ?_;(case aR=>exact sC HR416_0);(case aB=>exact bH);(case aF=>exact (fun _ _=>trivial));(case aO=>exact (rR HO_6));(case aS=>exact (below_size bH));(case aL=>have:=LMc11.out;omega);intro v418 w12 ho hb hg hat;rw [← Ny417.out] at ho;have n0_:=Aside0.mk (hb);have n1_:=Aside0.mk (ho);clear HB;clear HO_6;have HB:=n0_;have HO419:=n1_;clear n0_ n1_;clear ho hb hg hat))
          go_roundg k2
          case measure=>have:=HK1.out;have:=HK2.out;omega
          case rel=>exact ⟨(y417),(wrap64 (x27_2 + 1)),Yb,H',⟨by have:=HK1.out;have:=HK2.out;omega⟩,⟨rR HO419⟩,⟨bH⟩⟩
         ·rw [if_neg c11] at H
          exact absurd H (by simp)
        ·rw [if_neg c10] at H
         exact absurd H (by simp)
       ·rw [if_neg c9] at H
        exact absurd H (by simp)
      ·rw [if_neg c8] at H
       have c8b0:decide (x27_2 < (l0.length:Int)) = false:=decide_eq_false c8
       clear c8
       obtain rfl:=Option.some.inj H
       go_wp2
       go_ret
       exact ⟨_,by first|rfl|(simp [errW_none,errW_some] <;> rfl)|(simp [*,errW_none,errW_some] <;> rfl),rR HO_6,bH⟩

/-! ### impl_Sign_replace: function 81 -/
def impl_Sign_replace.f (k:Nat) (l0_0:List Int) (l1:List Int) (a2:Int) (l3:List Int):Option (List Int):=if 0 ≤ a2 then (if a2 ≤ (l1.length:Int) then ((impl_Sign_end.f k l0_0 l1 a2).bind fun t426=>(if 0 ≤ t426 then (if t426 ≤ (l1.length:Int) then ((slices_Concat_int_int.f k (([(l1.take (a2:Int).toNat),l3,(l1.drop (t426:Int).toNat)]:List (List Int)))).bind fun t435=>(some t435)) else (none)) else (none))) else (none)) else (none)
theorem impl_Sign_replace.mono:∀ a0 a1 a2 a3 k,LeO (impl_Sign_replace.f k a0 a1 a2 a3) (impl_Sign_replace.f (k + 1) a0 a1 a2 a3):=by
 intro a0 a1 a2 a3 k
 unfold impl_Sign_replace.f
 have m0:=@impl_Sign_end.mono
 have m1:=@slices_Concat_int_int.mono
 exact mO
def impl_Sign_replace.T1:Bool × List (List Nat × List Nat):=(true,[([],[]),([],[]),([0,1],[0,1]),([],[]),([],[]),([],[]),([],[]),([],[]),([5,6,7],[5,6,7]),([4,8],[4,8]),([2,3,9],[2,3,9]),([10,8],[10]),([11,11,0,1,2,3,4,5,6,7,8,9,10,11],[11])])
def impl_Sign_replace.B1:List Nat:=[0,0,3,0,0,0,0,0,224,496,1023,2047,4095]
theorem impl_Sign_replace.tab1:rtab .any (opsOf Try.f81 1) = impl_Sign_replace.T1:=by kernel_rfl
theorem impl_Sign_replace.bits1:waitsOk impl_Sign_replace.T1.2 impl_Sign_replace.B1 = true:=by kernel_rfl
set_option maxHeartbeats 8000000 in
set_option maxRecDepth 100000 in
theorem impl_Sign_replace.calls (k:Nat) (A0_0:Option Addr) (c0_0:Nat) (l0_0:List Int) (P1_:Nat → Prop) (A1:Option Addr) (c1:Nat) (l1:List Int) (a2:Int) (P3_:Nat → Prop) (A3:Option Addr) (c3:Nat) (l3:List Int) (r:List Int) (w:World) (hr0_0:Kd.C (Kd.int .i64) w A0_0 l0_0.length l0_0) (hc0_0:l0_0.length ≤ c0_0) (hs1:Kd.V (Kd.int .i64) 3 w w.heap.size (fun k_=>P1_ k_) (.slice A1 l1.length c1) l1) (hs3:Kd.V (Kd.int .i64) 3 w w.heap.size (fun k_=>P3_ k_) (.slice A3 l3.length c3) l3) (h:impl_Sign_replace.f k l0_0 l1 a2 l3 = some r) :
  Calls Try.prog 81 #[.agg #[.slice A0_0 l0_0.length c0_0],.slice A1 l1.length c1,.int .i64 a2,.slice A3 l3.length c3] w fun e w'=>∃ v0_:Value,e = .returned (v0_) ∧ Kd.R (Kd.int .i64) 3 w' w.heap.size (fun k_=>(w.heap.size ≤ k_)) v0_ r ∧ Below w.heap.size w w':=by
 have hu30:=Try.underlying30
 have HR0_0:=Aside0.mk hr0_0
 have HC0_0:=Aside0.mk hc0_0
 clear hr0_0 hc0_0
 have HO1:=Aside0.mk (show Kd.V (Kd.int .i64) 3 w w.heap.size (fun k_=>((P1_ k_ ∨ P3_ k_) ∨ w.heap.size ≤ k_)) (.slice A1 l1.length c1) l1 from Kd.V_mono hs1 (fun k_ hk=>.inl (.inl hk)))
 have HO3:=Aside0.mk (show Kd.V (Kd.int .i64) 3 w w.heap.size (fun k_=>((P1_ k_ ∨ P3_ k_) ∨ w.heap.size ≤ k_)) (.slice A3 l3.length c3) l3 from Kd.V_mono hs3 (fun k_ hk=>.inl (.inr hk)))
 have HB:=Aside0.mk (Below.refl w.heap.size w)
 have H:(if 0 ≤ a2 then (if a2 ≤ (l1.length:Int) then ((impl_Sign_end.f k l0_0 l1 a2).bind fun t426=>(if 0 ≤ t426 then (if t426 ≤ (l1.length:Int) then ((slices_Concat_int_int.f k (([(l1.take (a2:Int).toNat),l3,(l1.drop (t426:Int).toNat)]:List (List Int)))).bind fun t435=>(some t435)) else (none)) else (none))) else (none)) else (none)) = some r:=h
 clear h
 by_cases c5:0 ≤ a2
 ·rw [if_pos c5] at H
  have c5b0:=eq_true c5
  have c5b1:=decide_eq_true c5
  clear c5
  by_cases c6:a2 ≤ (l1.length:Int)
  ·rw [if_pos c6] at H
   have c6b0:=eq_true c6
   have c6b1:=decide_eq_true c6
   clear c6
   obtain ⟨y421,hy421⟩:∃ y_:List Int,y_ = (l1.take (a2:Int).toNat):=⟨_,rfl⟩
   replace H:((impl_Sign_end.f k l0_0 l1 a2).bind fun t426=>(if 0 ≤ t426 then (if t426 ≤ (l1.length:Int) then ((slices_Concat_int_int.f k (([y421,l3,(l1.drop (t426:Int).toNat)]:List (List Int)))).bind fun t435=>(some t435)) else (none)) else (none))) = some r:=by first|(rw [hy421];with_reducible exact H)|(have H2_:=(Option.bind_some _ _).symm.trans H;rw [hy421];with_reducible exact H2_)|(have H2_:=(Option.bind_some _ _).symm.trans H;with_reducible exact H2_)|with_reducible exact H|(rw [hy421];exact H)|exact H
   have Ny421:=Aside0.mk hy421
   clear hy421
   replace H:=Option.bind_eq_some_iff.mp H
   obtain ⟨t426,A70,H⟩:=H
   replace H:(if 0 ≤ t426 then (if t426 ≤ (l1.length:Int) then ((slices_Concat_int_int.f k (([y421,l3,(l1.drop (t426:Int).toNat)]:List (List Int)))).bind fun t435=>(some t435)) else (none)) else (none)) = some r:=H
   have A7:=Aside0.mk A70
   clear A70
   by_cases c8:0 ≤ t426
   ·rw [if_pos c8] at H
    have c8b0:=eq_true c8
    have c8b1:=decide_eq_true c8
    clear c8
    by_cases c9:t426 ≤ (l1.length:Int)
    ·rw [if_pos c9] at H
     have c9b0:=eq_true c9
     have c9b1:=decide_eq_true c9
     clear c9
     obtain ⟨y427,hy427⟩:∃ y_:List Int,y_ = (l1.drop (t426:Int).toNat):=⟨_,rfl⟩
     replace H:((slices_Concat_int_int.f k (([y421,l3,y427]:List (List Int)))).bind fun t435=>(some t435)) = some r:=by first|(rw [hy427];with_reducible exact H)|(have H2_:=(Option.bind_some _ _).symm.trans H;rw [hy427];with_reducible exact H2_)|(have H2_:=(Option.bind_some _ _).symm.trans H;with_reducible exact H2_)|with_reducible exact H|(rw [hy427];exact H)|exact H
     have Ny427:=Aside0.mk hy427
     clear hy427
     obtain ⟨y432,hy432⟩:∃ y_:List (List Int),y_ = (([y421,l3,y427]:List (List Int))):=⟨_,rfl⟩
     replace H:((slices_Concat_int_int.f k y432).bind fun t435=>(some t435)) = some r:=by first|(rw [hy432];with_reducible exact H)|(have H2_:=(Option.bind_some _ _).symm.trans H;rw [hy432];with_reducible exact H2_)|(have H2_:=(Option.bind_some _ _).symm.trans H;with_reducible exact H2_)|with_reducible exact H|(rw [hy432];exact H)|exact H
     have Ny432:=Aside0.mk hy432
     clear hy432
     replace H:=Option.bind_eq_some_iff.mp H
     obtain ⟨t435,A100,H⟩:=H
     replace H:(some t435) = some r:=H
     have A10:=Aside0.mk A100
     clear A100
     obtain rfl:=Option.some.inj H
     go_enter Try.func81,Try.ntmps81
     try go_wp2_with (first|((with_reducible refine gate_dst (N:=4) rfl ?_);refine box_event ?hg (N:=4) ?hd (cs:=#[.slice A0_0 l0_0.length c0_0]) (t:=30) ?hr ?_;(case hd=>rfl);(case hg=>rfl);(case hr=>first|(go_simp;done)|(go_simp;rfl));intro gb420 hg w11 hbox hb;replace HO1:=Aside0.mk (Kd.V_below (Kd.V_elderB (rV HO1) gb420 (Nat.le_of_eq hg.symm)) hb);replace HO3:=Aside0.mk (Kd.V_below (Kd.V_elderB (rV HO3) gb420 (Nat.le_of_eq hg.symm)) hb);have BK420:=Aside0.mk (hbox);have GW420:=Aside0.mk ((hZ:w.heap.size ≤ gb420));have GE420:=Aside0.mk ((hZ:w.heap.size ≤ gb420));replace HB:=Aside0.mk (below_step bH hb);clear hb hbox hg))
     have n0_:=Aside0.mk (Kd.V_drew HO1.out)
     have n1_:=Aside0.mk (Kd.V_drew HO3.out)
     have n2_:=Aside0.mk (blk_drew BK420.out)
     have n3_:=Aside0.mk (below_drew1 HB.out)
     clear HO1
     clear HO3
     clear BK420
     clear HB
     have HO1:=n0_
     have HO3:=n1_
     have BK420:=n2_
     have HB:=n3_
     clear n0_ n1_ n2_ n3_
     have q13:(a2:Int) ≤ ((l1.length:Int):Int):=oD
     obtain ⟨i013,hi013,_,hsz13,_⟩:=info_parts info3
     have hroom13:l1.length ≤ c1:=(Kd.V_reads' HO1.out).2.1
     have hC13:Kd.F (Kd.int .i64) _ _ A1 l1.length l1:=(Kd.V_at (base:=w.heap.size) HO1.out).2.2
     have hcut13:=cut_to (P:=Try.prog) 22 3 .i64 Try.underlying22 hi013 A1 l1.length c1 a2 (oD) q13 hroom13
     have hr13:=Kd.F_take (m:=(a2:Int).toNat) hC13 (by omega)
     have hy13:y421.length = (a2:Int).toNat:=(by rw [Ny421.out,List.length_take];omega)
     rw [← Ny421.out] at hr13
     rw [← hy13] at hcut13
     have HO425:=Aside0.mk (show Kd.V (Kd.int .i64) 3 _ w.heap.size _ (.slice A1 y421.length c1) y421 from Kd.V_mk (by omega) hr13)
     have HC425:=Aside0.mk (show y421.length ≤ c1 from by omega)
     clear hr13 hC13 hroom13 hi013 hsz13
     have KY13:=Aside0.mk hy13
     clear hy13
     replace q13:=eq_true q13
     refine start_ (n:=13) (S:=fun w'=>w'.cell? ⟨gb420,0,none⟩ = some (.slice A0_0 l0_0.length c0_0)) (ds:=[]) #[false,false,false,false,false,false,false,false,false,false,false,false,false] (by kernel_rfl) rfl rfl ((blk_cell BK420.out 0).trans rfl) (fun hHeld=>?_);refine with_tabW impl_Sign_replace.tab1 impl_Sign_replace.bits1 (fun HT_ HW_=>?_)
     generalize w11.drew = w12 at HO1 HO3 BK420 HB HO425 hHeld ⊢
     refine pure_ (i:=0) (N:=some 9) (v:=?_) (a':=?_) #[true,false,false,false,false,false,false,false,false,false,false,false,false] rfl rfl (any_of HT_.out (by kernel_rfl)) (fun _ _ _ h=>h) (Or.inl ⟨by rfl,?_⟩) ?_ ?_
     rotate_left
     ·intro w'
      go_simp
      with_reducible rfl
     rotate_left
     ·simp only [Act.put,List.setIfInBounds_toArray,List.set_cons_zero,List.set_cons_succ,i64_w,i32_w]
      rfl
     refine pure_ (i:=1) (N:=some 10) (v:=?_) (a':=?_) #[true,true,false,false,false,false,false,false,false,false,false,false,false] rfl rfl (any_of HT_.out (by kernel_rfl)) (fun _ _ _ h=>h) (Or.inl ⟨by rfl,?_⟩) ?_ ?_
     rotate_left
     ·intro w'
      go_simp
      with_reducible rfl
     rotate_left
     ·simp only [Act.put,List.setIfInBounds_toArray,List.set_cons_zero,List.set_cons_succ,i64_w,i32_w]
      rfl
     refine pure_ (i:=2) (N:=some 11) (v:=?_) (a':=?_) #[true,true,true,false,false,false,false,false,false,false,false,false,false] rfl rfl (any_of HT_.out (by kernel_rfl)) (fun _ _ _ h=>h) (Or.inl ⟨by rfl,?_⟩) ?_ ?_
     rotate_left
     ·intro w'
      go_simp
      with_reducible rfl
     rotate_left
     ·simp only [Act.put,List.setIfInBounds_toArray,List.set_cons_zero,List.set_cons_succ,i64_w,i32_w]
      rfl
     refine pure_ (i:=3) (N:=some 12) (v:=?_) (a':=?_) #[true,true,true,true,false,false,false,false,false,false,false,false,false] rfl rfl (any_of HT_.out (by kernel_rfl)) (fun _ _ _ h=>h) (Or.inl ⟨by rfl,?_⟩) ?_ ?_
     rotate_left
     ·intro w'
      go_simp
      with_reducible rfl
     rotate_left
     ·simp only [Act.put,List.setIfInBounds_toArray,List.set_cons_zero,List.set_cons_succ,i64_w,i32_w]
      rfl
     refine pure_ (i:=4) (N:=some 13) (v:=?_) (a':=?_) #[true,true,true,true,true,false,false,false,false,false,false,false,false] rfl rfl (any_of HT_.out (by kernel_rfl)) (fun _ _ _ h=>h) (Or.inl ⟨by rfl,?_⟩) ?_ ?_
     rotate_left
     ·intro w'
      go_simp
      with_reducible rfl
     rotate_left
     ·simp only [Act.put,List.setIfInBounds_toArray,List.set_cons_zero,List.set_cons_succ,i64_w,i32_w]
      rfl
     refine pure_ (i:=6) (N:=some 15) (v:=?_) (a':=?_) #[true,true,true,true,true,false,true,false,false,false,false,false,false] rfl rfl (any_of HT_.out (by kernel_rfl)) (fun _ _ _ h=>h) (Or.inl ⟨by rfl,?_⟩) ?_ ?_
     rotate_left
     ·intro w'
      go_simp
      with_reducible rfl
     rotate_left
     ·simp only [Act.put,List.setIfInBounds_toArray,List.set_cons_zero,List.set_cons_succ,i64_w,i32_w]
      rfl
     refine pure_ (i:=7) (N:=some 16) (v:=?_) (a':=?_) #[true,true,true,true,true,false,true,true,false,false,false,false,false] rfl rfl (any_of HT_.out (by kernel_rfl)) (fun _ _ _ h=>h) (Or.inl ⟨by rfl,?_⟩) ?_ ?_
     rotate_left
     ·intro w'
      go_simp
      with_reducible rfl
     rotate_left
     ·simp only [Act.put,List.setIfInBounds_toArray,List.set_cons_zero,List.set_cons_succ,i64_w,i32_w]
      rfl
     refine take_ (i:=5) (N:=some 14) (v:=?_) (a':=?_) #[true,true,true,true,true,true,true,true,false,false,false,false,false] rfl rfl (take_ofW HT_.out HW_.out (by kernel_rfl)) (fun _ _ _ h=>h) (Or.inl ⟨by rfl,?_⟩) hHeld ?_ ?_
     rotate_left
     ·intro w' s0
      go_simp
      with_reducible rfl
     rotate_left
     ·simp only [Act.put,List.setIfInBounds_toArray,List.set_cons_zero,List.set_cons_succ,i64_w,i32_w]
      rfl
     refine one_ (i:=8) (N:=some 17) #[true,true,true,true,true,true,true,true,true,false,false,false,false] rfl rfl (one_of HT_.out (by kernel_rfl)) (by decide) (fun K hK=>?_)
     refine goes_ Try.func110 (by kernel_rfl) rfl #[.agg #[.slice A0_0 l0_0.length c0_0],.slice A1 l1.length c1,.int .i64 a2] (by rfl) rfl rfl Ya ?_
     with_reducible refine (impl_Sign_end.calls k _ _ l0_0 _ _ l1 a2 t426 _ ?side1 ?side2 ?side3 ?side4 A7.out).mono ?_
     (case side1=>exact sC HR0_0)
     (case side2=>exact HC0_0.out)
     (case side3=>repeat (first|exact (Kd.V_reads' HO1.out).2.2|(with_reducible refine Kd.C_alloc ?_ _)|(with_reducible refine Kd.C_drewN ?_ _)|(with_reducible refine Kd.C_drew ?_)))
     (case side4=>exact (Kd.V_reads' HO1.out).2.1)
     rintro e w14 ⟨rfl,hb⟩
     refine ⟨_,rfl,?_⟩
     have n0_:=Aside0.mk (Kd.V_below (rV HO1) hb)
     have n1_:=Aside0.mk (Kd.V_below (rV HO3) hb)
     have n2_:=Aside0.mk (Kd.V_below (rV HO425) hb)
     have n3_:=Aside0.mk (blk_below (bB BK420) hb)
     have n4_:=Aside0.mk (below_step bH hb)
     clear HO1
     clear HO3
     clear HO425
     clear BK420
     clear HB
     have HO1:=n0_
     have HO3:=n1_
     have HO425:=n2_
     have BK420:=n3_
     have HB:=n4_
     clear n0_ n1_ n2_ n3_ n4_
     (try clear hb)
     (try clear hb2)
     (try clear hk)
     (try clear hi)
     have q15:(t426:Int) ≤ ((l1.length:Int):Int):=oD
     obtain ⟨i015,hi015,_,hsz15,_⟩:=info_parts info3
     have hroom15:l1.length ≤ c1:=(Kd.V_reads' HO1.out).2.1
     have hC15:Kd.F (Kd.int .i64) _ _ A1 l1.length l1:=(Kd.V_at (base:=w.heap.size) HO1.out).2.2
     have q015:(0:Int) ≤ (t426:Int):=oD
     have hcut15:=cut_from (P:=Try.prog) 22 3 .i64 Try.underlying22 hi015 1 hsz15 A1 l1.length c1 t426 q015 q15
     have hr15:=Kd.F_cut (m:=(t426:Int).toNat) (c:=c1) hC15 (by omega) hroom15
     obtain ⟨A15,hA15⟩:∃ A1_,A1_ = (if c1 = (t426:Int).toNat then A1 else (A1:Option Addr).map (·.add ((t426:Int).toNat * 1))):=⟨_,rfl⟩
     obtain ⟨c15,hc15⟩:∃ c1_,c1_ = c1 - (t426:Int).toNat:=⟨_,rfl⟩
     have hy15:y427.length = l1.length - (t426:Int).toNat:=(by rw [Ny427.out,List.length_drop] <;> omega)
     rw [show (l1).drop (t426:Int).toNat = y427 from Ny427.out.symm] at hr15
     replace hr15:Kd.F (Kd.int .i64) _ _ A15 y427.length y427:=(by rw [hA15];exact hr15)
     rw [← hy15,← hA15,← hc15] at hcut15
     have HO431:=Aside0.mk (show Kd.V (Kd.int .i64) 3 _ w.heap.size _ (.slice A15 y427.length c15) y427 from Kd.V_mk (by rw [hy15,hc15];exact Nat.sub_le_sub_right hroom15 _) hr15)
     have HC431:=Aside0.mk (show y427.length ≤ c15 from by rw [hy15,hc15];exact Nat.sub_le_sub_right hroom15 _)
     clear hr15 hC15 hroom15 hi015 hsz15 hc15
     have KY15:=Aside0.mk hy15
     have KA15:=Aside0.mk hA15
     clear hy15 hA15
     replace q15:=eq_true q15
     refine hK.out _ _ ((blk_cell BK420.out 0).trans rfl) (fun hHeld=>?_)
     clear hK K
     refine norm_ (a':=?_) ?_ ?_
     rotate_left
     ·show Act.put _ (some 17) _ = _
      simp only [Act.put,List.setIfInBounds_toArray,List.set_cons_zero,List.set_cons_succ,i64_w,i32_w]
      rfl
     refine pure_ (i:=9) (N:=some 18) (v:=?_) (a':=?_) #[true,true,true,true,true,true,true,true,true,true,false,false,false] rfl rfl (any_of HT_.out (by kernel_rfl)) (fun _ _ _ h=>h) (Or.inl ⟨by rfl,?_⟩) ?_ ?_
     rotate_left
     ·intro w'
      go_simp
      with_reducible rfl
     rotate_left
     ·simp only [Act.put,List.setIfInBounds_toArray,List.set_cons_zero,List.set_cons_succ,i64_w,i32_w]
      rfl
     refine one_ (i:=10) (N:=some 19) #[true,true,true,true,true,true,true,true,true,true,true,false,false] rfl rfl (one_of HT_.out (by kernel_rfl)) (by decide) (fun K hK=>?_)
     refine Kd.N_lit_step (Kd.slice 3 (Kd.int .i64)) _ 22 ?hg (N':=19) ?hd (xs:=([y421,l3,y427]:List (List Int))) (inner:=[.slice A1 y421.length c1,.slice A3 l3.length c3,.slice A15 y427.length c15]) (ok:=(fun k_=>((P1_ k_ ∨ P3_ k_) ∨ w.heap.size ≤ k_) ∧ k_ ≠ gb420)) (okp:=(fun k_=>((P1_ k_ ∨ P3_ k_) ∨ w.heap.size ≤ k_) ∧ k_ ≠ gb420)) ?hr ?hp (fun _ hk=>hk) ((show ∀ k_,w14.heap.size ≤ k_ → (fun k_=>((P1_ k_ ∨ P3_ k_) ∨ w.heap.size ≤ k_) ∧ k_ ≠ gb420) k_ from fun k_ hk=>⟨(.inr (Nat.le_trans (below_size bH) hk)),Kd.freshB (bB BK420) k_ hk⟩) _ (Nat.le_refl _)) (Below.refl _ _) (Nat.le_refl _) (by simp) ?_;(case hd=>rfl);(case hg=>rfl);(case hr=>first|(go_simp;done)|(go_simp;rfl));(case hp=>exact (Reps.one (show Kd.FK (Kd.slice 3 (Kd.int .i64)) _ _ y421 [.slice A1 y421.length c1] from (Kd.FK_slice_mk (Kd.V_reads' (Kd.V_mono (ok':=(fun k_=>((P1_ k_ ∨ P3_ k_) ∨ w.heap.size ≤ k_) ∧ k_ ≠ gb420)) (HO425.out) (fun k_ hk=>⟨hk.1,hk.2⟩))).2.1 (Kd.V_F (Kd.V_mono (ok':=(fun k_=>((P1_ k_ ∨ P3_ k_) ∨ w.heap.size ≤ k_) ∧ k_ ≠ gb420)) (HO425.out) (fun k_ hk=>⟨hk.1,hk.2⟩))))) (Reps.one (show Kd.FK (Kd.slice 3 (Kd.int .i64)) _ _ l3 [.slice A3 l3.length c3] from (Kd.FK_slice_mk (Kd.V_reads' (Kd.V_mono (ok':=(fun k_=>((P1_ k_ ∨ P3_ k_) ∨ w.heap.size ≤ k_) ∧ k_ ≠ gb420)) (HO3.out) (fun k_ hk=>⟨hk.1,hk.2⟩))).2.1 (Kd.V_F (Kd.V_mono (ok':=(fun k_=>((P1_ k_ ∨ P3_ k_) ∨ w.heap.size ≤ k_) ∧ k_ ≠ gb420)) (HO3.out) (fun k_ hk=>⟨hk.1,hk.2⟩))))) (Reps.one (show Kd.FK (Kd.slice 3 (Kd.int .i64)) _ _ y427 [.slice A15 y427.length c15] from (Kd.FK_slice_mk (Kd.V_reads' (Kd.V_mono (ok':=(fun k_=>((P1_ k_ ∨ P3_ k_) ∨ w.heap.size ≤ k_) ∧ k_ ≠ gb420)) (HO431.out) (fun k_ hk=>⟨hk.1,hk.2⟩))).2.1 (Kd.V_F (Kd.V_mono (ok':=(fun k_=>((P1_ k_ ∨ P3_ k_) ∨ w.heap.size ≤ k_) ∧ k_ ≠ gb420)) (HO431.out) (fun k_ hk=>⟨hk.1,hk.2⟩))))) (Reps.none _ _)))))
     intro v433 w16 ho17 hb hg_ hnew_
     clear hg_ hnew_
     (first|rw [← Ny432.out] at ho17|(simp only [Int.reduceToNat] at ho17;rw [← Ny432.out] at ho17))
     have n0_:=Aside0.mk (Kd.V_elder' (rV HO1) (Kd.N_base ho17) hb)
     have n1_:=Aside0.mk (Kd.V_elder' (rV HO3) (Kd.N_base ho17) hb)
     have n2_:=Aside0.mk (Kd.V_elder' (rV HO425) (Kd.N_base ho17) hb)
     have n3_:=Aside0.mk (Kd.V_elder' (rV HO431) (Kd.N_base ho17) hb)
     have n4_:=Aside0.mk (Kd.N_lower ho17 (below_size bH))
     have n5_:=Aside0.mk (blk_below (bB BK420) hb)
     have n6_:=Aside0.mk (below_step bH hb)
     clear HO1
     clear HO3
     clear HO425
     clear HO431
     clear BK420
     clear HB
     have HO1:=n0_
     have HO3:=n1_
     have HO425:=n2_
     have HO431:=n3_
     have HO434:=n4_
     have BK420:=n5_
     have HB:=n6_
     clear n0_ n1_ n2_ n3_ n4_ n5_ n6_
     clear hb ho17
     obtain ⟨Ao18,co18,eo18⟩:=Kd.N_slice HO434.out
     (first|subst eo18|(injection eo18 with f1_ f2_ f3_;have f4_:=f1_.symm;have f5_:=f3_.symm;clear f1_ f2_ f3_;subst f4_;subst f5_))
     refine hK.out _ _ ((blk_cell BK420.out 0).trans rfl) (fun hHeld=>?_)
     clear hK K
     refine norm_ (a':=?_) ?_ ?_
     rotate_left
     ·show Act.put _ (some 19) _ = _
      simp only [Act.put,List.setIfInBounds_toArray,List.set_cons_zero,List.set_cons_succ,i64_w,i32_w]
      rfl
     refine one_ (i:=11) (N:=some 20) #[true,true,true,true,true,true,true,true,true,true,true,true,false] rfl rfl (one_of HT_.out (by kernel_rfl)) (by decide) (fun K hK=>?_)
     refine goes_ Try.func116 (by kernel_rfl) rfl #[.slice Ao18 y432.length co18] (by rfl) rfl rfl Ya ?_
     with_reducible refine (slices_Concat_int_int.calls k _ _ y432 t435 _ ?side1 ?side2 A10.out).mono ?_
     (case side1=>repeat (first|exact (Kd.N_reads' HO434.out).2.2|(with_reducible refine Kd.C_alloc ?_ _)|(with_reducible refine Kd.C_drewN ?_ _)|(with_reducible refine Kd.C_drew ?_)))
     (case side2=>exact (Kd.N_reads' HO434.out).2.1)
     rintro e w19 ⟨v436,rfl,ho0,hb⟩
     refine ⟨_,rfl,?_⟩
     have n0_:=Aside0.mk (Kd.V_elder' (rV HO1) (Kd.R_base ho0) hb)
     have n1_:=Aside0.mk (Kd.V_elder' (rV HO3) (Kd.R_base ho0) hb)
     have n2_:=Aside0.mk (Kd.V_elder' (rV HO425) (Kd.R_base ho0) hb)
     have n3_:=Aside0.mk (Kd.V_elder' (rV HO431) (Kd.R_base ho0) hb)
     have n4_:=Aside0.mk (Kd.N_elder' (rN HO434) (Kd.R_base ho0) hb)
     have n5_:=Aside0.mk (Kd.R_lower (Kd.R_newM (M:=fun k_=>(w.heap.size ≤ k_)) ho0 (below_size bH) (fun k_ h_=>h_)) (below_size bH))
     have n6_:=Aside0.mk (blk_below (bB BK420) hb)
     have n7_:=Aside0.mk (below_step bH hb)
     clear HO1
     clear HO3
     clear HO425
     clear HO431
     clear HO434
     clear BK420
     clear HB
     have HO1:=n0_
     have HO3:=n1_
     have HO425:=n2_
     have HO431:=n3_
     have HO434:=n4_
     have HO437:=n5_
     have BK420:=n6_
     have HB:=n7_
     clear n0_ n1_ n2_ n3_ n4_ n5_ n6_ n7_
     (try clear hb)
     (try clear hb2)
     (try clear hk)
     (try clear hi)
     (try clear ho0)
     refine hK.out _ _ ((blk_cell BK420.out 0).trans rfl) (fun hHeld=>?_)
     clear hK K
     refine norm_ (a':=?_) ?_ ?_
     rotate_left
     ·show Act.put _ (some 20) _ = _
      simp only [Act.put,List.setIfInBounds_toArray,List.set_cons_zero,List.set_cons_succ,i64_w,i32_w]
      rfl
     refine pure_ (i:=12) (N:=some 8) (v:=?_) (a':=?_) #[true,true,true,true,true,true,true,true,true,true,true,true,true] rfl rfl (any_of HT_.out (by kernel_rfl)) (fun _ _ _ h=>h) (Or.inl ⟨by rfl,?_⟩) ?_ ?_
     rotate_left
     ·intro w'
      go_simp
      with_reducible rfl
     rotate_left
     ·simp only [Act.put,List.setIfInBounds_toArray,List.set_cons_zero,List.set_cons_succ,i64_w,i32_w]
      rfl
     refine done_ (done_of HT_.out (by kernel_rfl)) ?_
     try go_wp2
     go_ret
     exact ⟨_,by first|rfl|(simp [errW_none,errW_some] <;> rfl)|(simp [*,errW_none,errW_some] <;> rfl),by (with_reducible repeat (first|apply Kd.R_alloc|apply Kd.R_drewN|apply Kd.R_drew));exact Kd.R_mono HO437.out (fun _ hk=>hk.1),bH⟩
    ·rw [if_neg c9] at H
     exact absurd H (by simp)
   ·rw [if_neg c8] at H
    exact absurd H (by simp)
  ·rw [if_neg c6] at H
   exact absurd H (by simp)
 ·rw [if_neg c5] at H
  exact absurd H (by simp)

end Go.Proofs.Ytlgnanbnicmdaab.QFnExactNormalClause
