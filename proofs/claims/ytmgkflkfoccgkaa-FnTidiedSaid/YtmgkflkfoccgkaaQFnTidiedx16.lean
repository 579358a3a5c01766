-- Written by this session's own program (wip/x/xprint.py, over the kit's printer); Lean checks it.
import Derived.Test.YtmgkflkfoccgkaaQFnTidiedx0
import Derived.Test.YtmgkflkfoccgkaaQFnTidiedx11
namespace Go.Proofs.Ytmgkflkfoccgkaa.QFnTidied
open Go.RowKit Go.Proofs.YtmgkflkfoccgkaaW.PrintWords Go.Proofs.YtmgkflkfoccgkaaW.PrintLast Go.Proofs.YtmgkflkfoccgkaaW.PrintMore
attribute [local go_sem] max2_int min2_int max_two min_two max_three min_three max_four min_four   -- for this text's walks alone
set_option linter.unusedVariables false
set_option linter.unusedSimpArgs false

/-! ### spec_l4Tautology: function 64 -/
mutual
def spec_l4Tautology.l0:Nat → List (S83) → List (S83) → Int → Int → Option (Bool)
 | 0,_,_,_,_=>none
 | k + 1,x0,x7,x8,x9=>if x9 < x8 then (if 0 ≤ x9 then (if x9 < (x7.length:Int) then (if (rd_T83 x7 x9).f0 = true then ((spec_l1Same.f k ((rd_T83 x7 x9).f1) ((rd_T83 x7 x9).f2)).bind fun t465=>(spec_l4Tautology.j1 k x0 x9 x7 x8 x9 t465 ((rd_T83 x7 x9).f0) ((rd_T83 x7 x9).f1) ((rd_T83 x7 x9).f2))) else (spec_l4Tautology.j1 k x0 x9 x7 x8 x9 false ((rd_T83 x7 x9).f0) ((rd_T83 x7 x9).f1) ((rd_T83 x7 x9).f2))) else (none)) else (none)) else (some false)
def spec_l4Tautology.j1:Nat → List (S83) → Int → List (S83) → Int → Int → Bool → Bool → List Int → List Int → Option (Bool)
 | 0,_,_,_,_,_,_,_,_,_=>none
 | k + 1,x0,x3,x7,x8,x9,x22,x465000,x465001,x465002=>if x22 = true then (some true) else (if 0 ≤ x3 then (if x3 ≤ (x0.length:Int) then ((some (x0.take (x3:Int).toNat:List (S83))).bind fun y466=>(spec_l4Tautology.l1 k x0 x7 x8 x9 y466 (y466.length:Int) 0 x465000 x465001 x465002)) else (none)) else (none))
def spec_l4Tautology.l1:Nat → List (S83) → List (S83) → Int → Int → List (S83) → Int → Int → Bool → List Int → List Int → Option (Bool)
 | 0,_,_,_,_,_,_,_,_,_,_=>none
 | k + 1,x0,x7,x8,x9,x25,x26,x27,x465000,x465001,x465002=>if x27 < x26 then (if 0 ≤ x27 then (if x27 < (x25.length:Int) then (if (x465000 != ((rd_T83 x25 x27).f0)) = true then ((spec_l4SameTerms.f k x465000 x465001 x465002 ((rd_T83 x25 x27).f0) ((rd_T83 x25 x27).f1) ((rd_T83 x25 x27).f2)).bind fun t472=>(if t472 = true then (some true) else (spec_l4Tautology.l1 k x0 x7 x8 x9 x25 x26 (wrap64 (x27 + 1)) x465000 x465001 x465002))) else (spec_l4Tautology.l1 k x0 x7 x8 x9 x25 x26 (wrap64 (x27 + 1)) x465000 x465001 x465002)) else (none)) else (none)) else (spec_l4Tautology.l0 k x0 x7 x8 (wrap64 (x9 + 1)))
end
def spec_l4Tautology.f (k:Nat) (l0:List (S83)):Option (Bool):=spec_l4Tautology.l0 k l0 l0 (l0.length:Int) 0
theorem spec_l4Tautology.mono_l:∀ k,(∀ y0 y1 y2 y3,LeO (spec_l4Tautology.l0 k y0 y1 y2 y3) (spec_l4Tautology.l0 (k + 1) y0 y1 y2 y3)) ∧ (∀ y0 y1 y2 y3 y4 y5 y6 y7 y8,LeO (spec_l4Tautology.j1 k y0 y1 y2 y3 y4 y5 y6 y7 y8) (spec_l4Tautology.j1 (k + 1) y0 y1 y2 y3 y4 y5 y6 y7 y8)) ∧ (∀ y0 y1 y2 y3 y4 y5 y6 y7 y8 y9,LeO (spec_l4Tautology.l1 k y0 y1 y2 y3 y4 y5 y6 y7 y8 y9) (spec_l4Tautology.l1 (k + 1) y0 y1 y2 y3 y4 y5 y6 y7 y8 y9))
 | 0=>⟨fun _ _ _ _ r h=>by simp [spec_l4Tautology.l0] at h,fun _ _ _ _ _ _ _ _ _ r h=>by simp [spec_l4Tautology.j1] at h,fun _ _ _ _ _ _ _ _ _ _ r h=>by simp [spec_l4Tautology.l1] at h⟩
 | k + 1=>by
  obtain ⟨ih0,ih1,ih2⟩:=spec_l4Tautology.mono_l k
  refine ⟨?_,?_,?_⟩
  ·intro y0 y1 y2 y3
   unfold spec_l4Tautology.l0
   have m0:=@spec_l1Same.mono
   have m1:=@spec_l4SameTerms.mono
   exact mO
  ·intro y0 y1 y2 y3 y4 y5 y6 y7 y8
   unfold spec_l4Tautology.j1
   have m0:=@spec_l1Same.mono
   have m1:=@spec_l4SameTerms.mono
   exact mO
  ·intro y0 y1 y2 y3 y4 y5 y6 y7 y8 y9
   unfold spec_l4Tautology.l1
   have m0:=@spec_l1Same.mono
   have m1:=@spec_l4SameTerms.mono
   exact mO
theorem spec_l4Tautology.mono:∀ a0 k,LeO (spec_l4Tautology.f k a0) (spec_l4Tautology.f (k + 1) a0):=by
 intro a0 k
 obtain ⟨ih0,ih1,ih2⟩:=spec_l4Tautology.mono_l k
 unfold spec_l4Tautology.f
 have m0:=@spec_l1Same.mono
 have m1:=@spec_l4SameTerms.mono
 exact mO
set_option maxHeartbeats 8000000 in
set_option maxRecDepth 100000 in
theorem spec_l4Tautology.calls (k:Nat) (A0:Option Addr) (c0:Nat) (l0:List (S83)) (r:Bool) (w:World) (hr0:Kd.C k83 w A0 l0.length l0) (hc0:l0.length ≤ c0) (h:spec_l4Tautology.f k l0 = some r) :
  Calls Try.prog 64 #[.slice A0 l0.length c0] w fun e w'=>e = .returned (.bool r) ∧ Below w.heap.size w w':=by
 have hu83:=Try.underlying83
 have HR0:=Aside0.mk hr0
 have HC0:=Aside0.mk hc0
 clear hr0 hc0
 have HB:=Aside0.mk (Below.refl w.heap.size w)
 have H:(spec_l4Tautology.l0 k l0 l0 (l0.length:Int) 0) = some r:=h
 clear h
 have H':=Aside0.mk H
 clear H
 go_enter Try.func64,Try.ntmps64
 go_wp2
 go_loopg [9] k (fun kq v9 w'=>∃ (x9_1:Int),v9 = .int .i64 x9_1 ∧ Aside0 (spec_l4Tautology.l0 kq l0 l0 (l0.length:Int) x9_1 = some r) ∧ Aside0 (kq ≤ k) ∧ Aside0 (Below w.heap.size w w'))
 case atStart=>exact ⟨(0),Yd,H',⟨Nat.le_refl _⟩,⟨bH⟩⟩
 case round =>
  clear H'
  obtain ⟨x9_1,rfl,HA,HK1,HB⟩:=hrel
  cases gk with
  | zero=>exact absurd HA.out (by simp [spec_l4Tautology.l0])
  | succ k1 =>
   have H:=HA.out
   clear HA
   simp only [spec_l4Tautology.l0] at H
   by_cases c2:x9_1 < (l0.length:Int)
   ·rw [if_pos c2] at H
    have c2b0:=decide_eq_true c2
    clear c2
    replace H:=gI H;obtain ⟨c3b0,H⟩:=H
    replace H:=gI H;obtain ⟨c4b0,H⟩:=H
    have HC5:=Aside0.mk H
    clear H
    have p463:0 ≤ (x9_1:Int):=oD
    have q463:x9_1 < (l0.length:Int):=oD
    obtain ⟨ad463,A463_1,c463_1,A463_2,c463_2,e463,hx463_0,hx463_1,hx463_2,hl463_1,hi463_1,hl463_2,hi463_2⟩:=at_T83 HR0.out x9_1 p463 q463
    cases e463
    replace hx463_0:=(HB.out.cell (World.block_lt_of_cell? w _ hx463_0)).trans hx463_0
    replace hx463_1:=(HB.out.cell (World.block_lt_of_cell? w _ hx463_1)).trans hx463_1
    replace hx463_2:=(HB.out.cell (World.block_lt_of_cell? w _ hx463_2)).trans hx463_2
    have HR463_1:=Aside0.mk hi463_1
    have HC463_1:=Aside0.mk hl463_1
    clear hi463_1 hl463_1
    have HR463_2:=Aside0.mk hi463_2
    have HC463_2:=Aside0.mk hl463_2
    clear hi463_2 hl463_2
    replace p463:=eq_true p463
    replace q463:=eq_true q463
    go_upto_region 4 with (first|(refine xB 4 #[.bool false,.slice none 0 0,.slice none 0 0] 83 ?_;intro gb464 hg w6 hbox hb;have BK464:=Aside0.mk (hbox);have GW464:=gZ w gb464;have GE464:=GW464;replace HB:=bS hb;clear hb hbox hg;have hcz7_0:=qc3_0 BK464;have hcz7_1:=qc3_1 BK464;have hcz7_2:=qc3_2 BK464;have hfz7_0:=fz BK464 0;have hfz7_1:=fz BK464 1;have hfz7_2:=fz BK464 2))
    (try simp only [Act.put,List.setIfInBounds_toArray,List.set_cons_zero,List.set_cons_succ])
    go_cut [22] (fun v22 wc=>∃ (kq:Nat) (x22_4:Bool),v22 = .bool x22_4 ∧ Aside0 (spec_l4Tautology.j1 kq l0 x9_1 l0 (l0.length:Int) x9_1 x22_4 ((rd_T83 l0 x9_1).f0) ((rd_T83 l0 x9_1).f1) ((rd_T83 l0 x9_1).f2) = some r) ∧ Aside0 (kq ≤ k1) ∧ Aside0 (wc.heap[gb464]? = some (.cells #[.bool ((rd_T83 l0 x9_1).f0),(.slice A463_1 ((rd_T83 l0 x9_1).f1).length c463_1),(.slice A463_2 ((rd_T83 l0 x9_1).f2).length c463_2)] 83 (0,0))) ∧ Aside0 (Below w.heap.size w wc))
    case first =>
     have H:=HC5.out
     clear HC5
     obtain ⟨bq8,hbq8⟩:∃ b_:Bool,b_ = ((rd_T83 l0 x9_1).f0):=⟨_,rfl⟩
     replace H:(if bq8 = true then ((spec_l1Same.f k1 ((rd_T83 l0 x9_1).f1) ((rd_T83 l0 x9_1).f2)).bind fun t465=>(spec_l4Tautology.j1 k1 l0 x9_1 l0 (l0.length:Int) x9_1 t465 bq8 ((rd_T83 l0 x9_1).f1) ((rd_T83 l0 x9_1).f2))) else (spec_l4Tautology.j1 k1 l0 x9_1 l0 (l0.length:Int) x9_1 false bq8 ((rd_T83 l0 x9_1).f1) ((rd_T83 l0 x9_1).f2))) = some r:=by rw [← hbq8] at H;exact H
     have Nbq8:=Aside0.mk hbq8
     clear hbq8
     (try rw [← Nbq8.out])
     by_cases c9:bq8 = true
     ·subst c9
      replace H:=pT H
      replace H:=bI H;obtain ⟨t465,A10,H⟩:=H
      have H':=Aside0.mk H
      clear H
      have hcz11_0:=qc3_0 BK464
      have hcz11_1:=qc3_1 BK464
      have hcz11_2:=qc3_2 BK464
      have hfz11_0:=fz BK464 0
      have hfz11_1:=fz BK464 1
      have hfz11_2:=fz BK464 2
      go_wp2_with (first|(go_at_call 101;(with_reducible refine (spec_l1Same.calls k1 _ _ ((rd_T83 l0 x9_1).f1) _ _ ((rd_T83 l0 x9_1).f2) t465 _ ?side1 ?side2 ?side3 ?side4 A10.out).mono ?_);(case side1=>exact Kd.C_below HR463_1.out bH);(case side2=>exact HC463_1.out);(case side3=>exact Kd.C_below HR463_2.out bH);(case side4=>exact HC463_2.out);rintro e w' ⟨rfl,⟨nd,rfl⟩⟩))
      go_meet
      case rel=>(rw [← Nbq8.out];exact ⟨_,(t465),Yd,H',⟨YZ⟩,⟨by (with_reducible repeat (first|refine blk_drewN ?_ _|refine blk_drew ?_|refine blk_alloc ?_ _));refine blk_put (cs:=#[.bool (true),.slice A463_1 ((rd_T83 l0 x9_1).f1).length c463_1,.slice none 0 0]) ?_ 2 _ rfl;(with_reducible repeat (first|refine blk_drewN ?_ _|refine blk_drew ?_|refine blk_alloc ?_ _));refine blk_put (cs:=#[.bool (true),.slice none 0 0,.slice none 0 0]) ?_ 1 _ rfl;(with_reducible repeat (first|refine blk_drewN ?_ _|refine blk_drew ?_|refine blk_alloc ?_ _));refine blk_put (cs:=#[.bool false,.slice none 0 0,.slice none 0 0]) ?_ 0 _ rfl;(with_reducible repeat (first|refine blk_drewN ?_ _|refine blk_drew ?_|refine blk_alloc ?_ _));exact BK464.out⟩,⟨bH⟩⟩)
     ·replace c9:=Bool.eq_false_iff.mpr c9
      subst c9
      replace H:=pF H
      have H':=Aside0.mk H
      clear H
      have hcz12_0:=qc3_0 BK464
      have hcz12_1:=qc3_1 BK464
      have hcz12_2:=qc3_2 BK464
      have hfz12_0:=fz BK464 0
      have hfz12_1:=fz BK464 1
      have hfz12_2:=fz BK464 2
      go_wp2
      go_meet
      case rel=>(rw [← Nbq8.out];exact ⟨_,(false),Yd,H',⟨YZ⟩,⟨by (with_reducible repeat (first|refine blk_drewN ?_ _|refine blk_drew ?_|refine blk_alloc ?_ _));refine blk_put (cs:=#[.bool (false),.slice A463_1 ((rd_T83 l0 x9_1).f1).length c463_1,.slice none 0 0]) ?_ 2 _ rfl;(with_reducible repeat (first|refine blk_drewN ?_ _|refine blk_drew ?_|refine blk_alloc ?_ _));refine blk_put (cs:=#[.bool (false),.slice none 0 0,.slice none 0 0]) ?_ 1 _ rfl;(with_reducible repeat (first|refine blk_drewN ?_ _|refine blk_drew ?_|refine blk_alloc ?_ _));refine blk_put (cs:=#[.bool false,.slice none 0 0,.slice none 0 0]) ?_ 0 _ rfl;(with_reducible repeat (first|refine blk_drewN ?_ _|refine blk_drew ?_|refine blk_alloc ?_ _));exact BK464.out⟩,⟨bH⟩⟩)
    case rest =>
     clear HC5
     (try clear c2);(try clear c2b0);(try clear c3b0);(try clear c4b0);(try clear c9);(try clear hcz11_0);(try clear hcz11_1);(try clear hcz11_2);(try clear hcz12_0);(try clear hcz12_1);(try clear hcz12_2);(try clear hcz7_0);(try clear hcz7_1);(try clear hcz7_2);(try clear hfz11_0);(try clear hfz11_1);(try clear hfz11_2);(try clear hfz12_0);(try clear hfz12_1);(try clear hfz12_2);(try clear hfz7_0);(try clear hfz7_1);(try clear hfz7_2);(try clear hx463_0);(try clear hx463_1);(try clear hx463_2);(try clear p463);(try clear q463)
     obtain ⟨kq,x22_4,rfl,HA,HJ4,BK464,HB⟩:=hcut
     cases kq with
     | zero=>exact absurd HA.out (by simp [spec_l4Tautology.j1])
     | succ kj4 =>
      have H:=HA.out
      clear HA
      simp only [spec_l4Tautology.j1] at H
      by_cases c13:x22_4 = true
      ·subst c13
       replace H:=pT H
       obtain rfl:=Option.some.inj H
       go_wp2
       go_ret
       exact ⟨Yb,bH⟩
      ·replace c13:=Bool.eq_false_iff.mpr c13
       subst c13
       replace H:=pF H
       replace H:=gJ H;obtain ⟨c14,H⟩:=H
       have c14b0:=eq_true c14
       have c14b1:=decide_eq_true c14
       clear c14
       replace H:=gJ H;obtain ⟨c15,H⟩:=H
       have c15b0:=eq_true c15
       have c15b1:=decide_eq_true c15
       clear c15
       obtain ⟨y466,hy466⟩:∃ y_:List (S83),y_ = (l0.take (x9_1:Int).toNat):=⟨_,rfl⟩
       replace H:(spec_l4Tautology.l1 kj4 l0 l0 (l0.length:Int) x9_1 y466 (y466.length:Int) 0 ((rd_T83 l0 x9_1).f0) ((rd_T83 l0 x9_1).f1) ((rd_T83 l0 x9_1).f2)) = some r:=by first|(rw [hy466];with_reducible exact H)|(have H2_:=(Option.bind_some _ _).symm.trans H;rw [hy466];with_reducible exact H2_)|(have H2_:=(Option.bind_some _ _).symm.trans H;with_reducible exact H2_)|with_reducible exact H|(rw [hy466];exact H)|exact H
       have Ny466:=Aside0.mk hy466
       clear hy466
       have H':=Aside0.mk H
       clear H
       have q16:(x9_1:Int) ≤ ((l0.length:Int):Int):=oD
       obtain ⟨i016,hi016,_,hsz16,_⟩:=info_parts info83
       have hroom16:l0.length ≤ c0:=HC0.out
       have hC16:Kd.C k83 _ (some ad463) l0.length l0:=HR0.out
       have hcut16:=cut_to (P:=Try.prog) 40 83 .i64 Try.underlying40 hi016 (some ad463) l0.length c0 x9_1 (oD) q16 hroom16
       have hr16:=Kd.C_take (m:=(x9_1:Int).toNat) hC16 (by omega)
       have hy16:y466.length = (x9_1:Int).toNat:=(by rw [Ny466.out,List.length_take];omega)
       rw [← Ny466.out] at hr16
       rw [← hy16] at hcut16
       have HR469:=Aside0.mk hr16
       have HC469:=Aside0.mk (show y466.length ≤ c0 from by omega)
       clear hr16 hC16 hroom16 hi016 hsz16
       have KY16:=Aside0.mk hy16
       clear hy16
       replace q16:=eq_true q16
       go_wp2
       go_loopg [27] kj4 (fun kq v27 w'=>∃ (x27_3:Int),v27 = .int .i64 x27_3 ∧ Aside0 (spec_l4Tautology.l1 kq l0 l0 (l0.length:Int) x9_1 y466 (y466.length:Int) x27_3 ((rd_T83 l0 x9_1).f0) ((rd_T83 l0 x9_1).f1) ((rd_T83 l0 x9_1).f2) = some r) ∧ Aside0 (kq ≤ kj4) ∧ Aside0 (w'.heap[gb464]? = some (.cells #[.bool ((rd_T83 l0 x9_1).f0),(.slice A463_1 ((rd_T83 l0 x9_1).f1).length c463_1),(.slice A463_2 ((rd_T83 l0 x9_1).f2).length c463_2)] 83 (0,0))) ∧ Aside0 (Below w.heap.size w w'))
       case atStart=>exact ⟨(0),Yd,H',⟨Nat.le_refl _⟩,⟨by (with_reducible repeat (first|refine blk_drewN ?_ _|refine blk_drew ?_|refine blk_alloc ?_ _));exact BK464.out⟩,⟨bH⟩⟩
       case round =>
        clear H'
        (try clear c2);(try clear c2b0);(try clear c3b0);(try clear c4b0);(try clear c9);(try clear c13);(try clear c14);(try clear c14b0);(try clear c14b1);(try clear c15);(try clear c15b0);(try clear c15b1);(try clear q16);(try clear hcz11_0);(try clear hcz11_1);(try clear hcz11_2);(try clear hcz12_0);(try clear hcz12_1);(try clear hcz12_2);(try clear hcz7_0);(try clear hcz7_1);(try clear hcz7_2);(try clear hfz11_0);(try clear hfz11_1);(try clear hfz11_2);(try clear hfz12_0);(try clear hfz12_1);(try clear hfz12_2);(try clear hfz7_0);(try clear hfz7_1);(try clear hfz7_2);(try clear hx463_0);(try clear hx463_1);(try clear hx463_2);(try clear p463);(try clear q16);(try clear q463)
        obtain ⟨x27_3,rfl,HA,HK3,BK464,HB⟩:=hrel
        cases gk with
        | zero=>exact absurd HA.out (by simp [spec_l4Tautology.l1])
        | succ k3 =>
         have H:=HA.out
         clear HA
         simp only [spec_l4Tautology.l1] at H
         by_cases c17:x27_3 < (y466.length:Int)
         ·rw [if_pos c17] at H
          have c17b0:=decide_eq_true c17
          clear c17
          replace H:=gI H;obtain ⟨c18b0,H⟩:=H
          replace H:=gI H;obtain ⟨c19b0,H⟩:=H
          by_cases c20:(((rd_T83 l0 x9_1).f0) != ((rd_T83 y466 x27_3).f0)) = true
          ·rw [if_pos c20] at H
           have c20b0:(((rd_T83 l0 x9_1).f0) != ((rd_T83 y466 x27_3).f0)) = true:=c20
           (try (have c20b1:decide (((rd_T83 l0 x9_1).f0) = ((rd_T83 y466 x27_3).f0)) = false:=by simpa using c20))
           (try (have c20b2:(((rd_T83 l0 x9_1).f0) == ((rd_T83 y466 x27_3).f0)) = false:=by simpa using c20))
           (try (have c20b3:¬ (((rd_T83 l0 x9_1).f0) = ((rd_T83 y466 x27_3).f0)):=by simpa using c20))
           clear c20
           replace H:=bI H;obtain ⟨t472,A21,H⟩:=H
           by_cases c22:t472 = true
           ·subst c22
            replace H:=pT H
            obtain rfl:=Option.some.inj H
            have p470:0 ≤ (x27_3:Int):=oD
            have q470:x27_3 < (y466.length:Int):=oD
            obtain ⟨ad470,A470_1,c470_1,A470_2,c470_2,e470,hx470_0,hx470_1,hx470_2,hl470_1,hi470_1,hl470_2,hi470_2⟩:=at_T83 HR469.out x27_3 p470 q470
            obtain rfl:ad463 = ad470:=(by injection e470)
            replace hx470_0:=(HB.out.cell (World.block_lt_of_cell? w _ hx470_0)).trans hx470_0
            replace hx470_1:=(HB.out.cell (World.block_lt_of_cell? w _ hx470_1)).trans hx470_1
            replace hx470_2:=(HB.out.cell (World.block_lt_of_cell? w _ hx470_2)).trans hx470_2
            have HR470_1:=Aside0.mk hi470_1
            have HC470_1:=Aside0.mk hl470_1
            clear hi470_1 hl470_1
            have HR470_2:=Aside0.mk hi470_2
            have HC470_2:=Aside0.mk hl470_2
            clear hi470_2 hl470_2
            replace p470:=eq_true p470
            replace q470:=eq_true q470
            go_wp2_with (first|(refine xB 6 #[.bool false,.slice none 0 0,.slice none 0 0] 83 ?_;intro gb471 hg w23 hbox hb;have BK471:=Aside0.mk (hbox);have GW471:=gZ w gb471;have GE471:=GW471;replace HB:=bS hb;have NB464_471:=nl BK464 gb464 gb471;have NB471_464:=nr NB464_471;replace BK464:=bb BK464 hb;clear hb hbox hg;have hnb24:=NB471_464.out;have hnc24:=NB464_471.out;have hcz25_0:=qc3_0 BK471;have hcz25_1:=qc3_1 BK471;have hcz25_2:=qc3_2 BK471;have hfz25_0:=fz BK471 0;have hfz25_1:=fz BK471 1;have hfz25_2:=fz BK471 2;have hcz26_0:=qc3_0 BK464;have hcz26_1:=qc3_1 BK464;have hcz26_2:=qc3_2 BK464;have hfz26_0:=fz BK464 0;have hfz26_1:=fz BK464 1;have hfz26_2:=fz BK464 2)|(go_at_call 102;(with_reducible refine (spec_l4SameTerms.calls k3 ((rd_T83 l0 x9_1).f0) _ _ ((rd_T83 l0 x9_1).f1) _ _ ((rd_T83 l0 x9_1).f2) ((rd_T83 y466 x27_3).f0) _ _ ((rd_T83 y466 x27_3).f1) _ _ ((rd_T83 y466 x27_3).f2) true _ ?side1 ?side2 ?side3 ?side4 ?side5 ?side6 ?side7 ?side8 A21.out).mono ?_);(case side1=>exact Kd.C_below HR463_1.out bH);(case side2=>exact HC463_1.out);(case side3=>exact Kd.C_below HR463_2.out bH);(case side4=>exact HC463_2.out);(case side5=>exact Kd.C_below HR470_1.out bH);(case side6=>exact HC470_1.out);(case side7=>exact Kd.C_below HR470_2.out bH);(case side8=>exact HC470_2.out);rintro e w27 ⟨rfl,hb⟩;replace BK464:=Aside0.mk (blk_below (g:=gb464) (o:=.cells #[.bool ((rd_T83 l0 x9_1).f0),.slice A463_1 ((rd_T83 l0 x9_1).f1).length c463_1,.slice A463_2 ((rd_T83 l0 x9_1).f2).length c463_2] 83 (0,0)) Ym hb);replace BK471:=Aside0.mk (blk_below (g:=gb471) (o:=.cells #[.bool ((rd_T83 y466 x27_3).f0),.slice A470_1 ((rd_T83 y466 x27_3).f1).length c470_1,.slice A470_2 ((rd_T83 y466 x27_3).f2).length c470_2] 83 (0,0)) Ys hb);replace HB:=bS hb;clear hb))
            go_ret
            exact ⟨Yb,bH⟩
           ·replace c22:=Bool.eq_false_iff.mpr c22
            subst c22
            replace H:=pF H
            have H':=Aside0.mk H
            clear H
            have p470:0 ≤ (x27_3:Int):=oD
            have q470:x27_3 < (y466.length:Int):=oD
            obtain ⟨ad470,A470_1,c470_1,A470_2,c470_2,e470,hx470_0,hx470_1,hx470_2,hl470_1,hi470_1,hl470_2,hi470_2⟩:=at_T83 HR469.out x27_3 p470 q470
            obtain rfl:ad463 = ad470:=(by injection e470)
            replace hx470_0:=(HB.out.cell (World.block_lt_of_cell? w _ hx470_0)).trans hx470_0
            replace hx470_1:=(HB.out.cell (World.block_lt_of_cell? w _ hx470_1)).trans hx470_1
            replace hx470_2:=(HB.out.cell (World.block_lt_of_cell? w _ hx470_2)).trans hx470_2
            have HR470_1:=Aside0.mk hi470_1
            have HC470_1:=Aside0.mk hl470_1
            clear hi470_1 hl470_1
            have HR470_2:=Aside0.mk hi470_2
            have HC470_2:=Aside0.mk hl470_2
            clear hi470_2 hl470_2
            replace p470:=eq_true p470
            replace q470:=eq_true q470
            go_wp2_with (first|(refine xB 6 #[.bool false,.slice none 0 0,.slice none 0 0] 83 ?_;intro gb471 hg w28 hbox hb;have BK471:=Aside0.mk (hbox);have GW471:=gZ w gb471;have GE471:=GW471;replace HB:=bS hb;have NB464_471:=nl BK464 gb464 gb471;have NB471_464:=nr NB464_471;replace BK464:=bb BK464 hb;clear hb hbox hg;have hnb29:=NB471_464.out;have hnc29:=NB464_471.out;have hcz30_0:=qc3_0 BK471;have hcz30_1:=qc3_1 BK471;have hcz30_2:=qc3_2 BK471;have hfz30_0:=fz BK471 0;have hfz30_1:=fz BK471 1;have hfz30_2:=fz BK471 2;have hcz31_0:=qc3_0 BK464;have hcz31_1:=qc3_1 BK464;have hcz31_2:=qc3_2 BK464;have hfz31_0:=fz BK464 0;have hfz31_1:=fz BK464 1;have hfz31_2:=fz BK464 2)|(go_at_call 102;(with_reducible refine (spec_l4SameTerms.calls k3 ((rd_T83 l0 x9_1).f0) _ _ ((rd_T83 l0 x9_1).f1) _ _ ((rd_T83 l0 x9_1).f2) ((rd_T83 y466 x27_3).f0) _ _ ((rd_T83 y466 x27_3).f1) _ _ ((rd_T83 y466 x27_3).f2) false _ ?side1 ?side2 ?side3 ?side4 ?side5 ?side6 ?side7 ?side8 A21.out).mono ?_);(case side1=>exact Kd.C_below HR463_1.out bH);(case side2=>exact HC463_1.out);(case side3=>exact Kd.C_below HR463_2.out bH);(case side4=>exact HC463_2.out);(case side5=>exact Kd.C_below HR470_1.out bH);(case side6=>exact HC470_1.out);(case side7=>exact Kd.C_below HR470_2.out bH);(case side8=>exact HC470_2.out);rintro e w32 ⟨rfl,hb⟩;replace BK464:=Aside0.mk (blk_below (g:=gb464) (o:=.cells #[.bool ((rd_T83 l0 x9_1).f0),.slice A463_1 ((rd_T83 l0 x9_1).f1).length c463_1,.slice A463_2 ((rd_T83 l0 x9_1).f2).length c463_2] 83 (0,0)) Ym hb);replace BK471:=Aside0.mk (blk_below (g:=gb471) (o:=.cells #[.bool ((rd_T83 y466 x27_3).f0),.slice A470_1 ((rd_T83 y466 x27_3).f1).length c470_1,.slice A470_2 ((rd_T83 y466 x27_3).f2).length c470_2] 83 (0,0)) Ys hb);replace HB:=bS hb;clear hb))
            go_roundg k3
            case measure=>have:=HK1.out;have:=HJ4.out;have:=HK3.out;omega
            case rel=>exact ⟨(wrap64 (x27_3 + 1)),Yd,H',⟨by have:=HK1.out;have:=HJ4.out;have:=HK3.out;omega⟩,⟨by (with_reducible repeat (first|refine blk_drewN ?_ _|refine blk_drew ?_|refine blk_alloc ?_ _));exact BK464.out⟩,⟨bH⟩⟩
          ·rw [if_neg c20] at H
           have c20b0:(((rd_T83 l0 x9_1).f0) != ((rd_T83 y466 x27_3).f0)) = false:=by simpa using c20
           (try (have c20b1:decide (((rd_T83 l0 x9_1).f0) = ((rd_T83 y466 x27_3).f0)) = true:=by simpa using c20))
           (try (have c20b2:(((rd_T83 l0 x9_1).f0) == ((rd_T83 y466 x27_3).f0)) = true:=by simpa using c20))
           clear c20
           have H':=Aside0.mk H
           clear H
           have p470:0 ≤ (x27_3:Int):=oD
           have q470:x27_3 < (y466.length:Int):=oD
           obtain ⟨ad470,A470_1,c470_1,A470_2,c470_2,e470,hx470_0,hx470_1,hx470_2,hl470_1,hi470_1,hl470_2,hi470_2⟩:=at_T83 HR469.out x27_3 p470 q470
           obtain rfl:ad463 = ad470:=(by injection e470)
           replace hx470_0:=(HB.out.cell (World.block_lt_of_cell? w _ hx470_0)).trans hx470_0
           replace hx470_1:=(HB.out.cell (World.block_lt_of_cell? w _ hx470_1)).trans hx470_1
           replace hx470_2:=(HB.out.cell (World.block_lt_of_cell? w _ hx470_2)).trans hx470_2
           have HR470_1:=Aside0.mk hi470_1
           have HC470_1:=Aside0.mk hl470_1
           clear hi470_1 hl470_1
           have HR470_2:=Aside0.mk hi470_2
           have HC470_2:=Aside0.mk hl470_2
           clear hi470_2 hl470_2
           replace p470:=eq_true p470
           replace q470:=eq_true q470
           go_wp2_with (first|(refine xB 6 #[.bool false,.slice none 0 0,.slice none 0 0] 83 ?_;intro gb471 hg w33 hbox hb;have BK471:=Aside0.mk (hbox);have GW471:=gZ w gb471;have GE471:=GW471;replace HB:=bS hb;have NB464_471:=nl BK464 gb464 gb471;have NB471_464:=nr NB464_471;replace BK464:=bb BK464 hb;clear hb hbox hg;have hnb34:=NB471_464.out;have hnc34:=NB464_471.out;have hcz35_0:=qc3_0 BK471;have hcz35_1:=qc3_1 BK471;have hcz35_2:=qc3_2 BK471;have hfz35_0:=fz BK471 0;have hfz35_1:=fz BK471 1;have hfz35_2:=fz BK471 2;have hcz36_0:=qc3_0 BK464;have hcz36_1:=qc3_1 BK464;have hcz36_2:=qc3_2 BK464;have hfz36_0:=fz BK464 0;have hfz36_1:=fz BK464 1;have hfz36_2:=fz BK464 2))
           go_roundg k3
           case measure=>have:=HK1.out;have:=HJ4.out;have:=HK3.out;omega
           case rel=>exact ⟨(wrap64 (x27_3 + 1)),Yd,H',⟨by have:=HK1.out;have:=HJ4.out;have:=HK3.out;omega⟩,⟨Ym⟩,⟨bH⟩⟩
         ·rw [if_neg c17] at H
          have c17b0:decide (x27_3 < (y466.length:Int)) = false:=decide_eq_false c17
          clear c17
          have H':=Aside0.mk H
          clear H
          go_wp2
          go_roundg k3
          case measure=>have:=HK1.out;have:=HJ4.out;have:=HK3.out;omega
          case rel=>exact ⟨(wrap64 (x9_1 + 1)),Yd,H',⟨by have:=HK1.out;have:=HJ4.out;have:=HK3.out;omega⟩,⟨bH⟩⟩
   ·rw [if_neg c2] at H
    have c2b0:decide (x9_1 < (l0.length:Int)) = false:=decide_eq_false c2
    clear c2
    obtain rfl:=Option.some.inj H
    go_wp2
    go_ret
    exact ⟨Yb,bH⟩

/-! ### spec_IsTautology: function 24 -/
def spec_IsTautology.f (k:Nat) (l0_0:List Int) (l1:List (S83)):Option (Bool × Bool):=(spec_GoodClause.f k l0_0 l1).bind fun t474=>(if t474 = true then ((spec_l4Tautology.f k l1).bind fun t475=>(some (t475,true))) else (some (false,false)))
theorem spec_IsTautology.mono:∀ a0 a1 k,LeO (spec_IsTautology.f k a0 a1) (spec_IsTautology.f (k + 1) a0 a1):=by
 intro a0 a1 k
 unfold spec_IsTautology.f
 have m0:=@spec_GoodClause.mono
 have m1:=@spec_l4Tautology.mono
 exact mO
set_option maxHeartbeats 8000000 in
set_option maxRecDepth 100000 in
theorem spec_IsTautology.calls (k:Nat) (A0_0:Option Addr) (c0_0:Nat) (l0_0:List Int) (A1:Option Addr) (c1:Nat) (l1:List (S83)) (r1:Bool) (r2:Bool) (w:World) (hr0_0:Kd.C (Kd.int .i64) w A0_0 l0_0.length l0_0) (hc0_0:l0_0.length ≤ c0_0) (hr1:Kd.C k83 w A1 l1.length l1) (hc1:l1.length ≤ c1) (h:spec_IsTautology.f k l0_0 l1 = some (r1,r2)) :
  Calls Try.prog 24 #[.agg #[.slice A0_0 l0_0.length c0_0],.slice A1 l1.length c1] w fun e w'=>e = .returned (.tuple #[.bool r1,.bool r2]) ∧ Below w.heap.size w w':=by
 have hu26:=Try.underlying26
 have HR0_0:=Aside0.mk hr0_0
 have HC0_0:=Aside0.mk hc0_0
 clear hr0_0 hc0_0
 have HR1:=Aside0.mk hr1
 have HC1:=Aside0.mk hc1
 clear hr1 hc1
 have HB:=Aside0.mk (Below.refl w.heap.size w)
 have H:((spec_GoodClause.f k l0_0 l1).bind fun t474=>(if t474 = true then ((spec_l4Tautology.f k l1).bind fun t475=>(some (t475,true))) else (some (false,false)))) = some (r1,r2):=h
 clear h
 replace H:=bI H;obtain ⟨t474,A3,H⟩:=H
 by_cases c4:t474 = true
 ·subst c4
  replace H:=pT H
  replace H:=bI H;obtain ⟨t475,A5,H⟩:=H
  simp only [Option.some.injEq,Prod.mk.injEq] at H
  obtain ⟨rfl,rfl⟩:=H
  go_enter Try.func24,Try.ntmps24
  go_wp2_with (first|(refine xB 2 #[.slice A0_0 l0_0.length c0_0] 26 ?_;intro gb473 hg w6 hbox hb;have BK473:=Aside0.mk (hbox);have GW473:=gZ w gb473;have GE473:=GW473;replace HB:=bS hb;clear hb hbox hg;have hcz7_0:=qc1_0 BK473;have hfz7_0:=fz BK473 0)|((with_reducible refine gate_callee (f:=27) rfl ?_);refine goesL_ (some 8) rfl rfl Try.func27 (by kernel_rfl) rfl #[.agg #[.slice A0_0 l0_0.length c0_0],.slice A1 l1.length c1] rfl Ya ?_;(with_reducible refine (spec_GoodClause.calls k _ _ l0_0 _ _ l1 true _ ?side1 ?side2 ?side3 ?side4 A3.out).mono ?_);(case side1=>exact Yx);(case side2=>exact Yw);(case side3=>exact sC HR1);(case side4=>exact HC1.out);rintro e w8 ⟨rfl,hb⟩;refine ⟨_,rfl,?_⟩;replace BK473:=bb BK473 hb;replace HB:=bS hb;clear hb)|((with_reducible refine gate_callee (f:=64) rfl ?_);refine goesL_ (some 11) rfl rfl Try.func64 (by kernel_rfl) rfl #[.slice A1 l1.length c1] rfl Ya ?_;(with_reducible refine (spec_l4Tautology.calls k _ _ l1 t475 _ ?side1 ?side2 A5.out).mono ?_);(case side1=>exact sC HR1);(case side2=>exact HC1.out);rintro e w9 ⟨rfl,hb⟩;refine ⟨_,rfl,?_⟩;replace BK473:=bb BK473 hb;replace HB:=bS hb;clear hb))
  go_ret2
  exact ⟨Yb,bH⟩
 ·replace c4:=Bool.eq_false_iff.mpr c4
  subst c4
  replace H:=pF H
  simp only [Option.some.injEq,Prod.mk.injEq] at H
  obtain ⟨rfl,rfl⟩:=H
  go_enter Try.func24,Try.ntmps24
  go_wp2_with (first|(refine xB 2 #[.slice A0_0 l0_0.length c0_0] 26 ?_;intro gb473 hg w10 hbox hb;have BK473:=Aside0.mk (hbox);have GW473:=gZ w gb473;have GE473:=GW473;replace HB:=bS hb;clear hb hbox hg;have hcz11_0:=qc1_0 BK473;have hfz11_0:=fz BK473 0)|((with_reducible refine gate_callee (f:=27) rfl ?_);refine goesL_ (some 8) rfl rfl Try.func27 (by kernel_rfl) rfl #[.agg #[.slice A0_0 l0_0.length c0_0],.slice A1 l1.length c1] rfl Ya ?_;(with_reducible refine (spec_GoodClause.calls k _ _ l0_0 _ _ l1 false _ ?side1 ?side2 ?side3 ?side4 A3.out).mono ?_);(case side1=>exact Yx);(case side2=>exact Yw);(case side3=>exact sC HR1);(case side4=>exact HC1.out);rintro e w12 ⟨rfl,hb⟩;refine ⟨_,rfl,?_⟩;replace BK473:=bb BK473 hb;replace HB:=bS hb;clear hb))
  go_ret2
  exact ⟨Yb,bH⟩

/-! ### laws_sameInts: function 34 -/
def laws_sameInts.l0:Nat → List Int → List Int → Int → Int → Option (Bool)
 | 0,_,_,_,_=>none
 | k + 1,x0,x1,x12,x13=>if x13 < x12 then (if 0 ≤ x13 then (if x13 < (x0.length:Int) then (if x13 < (x1.length:Int) then (if (rd x0 x13) = (rd x1 x13) then (laws_sameInts.l0 k x0 x1 x12 (wrap64 (x13 + 1))) else (some false)) else (none)) else (none)) else (none)) else (some true)
def laws_sameInts.f (k:Nat) (l0:List Int) (l1:List Int):Option (Bool):=if (l0.length:Int) = (l1.length:Int) then (laws_sameInts.l0 k l0 l1 (l0.length:Int) 0) else (some false)
theorem laws_sameInts.mono_l:∀ k,(∀ y0 y1 y2 y3,LeO (laws_sameInts.l0 k y0 y1 y2 y3) (laws_sameInts.l0 (k + 1) y0 y1 y2 y3))
 | 0=>fun _ _ _ _ r h=>by simp [laws_sameInts.l0] at h
 | k + 1=>by
  have ih0:=laws_sameInts.mono_l k
  ·intro y0 y1 y2 y3
   unfold laws_sameInts.l0
   exact mO
theorem laws_sameInts.mono:∀ a0 a1 k,LeO (laws_sameInts.f k a0 a1) (laws_sameInts.f (k + 1) a0 a1):=by
 intro a0 a1 k
 have ih0:=laws_sameInts.mono_l k
 unfold laws_sameInts.f
 exact mO
set_option maxHeartbeats 8000000 in
set_option maxRecDepth 100000 in
theorem laws_sameInts.calls (k:Nat) (A0:Option Addr) (c0:Nat) (l0:List Int) (A1:Option Addr) (c1:Nat) (l1:List Int) (r:Bool) (w:World) (hr0:Kd.C (Kd.int .i64) w A0 l0.length l0) (hc0:l0.length ≤ c0) (hr1:Kd.C (Kd.int .i64) w A1 l1.length l1) (hc1:l1.length ≤ c1) (h:laws_sameInts.f k l0 l1 = some r) :
  Calls Try.prog 34 #[.slice A0 l0.length c0,.slice A1 l1.length c1] w fun e w'=>e = .returned (.bool r) ∧ Drawn0 w w':=by
 have HR0:=Aside0.mk hr0
 have HC0:=Aside0.mk hc0
 clear hr0 hc0
 have HR1:=Aside0.mk hr1
 have HC1:=Aside0.mk hc1
 clear hr1 hc1
 have H:(if (l0.length:Int) = (l1.length:Int) then (laws_sameInts.l0 k l0 l1 (l0.length:Int) 0) else (some false)) = some r:=h
 clear h
 by_cases c3:(l0.length:Int) = (l1.length:Int)
 ·rw [if_pos c3] at H
  have c3b0:((l0.length:Int) == (l1.length:Int)) = true:=beq_iff_eq.mpr c3
  have c3b1:((l0.length:Int) != (l1.length:Int)) = false:=bne_eq_false_iff_eq.mpr c3
  have c3b2:(l0.length == l1.length) = true:=by first|simpa using c3|(simp at c3 ⊢;omega)
  clear c3
  have H':=Aside0.mk H
  clear H
  go_enter Try.func34,Try.ntmps34
  go_wp2
  repeat (go_quiet (fail);try go_wp2)
  go_loopg [13] k (fun kq v13 w'=>∃ (x13_1:Int),v13 = .int .i64 x13_1 ∧ Aside0 (laws_sameInts.l0 kq l0 l1 (l0.length:Int) x13_1 = some r) ∧ Aside0 (kq ≤ k) ∧ Drawn0 w w')
  case atStart=>exact ⟨(0),Yd,H',⟨Nat.le_refl _⟩,Yh⟩
  case round =>
   clear H'
   (try clear c1);(try clear c3);(try clear c3b0);(try clear c3b1);(try clear c3b2)
   obtain ⟨x13_1,rfl,HA,HK1,⟨m1,rfl⟩⟩:=hrel
   cases gk with
   | zero=>exact absurd HA.out (by simp [laws_sameInts.l0])
   | succ k1 =>
    have H:=HA.out
    clear HA
    simp only [laws_sameInts.l0] at H
    by_cases c4:x13_1 < (l0.length:Int)
    ·rw [if_pos c4] at H
     have c4b0:=decide_eq_true c4
     clear c4
     replace H:=gI H;obtain ⟨c5b0,H⟩:=H
     replace H:=gI H;obtain ⟨c6b0,H⟩:=H
     replace H:=gI H;obtain ⟨c7b0,H⟩:=H
     by_cases c8:(rd l0 x13_1) = (rd l1 x13_1)
     ·rw [if_pos c8] at H
      have c8b0:((rd l0 x13_1) == (rd l1 x13_1)) = true:=beq_iff_eq.mpr c8
      have c8b1:((rd l0 x13_1) != (rd l1 x13_1)) = false:=bne_eq_false_iff_eq.mpr c8
      clear c8
      have H':=Aside0.mk H
      clear H
      obtain ⟨p476,q476,ad476,e476,hx476_0⟩:=aI HR0.out x13_1;cases e476
      obtain ⟨p477,q477,ad477,e477,hx477_0⟩:=aI HR1.out x13_1;cases e477
      go_wp2
      repeat (go_quiet (fail);try go_wp2)
      go_roundg k1
      case measure=>have:=HK1.out;omega
      case rel=>exact ⟨(wrap64 (x13_1 + 1)),Yd,H',⟨YH⟩,Yh⟩
     ·rw [if_neg c8] at H
      have c8b0:((rd l0 x13_1) == (rd l1 x13_1)) = false:=beq_eq_false_iff_ne.mpr c8
      have c8b1:((rd l0 x13_1) != (rd l1 x13_1)) = true:=bne_iff_ne.mpr c8
      obtain rfl:=Option.some.inj H
      obtain ⟨p476,q476,ad476,e476,hx476_0⟩:=aI HR0.out x13_1;cases e476
      obtain ⟨p477,q477,ad477,e477,hx477_0⟩:=aI HR1.out x13_1;cases e477
      go_wp2
      repeat (go_quiet (fail);try go_wp2)
      go_ret
      exact ⟨Yd,Yh⟩
    ·rw [if_neg c4] at H
     have c4b0:decide (x13_1 < (l0.length:Int)) = false:=decide_eq_false c4
     clear c4
     obtain rfl:=Option.some.inj H
     go_wp2
     repeat (go_quiet (fail);try go_wp2)
     go_ret
     exact ⟨Yd,Yh⟩
 ·rw [if_neg c3] at H
  have c3b0:((l0.length:Int) == (l1.length:Int)) = false:=beq_eq_false_iff_ne.mpr c3
  have c3b1:((l0.length:Int) != (l1.length:Int)) = true:=bne_iff_ne.mpr c3
  have c3b2:(l0.length == l1.length) = false:=by first|simpa using c3|(simp at c3 ⊢;omega)
  obtain rfl:=Option.some.inj H
  go_enter Try.func34,Try.ntmps34
  go_wp2
  repeat (go_quiet (fail);try go_wp2)
  go_ret
  exact ⟨Yd,Yh⟩

/-! ### laws_sameTerm: function 65 -/
def laws_sameTerm.f (k:Nat) (l0:List Int) (l1:List Int):Option (Bool):=(laws_sameInts.f k l0 l1).bind fun t478=>(some t478)
theorem laws_sameTerm.mono:∀ a0 a1 k,LeO (laws_sameTerm.f k a0 a1) (laws_sameTerm.f (k + 1) a0 a1):=by
 intro a0 a1 k
 unfold laws_sameTerm.f
 have m0:=@laws_sameInts.mono
 exact mO
set_option maxHeartbeats 8000000 in
set_option maxRecDepth 100000 in
theorem laws_sameTerm.calls (k:Nat) (A0:Option Addr) (c0:Nat) (l0:List Int) (A1:Option Addr) (c1:Nat) (l1:List Int) (r:Bool) (w:World) (hr0:Kd.C (Kd.int .i64) w A0 l0.length l0) (hc0:l0.length ≤ c0) (hr1:Kd.C (Kd.int .i64) w A1 l1.length l1) (hc1:l1.length ≤ c1) (h:laws_sameTerm.f k l0 l1 = some r) :
  Calls Try.prog 65 #[.slice A0 l0.length c0,.slice A1 l1.length c1] w fun e w'=>e = .returned (.bool r) ∧ Drawn0 w w':=by
 have HR0:=Aside0.mk hr0
 have HC0:=Aside0.mk hc0
 clear hr0 hc0
 have HR1:=Aside0.mk hr1
 have HC1:=Aside0.mk hc1
 clear hr1 hc1
 have H:((laws_sameInts.f k l0 l1).bind fun t478=>(some t478)) = some r:=h
 clear h
 replace H:=bI H;obtain ⟨t478,A3,H⟩:=H
 obtain rfl:=Option.some.inj H
 go_enter Try.func65,Try.ntmps65
 go_wp2_with (first|((with_reducible refine gate_callee (f:=34) rfl ?_);refine goesL_ (some 7) rfl rfl Try.func34 (by kernel_rfl) rfl #[.slice A0 l0.length c0,.slice A1 l1.length c1] rfl Ya ?_;(with_reducible refine (laws_sameInts.calls k _ _ l0 _ _ l1 t478 _ ?side1 ?side2 ?side3 ?side4 A3.out).mono ?_);(case side1=>repeat (first|exact HR0.out|(with_reducible refine Kd.C_alloc ?_ _)|(with_reducible refine Kd.C_drewN ?_ _)|(with_reducible refine Kd.C_drew ?_)));(case side2=>exact HC0.out);(case side3=>repeat (first|exact HR1.out|(with_reducible refine Kd.C_alloc ?_ _)|(with_reducible refine Kd.C_drewN ?_ _)|(with_reducible refine Kd.C_drew ?_)));(case side4=>exact HC1.out);rintro e w' ⟨rfl,⟨nd,rfl⟩⟩;refine ⟨_,rfl,?_⟩))
 go_ret
 exact ⟨Yd,Yh⟩

end Go.Proofs.Ytmgkflkfoccgkaa.QFnTidied
