-- Written by this session's own program (wip/x/xprint.py, over the kit's printer); Lean checks it.
import Derived.Test.YtmgkflkfoccgkaaQFnTidiedx0
import Derived.Test.YtmgkflkfoccgkaaQFnTidiedx13
namespace Go.Proofs.Ytmgkflkfoccgkaa.QFnTidied
open Go.RowKit Go.Proofs.YtmgkflkfoccgkaaW.PrintWords Go.Proofs.YtmgkflkfoccgkaaW.PrintLast Go.Proofs.YtmgkflkfoccgkaaW.PrintMore
attribute [local go_sem] max2_int min2_int max_two min_two max_three min_three max_four min_four   -- for this text's walks alone
set_option linter.unusedVariables false
set_option linter.unusedSimpArgs false

/-! ### spec_l2Rename: function 106 -/
mutual
def spec_l2Rename.l0:Nat → List Int → List (List Int) → List (List Int) → Int → Int → Option ((List (List Int)))
 | 0,_,_,_,_,_=>none
 | k + 1,x3,x4,x12,x13,x14=>if x14 < x13 then (if 0 ≤ x14 then (if x14 < (x12.length:Int) then (spec_l2Rename.l1 k x3 x4 ([]:List Int) x12 x13 x14 (rd_L2 x12 x14) ((rd_L2 x12 x14).length:Int) 0) else (none)) else (none)) else (some x4)
def spec_l2Rename.l1:Nat → List Int → List (List Int) → List Int → List (List Int) → Int → Int → List Int → Int → Int → Option ((List (List Int)))
 | 0,_,_,_,_,_,_,_,_,_=>none
 | k + 1,x3,x4,x7,x12,x13,x14,x18,x19,x20=>if x20 < x19 then (if 0 ≤ x20 then (if x20 < (x18.length:Int) then (if (rd x18 x20) < 0 then ((spec_l1Has.f k x3 (rd x18 x20)).bind fun t437=>(spec_l2Rename.j2 k x3 x4 x7 (rd x18 x20) x12 x13 x14 x18 x19 x20 (!t437))) else (spec_l2Rename.j2 k x3 x4 x7 (rd x18 x20) x12 x13 x14 x18 x19 x20 false)) else (none)) else (none)) else (if x4.length < 5864062014805 then (spec_l2Rename.l0 k x3 (x4 ++ [x7]) x12 x13 (wrap64 (x14 + 1))) else (none))
def spec_l2Rename.j2:Nat → List Int → List (List Int) → List Int → Int → List (List Int) → Int → Int → List Int → Int → Int → Bool → Option ((List (List Int)))
 | 0,_,_,_,_,_,_,_,_,_,_,_=>none
 | k + 1,x3,x4,x7,x9,x12,x13,x14,x18,x19,x20,x31=>if x31 = true then (if x3.length < 17592186044416 then (spec_l2Rename.j3 k (x3 ++ [x9]) x4 x7 x9 x12 x13 x14 x18 x19 x20) else (none)) else (spec_l2Rename.j3 k x3 x4 x7 x9 x12 x13 x14 x18 x19 x20)
def spec_l2Rename.j3:Nat → List Int → List (List Int) → List Int → Int → List (List Int) → Int → Int → List Int → Int → Int → Option ((List (List Int)))
 | 0,_,_,_,_,_,_,_,_,_,_=>none
 | k + 1,x3,x4,x7,x9,x12,x13,x14,x18,x19,x20=>spec_l2Rename.l2 k x3 x4 x7 x9 x12 x13 x14 x18 x19 x20 x3 (x3.length:Int) 0
def spec_l2Rename.l2:Nat → List Int → List (List Int) → List Int → Int → List (List Int) → Int → Int → List Int → Int → Int → List Int → Int → Int → Option ((List (List Int)))
 | 0,_,_,_,_,_,_,_,_,_,_,_,_,_=>none
 | k + 1,x3,x4,x7,x9,x12,x13,x14,x18,x19,x20,x36,x37,x38=>if x38 < x37 then (if 0 ≤ x38 then (if x38 < (x36.length:Int) then (if (rd x36 x38) = x9 then (if x7.length < 17592186044416 then (spec_l2Rename.l1 k x3 x4 (x7 ++ [wrap64 ((-1) - x38)]) x12 x13 x14 x18 x19 (wrap64 (x20 + 1))) else (none)) else (spec_l2Rename.l2 k x3 x4 x7 x9 x12 x13 x14 x18 x19 x20 x36 x37 (wrap64 (x38 + 1)))) else (none)) else (none)) else (if x7.length < 17592186044416 then (spec_l2Rename.l1 k x3 x4 (x7 ++ [x9]) x12 x13 x14 x18 x19 (wrap64 (x20 + 1))) else (none))
end
def spec_l2Rename.f (k:Nat) (l0:List (List Int)):Option ((List (List Int))):=spec_l2Rename.l0 k ([]:List Int) ([]:List (List Int)) l0 (l0.length:Int) 0
theorem spec_l2Rename.mono_l:∀ k,(∀ y0 y1 y2 y3 y4,LeO (spec_l2Rename.l0 k y0 y1 y2 y3 y4) (spec_l2Rename.l0 (k + 1) y0 y1 y2 y3 y4)) ∧ (∀ y0 y1 y2 y3 y4 y5 y6 y7 y8,LeO (spec_l2Rename.l1 k y0 y1 y2 y3 y4 y5 y6 y7 y8) (spec_l2Rename.l1 (k + 1) y0 y1 y2 y3 y4 y5 y6 y7 y8)) ∧ (∀ y0 y1 y2 y3 y4 y5 y6 y7 y8 y9 y10,LeO (spec_l2Rename.j2 k y0 y1 y2 y3 y4 y5 y6 y7 y8 y9 y10) (spec_l2Rename.j2 (k + 1) y0 y1 y2 y3 y4 y5 y6 y7 y8 y9 y10)) ∧ (∀ y0 y1 y2 y3 y4 y5 y6 y7 y8 y9,LeO (spec_l2Rename.j3 k y0 y1 y2 y3 y4 y5 y6 y7 y8 y9) (spec_l2Rename.j3 (k + 1) y0 y1 y2 y3 y4 y5 y6 y7 y8 y9)) ∧ (∀ y0 y1 y2 y3 y4 y5 y6 y7 y8 y9 y10 y11 y12,LeO (spec_l2Rename.l2 k y0 y1 y2 y3 y4 y5 y6 y7 y8 y9 y10 y11 y12) (spec_l2Rename.l2 (k + 1) y0 y1 y2 y3 y4 y5 y6 y7 y8 y9 y10 y11 y12))
 | 0=>⟨fun _ _ _ _ _ r h=>by simp [spec_l2Rename.l0] at h,fun _ _ _ _ _ _ _ _ _ r h=>by simp [spec_l2Rename.l1] at h,fun _ _ _ _ _ _ _ _ _ _ _ r h=>by simp [spec_l2Rename.j2] at h,fun _ _ _ _ _ _ _ _ _ _ r h=>by simp [spec_l2Rename.j3] at h,fun _ _ _ _ _ _ _ _ _ _ _ _ _ r h=>by simp [spec_l2Rename.l2] at h⟩
 | k + 1=>by
  obtain ⟨ih0,ih1,ih2,ih3,ih4⟩:=spec_l2Rename.mono_l k
  refine ⟨?_,?_,?_,?_,?_⟩
  ·intro y0 y1 y2 y3 y4
   unfold spec_l2Rename.l0
   have m0:=@ih4
   have m1:=@spec_l1Has.mono
   exact mO
  ·intro y0 y1 y2 y3 y4 y5 y6 y7 y8
   unfold spec_l2Rename.l1
   have m0:=@ih4
   have m1:=@spec_l1Has.mono
   exact mO
  ·intro y0 y1 y2 y3 y4 y5 y6 y7 y8 y9 y10
   unfold spec_l2Rename.j2
   have m0:=@ih4
   have m1:=@spec_l1Has.mono
   exact mO
  ·intro y0 y1 y2 y3 y4 y5 y6 y7 y8 y9
   unfold spec_l2Rename.j3
   have m0:=@ih4
   have m1:=@spec_l1Has.mono
   exact mO
  ·intro y0 y1 y2 y3 y4 y5 y6 y7 y8 y9 y10 y11 y12
   unfold spec_l2Rename.l2
   have m0:=@ih4
   have m1:=@spec_l1Has.mono
   exact mO
theorem spec_l2Rename.mono:∀ a0 k,LeO (spec_l2Rename.f k a0) (spec_l2Rename.f (k + 1) a0):=by
 intro a0 k
 obtain ⟨ih0,ih1,ih2,ih3,ih4⟩:=spec_l2Rename.mono_l k
 unfold spec_l2Rename.f
 have m0:=@ih4
 have m1:=@spec_l1Has.mono
 exact mO
set_option maxHeartbeats 8000000 in
set_option maxRecDepth 100000 in
theorem spec_l2Rename.calls (k:Nat) (A0:Option Addr) (c0:Nat) (l0:List (List Int)) (r:List (List Int)) (w:World) (hr0:Kd.C (Kd.slice 3 (Kd.int .i64)) w A0 l0.length l0) (hc0:l0.length ≤ c0) (h:spec_l2Rename.f k l0 = some r) :
  Calls Try.prog 106 #[.slice A0 l0.length c0] w fun e w'=>∃ v0_:Value,e = .returned (v0_) ∧ Kd.S (Kd.slice 3 (Kd.int .i64)) 24 w' w.heap.size (fun _=>True) v0_ r ∧ Below w.heap.size w w':=by
 have HR0:=Aside0.mk hr0
 have HC0:=Aside0.mk hc0
 clear hr0 hc0
 have HB:=Aside0.mk (Below.refl w.heap.size w)
 have H:(spec_l2Rename.l0 k ([]:List Int) ([]:List (List Int)) l0 (l0.length:Int) 0) = some r:=h
 clear h
 have H':=Aside0.mk H
 clear H
 go_enter Try.func106,Try.ntmps106
 go_wp2
 go_loopg [3,4,14] k (fun kq v3 v4 v14 w'=>∃ (x3_1:List Int) (x4_1:List (List Int)) (x14_1:Int),v14 = .int .i64 x14_1 ∧ Aside0 (spec_l2Rename.l0 kq x3_1 x4_1 l0 (l0.length:Int) x14_1 = some r) ∧ Aside0 (kq ≤ k) ∧ Aside0 (Kd.R (Kd.int .i64) 3 w' w.heap.size (fun _=>True) v3 x3_1) ∧ Aside0 (Kd.S (Kd.slice 3 (Kd.int .i64)) 24 w' w.heap.size (fun k_=>some k_ ≠ (v3:Value).ownBlock) v4 x4_1) ∧ Aside0 (Below w.heap.size w w'))
 case atStart=>exact ⟨(([]:List Int)),(([]:List (List Int))),(0),Yd,H',⟨Nat.le_refl _⟩,⟨Yi⟩,⟨Yl⟩,⟨bH⟩⟩
 case round =>
  clear H'
  obtain ⟨x3_1,x4_1,x14_1,rfl,HA,HK1,HO_3,HO_4,HB⟩:=hrel
  cases gk with
  | zero=>exact absurd HA.out (by simp [spec_l2Rename.l0])
  | succ k1 =>
   have H:=HA.out
   clear HA
   simp only [spec_l2Rename.l0] at H
   by_cases c2:x14_1 < (l0.length:Int)
   ·rw [if_pos c2] at H
    have c2b0:=decide_eq_true c2
    clear c2
    replace H:=gI H;obtain ⟨c3b0,H⟩:=H
    replace H:=gI H;obtain ⟨c4b0,H⟩:=H
    have H':=Aside0.mk H
    clear H
    have p432:0 ≤ (x14_1:Int):=oD
    have q432:x14_1 < (l0.length:Int):=oD
    obtain ⟨ad432,A432_0,c432_0,e432,hx432_0,hl432_0,hi432_0⟩:=at_L2 HR0.out x14_1 p432 q432
    cases e432
    replace hx432_0:=(HB.out.cell (World.block_lt_of_cell? w _ hx432_0)).trans hx432_0
    have HR432_0:=Aside0.mk hi432_0
    have HC432_0:=Aside0.mk hl432_0
    clear hi432_0 hl432_0
    replace p432:=eq_true p432
    replace q432:=eq_true q432
    go_wp2
    go_loopg [3,7,20] k1 (fun kq v3 v7 v20 w'=>∃ (x3_2:List Int) (x7_2:List Int) (x20_2:Int),v20 = .int .i64 x20_2 ∧ Aside0 (spec_l2Rename.l1 kq x3_2 x4_1 x7_2 l0 (l0.length:Int) x14_1 (rd_L2 l0 x14_1) ((rd_L2 l0 x14_1).length:Int) x20_2 = some r) ∧ Aside0 (kq ≤ k1) ∧ Aside0 (Kd.R (Kd.int .i64) 3 w' w.heap.size (fun k_=>some k_ ≠ (v7:Value).ownBlock) v3 x3_2) ∧ Aside0 (Kd.S (Kd.slice 3 (Kd.int .i64)) 24 w' w.heap.size (fun k_=>some k_ ≠ (v3:Value).ownBlock ∧ some k_ ≠ (v7:Value).ownBlock) u4 x4_1) ∧ Aside0 (Kd.R (Kd.int .i64) 3 w' w.heap.size (fun k_=>some k_ ≠ (v3:Value).ownBlock) v7 x7_2) ∧ Aside0 (Below w.heap.size w w'))
    case atStart=>exact ⟨(x3_1),(([]:List Int)),(0),Yd,H',⟨Nat.le_refl _⟩,⟨by (with_reducible repeat (first|apply Kd.R_alloc|apply Kd.R_drewN|apply Kd.R_drew));exact Kd.R_mono HO_3.out (fun _ hk=>(by simp [Value.ownBlock]))⟩,⟨by (with_reducible repeat (first|apply Kd.S_alloc|apply Kd.S_drewN|apply Kd.S_drew));exact Kd.S_mono HO_4.out (fun _ hk=>⟨hk,(by simp [Value.ownBlock])⟩)⟩,⟨Yi⟩,⟨bH⟩⟩
    case round =>
     clear H'
     (try clear c2);(try clear c2b0);(try clear c3b0);(try clear c4b0);(try clear hx432_0);(try clear p432);(try clear q432)
     obtain ⟨x3_2,x7_2,x20_2,rfl,HA,HK2,HO_3,HO_4,HO_7,HB⟩:=hrel
     cases gk with
     | zero=>exact absurd HA.out (by simp [spec_l2Rename.l1])
     | succ k2 =>
      have H:=HA.out
      clear HA
      simp only [spec_l2Rename.l1] at H
      by_cases c5:x20_2 < ((rd_L2 l0 x14_1).length:Int)
      ·rw [if_pos c5] at H
       have c5b0:=decide_eq_true c5
       clear c5
       replace H:=gI H;obtain ⟨c6b0,H⟩:=H
       replace H:=gI H;obtain ⟨c7b0,H⟩:=H
       have HC8:=Aside0.mk H
       clear H
       have p436:0 ≤ (x20_2:Int):=oD
       have q436:x20_2 < ((rd_L2 l0 x14_1).length:Int):=oD
       obtain ⟨ad436,e436,hx436_0⟩:=Kd.at_int HR432_0.out x20_2 p436 q436
       cases e436
       replace hx436_0:=(HB.out.cell (World.block_lt_of_cell? w _ hx436_0)).trans hx436_0
       replace p436:=eq_true p436
       replace q436:=eq_true q436
       go_upto_region 10 with (fail)
       go_cut [31] (fun v31 wc=>∃ (kq:Nat) (x31_7:Bool),v31 = .bool x31_7 ∧ Aside0 (spec_l2Rename.j2 kq x3_2 x4_1 x7_2 (rd (rd_L2 l0 x14_1) x20_2) l0 (l0.length:Int) x14_1 (rd_L2 l0 x14_1) ((rd_L2 l0 x14_1).length:Int) x20_2 x31_7 = some r) ∧ Aside0 (kq ≤ k2) ∧ Aside0 (Kd.R (Kd.int .i64) 3 wc w.heap.size (fun k_=>some k_ ≠ (u7:Value).ownBlock) u3 x3_2) ∧ Aside0 (Kd.S (Kd.slice 3 (Kd.int .i64)) 24 wc w.heap.size (fun k_=>some k_ ≠ (u3:Value).ownBlock ∧ some k_ ≠ (u7:Value).ownBlock) u4 x4_1) ∧ Aside0 (Kd.R (Kd.int .i64) 3 wc w.heap.size (fun k_=>some k_ ≠ (u3:Value).ownBlock) u7 x7_2) ∧ Aside0 (Below w.heap.size w wc))
       case first =>
        have H:=HC8.out
        clear HC8
        by_cases c9:(rd (rd_L2 l0 x14_1) x20_2) < 0
        ·rw [if_pos c9] at H
         have c9b0:=decide_eq_true c9
         clear c9
         (first|rw [c9b0]|(simp only [i64_w,i32_w];rw [c9b0])|skip)
         replace H:=bI H;obtain ⟨t437,A10,H⟩:=H
         have H':=Aside0.mk H
         clear H
         obtain ⟨Ao11,co11,eo11⟩:=Kd.R_slice HO_3.out
         subst eo11
         go_wp2_with (first|(go_at_call 121;(with_reducible refine (spec_l1Has.calls k2 _ _ x3_2 (rd (rd_L2 l0 x14_1) x20_2) t437 _ ?side1 ?side2 A10.out).mono ?_);(case side1=>repeat (first|exact (Kd.R_reads' HO_3.out).2.2|(with_reducible refine Kd.C_alloc ?_ _)|(with_reducible refine Kd.C_drewN ?_ _)|(with_reducible refine Kd.C_drew ?_)));(case side2=>exact (Kd.R_reads' HO_3.out).2.1);rintro e w' ⟨rfl,⟨nd,rfl⟩⟩))
         go_meet
         case rel=>exact ⟨_,(!t437),Yd,H',⟨by have:=HK1.out;have:=HK2.out;first|omega|exact Nat.le_refl _⟩,⟨rR HO_3⟩,⟨rS HO_4⟩,⟨rR HO_7⟩,⟨bH⟩⟩
        ·rw [if_neg c9] at H
         have c9b0:decide ((rd (rd_L2 l0 x14_1) x20_2) < 0) = false:=decide_eq_false c9
         clear c9
         (first|rw [c9b0]|(simp only [i64_w,i32_w];rw [c9b0])|skip)
         have H':=Aside0.mk H
         clear H
         go_wp2
         go_meet
         case rel=>exact ⟨_,(false),Yd,H',⟨by have:=HK1.out;have:=HK2.out;first|omega|exact Nat.le_refl _⟩,⟨rR HO_3⟩,⟨rS HO_4⟩,⟨rR HO_7⟩,⟨bH⟩⟩
       case rest =>
        clear HC8
        (try clear c2);(try clear c2b0);(try clear c3b0);(try clear c4b0);(try clear c5);(try clear c5b0);(try clear c6b0);(try clear c7b0);(try clear c9);(try clear c9b0);(try clear hx432_0);(try clear hx436_0);(try clear p432);(try clear p436);(try clear q432);(try clear q436)
        obtain ⟨kq,x31_7,rfl,HA,HJ7,HO_3,HO_4,HO_7,HB⟩:=hcut
        cases kq with
        | zero=>exact absurd HA.out (by simp [spec_l2Rename.j2])
        | succ kj7 =>
         have H:=HA.out
         clear HA
         simp only [spec_l2Rename.j2] at H
         have HC12:=Aside0.mk H
         clear H
         go_upto_if 31 with (fail)
         go_cut [3] (fun v3 wc=>∃ (kq:Nat) (x3_11:List Int),Aside0 (spec_l2Rename.j3 kq x3_11 x4_1 x7_2 (rd (rd_L2 l0 x14_1) x20_2) l0 (l0.length:Int) x14_1 (rd_L2 l0 x14_1) ((rd_L2 l0 x14_1).length:Int) x20_2 = some r) ∧ Aside0 (kq ≤ kj7) ∧ Aside0 (Kd.R (Kd.int .i64) 3 wc w.heap.size (fun k_=>some k_ ≠ (u7:Value).ownBlock) v3 x3_11) ∧ Aside0 (Kd.S (Kd.slice 3 (Kd.int .i64)) 24 wc w.heap.size (fun k_=>some k_ ≠ (v3:Value).ownBlock ∧ some k_ ≠ (u7:Value).ownBlock) u4 x4_1) ∧ Aside0 (Kd.R (Kd.int .i64) 3 wc w.heap.size (fun k_=>some k_ ≠ (v3:Value).ownBlock) u7 x7_2) ∧ Aside0 (Below w.heap.size w wc))
         case first =>
          have H:=HC12.out
          clear HC12
          by_cases c13:x31_7 = true
          ·subst c13
           replace H:=pT H
           replace H:=gK H;obtain ⟨LMc14,H⟩:=H
           obtain ⟨y438,hy438⟩:∃ y_:List Int,y_ = (x3_2 ++ [(rd (rd_L2 l0 x14_1) x20_2)]):=⟨_,rfl⟩
           replace H:(spec_l2Rename.j3 kj7 y438 x4_1 x7_2 (rd (rd_L2 l0 x14_1) x20_2) l0 (l0.length:Int) x14_1 (rd_L2 l0 x14_1) ((rd_L2 l0 x14_1).length:Int) x20_2) = some r:=by first|(rw [hy438];with_reducible exact H)|(have H2_:=(Option.bind_some _ _).symm.trans H;rw [hy438];with_reducible exact H2_)|(have H2_:=(Option.bind_some _ _).symm.trans H;with_reducible exact H2_)|with_reducible exact H|(rw [hy438];exact H)|exact H
           have Ny438:=Aside0.mk hy438
           clear hy438
           have H':=Aside0.mk H
           clear H
           go_wp2_with (first|((with_reducible refine gate_builtin (b:=.append) (xs:=#[.tmp 32,.tmp 34]) rfl ?_);at_builtin;refine Kd.R_append (Kd.int .i64) (w0:=w) w.heap.size rfl (.tmp 32) (.tmp 34) 24 3 (.int .i64 0) 8 rfl Try.underlying24 info3 rfl (by decide) YP u3 x3_2 (rd (rd_L2 l0 x14_1) x20_2) [.int .i64 (rd (rd_L2 l0 x14_1) x20_2)] (fun k_=>some k_ ≠ (u7:Value).ownBlock) (fun _=>False) rfl rfl ?aP (fun _ hk=>hk.elim) ?aF ?aO ?aB ?aS ?aL ?_;(case aP=>exact rfl);(case aB=>exact bH);(case aF=>exact (fun k_ hk=>Kd.fresh' (Kd.R_lt (rR HO_7)) k_ hk));(case aO=>exact (rR HO_3));(case aS=>exact YR);(case aL=>have:=LMc14.out;omega);intro v439 w15 ho hb hg hat;rw [← Ny438.out] at ho;have n0_:=Aside0.mk (Kd.S_after (ok:=(fun k_=>some k_ ≠ (u7:Value).ownBlock)) (by (with_reducible repeat (first|apply Kd.S_alloc|apply Kd.S_drewN|apply Kd.S_drew));exact Kd.S_mono HO_4.out (fun _ hk=>⟨hk.2,hk.1⟩)) hg hat);have n1_:=Aside0.mk (Kd.R_after (ok:=(fun _=>True)) (by (with_reducible repeat (first|apply Kd.R_alloc|apply Kd.R_drewN|apply Kd.R_drew));exact Kd.R_mono HO_7.out (fun _ hk=>⟨trivial,hk⟩)) hg hat);have n2_:=Aside0.mk (hb);have n3_:=Aside0.mk (ho);clear HO_4;clear HO_7;clear HB;clear HO_3;have HO_4:=n0_;have HO_7:=n1_;have HB:=n2_;have HO440:=n3_;clear n0_ n1_ n2_ n3_;clear ho hb hg hat))
           go_meet
           case rel=>exact ⟨_,(y438),H',⟨by have:=HK1.out;have:=HK2.out;have:=HJ7.out;first|omega|exact Nat.le_refl _⟩,⟨rR HO440⟩,⟨by (with_reducible repeat (first|apply Kd.S_alloc|apply Kd.S_drewN|apply Kd.S_drew));exact Kd.S_mono HO_4.out (fun _ hk=>⟨hk.2,hk.1⟩)⟩,⟨by (with_reducible repeat (first|apply Kd.R_alloc|apply Kd.R_drewN|apply Kd.R_drew));exact Kd.R_mono HO_7.out (fun _ hk=>hk.2)⟩,⟨bH⟩⟩
          ·replace c13:=Bool.eq_false_iff.mpr c13
           subst c13
           replace H:=pF H
           have H':=Aside0.mk H
           clear H
           go_wp2
           go_meet
           case rel=>exact ⟨_,(x3_2),H',⟨by have:=HK1.out;have:=HK2.out;have:=HJ7.out;first|omega|exact Nat.le_refl _⟩,⟨rR HO_3⟩,⟨rS HO_4⟩,⟨rR HO_7⟩,⟨bH⟩⟩
         case rest =>
          clear HC12
          (try clear c2);(try clear c2b0);(try clear c3b0);(try clear c4b0);(try clear c5);(try clear c5b0);(try clear c6b0);(try clear c7b0);(try clear c9);(try clear c9b0);(try clear c13);(try clear hx432_0);(try clear hx436_0);(try clear p432);(try clear p436);(try clear q432);(try clear q436)
          obtain ⟨kq,x3_11,HA,HJ11,HO_3,HO_4,HO_7,HB⟩:=hcut
          cases kq with
          | zero=>exact absurd HA.out (by simp [spec_l2Rename.j3])
          | succ kj11 =>
           have H:=HA.out
           clear HA
           simp only [spec_l2Rename.j3] at H
           have H':=Aside0.mk H
           clear H
           obtain ⟨Ao16,co16,eo16⟩:=Kd.R_slice HO_3.out
           subst eo16
           go_wp2
           go_loopg [9,38] kj11 (fun kq v9 v38 w'=>∃ (x9_5:Int) (x38_5:Int),v9 = .int .i64 x9_5 ∧ v38 = .int .i64 x38_5 ∧ Aside0 (spec_l2Rename.l2 kq x3_11 x4_1 x7_2 x9_5 l0 (l0.length:Int) x14_1 (rd_L2 l0 x14_1) ((rd_L2 l0 x14_1).length:Int) x20_2 x3_11 (x3_11.length:Int) x38_5 = some r) ∧ Aside0 (kq ≤ kj11) ∧ Aside0 (Kd.R (Kd.int .i64) 3 w' w.heap.size (fun k_=>some k_ ≠ (u7:Value).ownBlock) (.slice Ao16 x3_11.length co16) x3_11) ∧ Aside0 (Kd.S (Kd.slice 3 (Kd.int .i64)) 24 w' w.heap.size (fun k_=>some k_ ≠ ((.slice Ao16 x3_11.length co16):Value).ownBlock ∧ some k_ ≠ (u7:Value).ownBlock ∧ some k_ ≠ ((.slice Ao16 x3_11.length co16):Value).ownBlock) u4 x4_1) ∧ Aside0 (Kd.R (Kd.int .i64) 3 w' w.heap.size (fun k_=>some k_ ≠ ((.slice Ao16 x3_11.length co16):Value).ownBlock ∧ some k_ ≠ ((.slice Ao16 x3_11.length co16):Value).ownBlock) u7 x7_2) ∧ Aside0 (Kd.R (Kd.int .i64) 3 w' w.heap.size (fun k_=>some k_ ≠ (u7:Value).ownBlock) (.slice Ao16 x3_11.length co16) x3_11) ∧ Aside0 (Below w.heap.size w w'))
           case atStart=>exact ⟨((rd (rd_L2 l0 x14_1) x20_2)),(0),Yd,Yd,H',⟨Nat.le_refl _⟩,⟨rR HO_3⟩,⟨by (with_reducible repeat (first|apply Kd.S_alloc|apply Kd.S_drewN|apply Kd.S_drew));exact Kd.S_mono HO_4.out (fun _ hk=>⟨hk.1,⟨hk.2,hk.1⟩⟩)⟩,⟨by (with_reducible repeat (first|apply Kd.R_alloc|apply Kd.R_drewN|apply Kd.R_drew));exact Kd.R_mono HO_7.out (fun _ hk=>⟨hk,hk⟩)⟩,⟨rR HO_3⟩,⟨bH⟩⟩
           case round =>
            clear H'
            (try clear c2);(try clear c2b0);(try clear c3b0);(try clear c4b0);(try clear c5);(try clear c5b0);(try clear c6b0);(try clear c7b0);(try clear c9);(try clear c9b0);(try clear c13);(try clear hx432_0);(try clear hx436_0);(try clear p432);(try clear p436);(try clear q432);(try clear q436)
            obtain ⟨x9_5,x38_5,rfl,rfl,HA,HK5,HO_3,HO_4,HO_7,HO_36,HB⟩:=hrel
            cases gk with
            | zero=>exact absurd HA.out (by simp [spec_l2Rename.l2])
            | succ k5 =>
             have H:=HA.out
             clear HA
             simp only [spec_l2Rename.l2] at H
             by_cases c17:x38_5 < (x3_11.length:Int)
             ·rw [if_pos c17] at H
              have c17b0:=decide_eq_true c17
              clear c17
              replace H:=gI H;obtain ⟨c18b0,H⟩:=H
              replace H:=gI H;obtain ⟨c19b0,H⟩:=H
              by_cases c20:(rd x3_11 x38_5) = x9_5
              ·rw [if_pos c20] at H
               have c20b0:((rd x3_11 x38_5) == x9_5) = true:=beq_iff_eq.mpr c20
               have c20b1:((rd x3_11 x38_5) != x9_5) = false:=bne_eq_false_iff_eq.mpr c20
               clear c20
               replace H:=gK H;obtain ⟨LMc21,H⟩:=H
               obtain ⟨y442,hy442⟩:∃ y_:List Int,y_ = (x7_2 ++ [wrap64 ((-1) - x38_5)]):=⟨_,rfl⟩
               replace H:(spec_l2Rename.l1 k5 x3_11 x4_1 y442 l0 (l0.length:Int) x14_1 (rd_L2 l0 x14_1) ((rd_L2 l0 x14_1).length:Int) (wrap64 (x20_2 + 1))) = some r:=by first|(rw [hy442];with_reducible exact H)|(have H2_:=(Option.bind_some _ _).symm.trans H;rw [hy442];with_reducible exact H2_)|(have H2_:=(Option.bind_some _ _).symm.trans H;with_reducible exact H2_)|with_reducible exact H|(rw [hy442];exact H)|exact H
               have Ny442:=Aside0.mk hy442
               clear hy442
               have H':=Aside0.mk H
               clear H
               obtain ⟨p441,q441,ad441,e441,hx441_0⟩:=aI (Kd.R_reads' HO_36.out).2.2 x38_5;cases e441
               go_wp2_with (first|((with_reducible refine gate_builtin (b:=.append) (xs:=#[.tmp 49,.tmp 51]) rfl ?_);at_builtin;refine Kd.R_append (Kd.int .i64) (w0:=w) w.heap.size rfl (.tmp 49) (.tmp 51) 24 3 (.int .i64 0) 8 rfl Try.underlying24 info3 rfl (by decide) YP u7 x7_2 (wrap64 ((-1) - x38_5)) [.int .i64 (wrap64 ((-1) - x38_5))] (fun k_=>some k_ ≠ (.slice (some ad441) x3_11.length co16:Value).ownBlock ∧ some k_ ≠ (.slice (some ad441) x3_11.length co16:Value).ownBlock) (fun _=>False) rfl rfl ?aP (fun _ hk=>hk.elim) ?aF ?aO ?aB ?aS ?aL ?_;(case aP=>exact rfl);(case aB=>exact bH);(case aF=>exact (fun k_ hk=>⟨Kd.fresh' (Kd.R_lt (rR HO_3)) k_ hk,Kd.fresh' (Kd.R_lt (rR HO_36)) k_ hk⟩));(case aO=>exact (rR HO_7));(case aS=>exact YR);(case aL=>have:=LMc21.out;omega);intro v443 w22 ho hb hg hat;rw [← Ny442.out] at ho;have n0_:=Aside0.mk (Kd.R_after (ok:=(fun _=>True)) (by (with_reducible repeat (first|apply Kd.R_alloc|apply Kd.R_drewN|apply Kd.R_drew));exact Kd.R_mono HO_3.out (fun _ hk=>⟨trivial,hk⟩)) hg hat);have n1_:=Aside0.mk (Kd.S_after (ok:=(fun k_=>some k_ ≠ (.slice (some ad441) x3_11.length co16:Value).ownBlock ∧ some k_ ≠ (.slice (some ad441) x3_11.length co16:Value).ownBlock)) (by (with_reducible repeat (first|apply Kd.S_alloc|apply Kd.S_drewN|apply Kd.S_drew));exact Kd.S_mono HO_4.out (fun _ hk=>⟨⟨hk.1,hk.2.2⟩,hk.2.1⟩)) hg hat);have n2_:=Aside0.mk (Kd.R_after (ok:=(fun _=>True)) (by (with_reducible repeat (first|apply Kd.R_alloc|apply Kd.R_drewN|apply Kd.R_drew));exact Kd.R_mono HO_36.out (fun _ hk=>⟨trivial,hk⟩)) hg hat);have n3_:=Aside0.mk (hb);have n4_:=Aside0.mk (ho);clear HO_3;clear HO_4;clear HO_36;clear HB;clear HO_7;have HO_3:=n0_;have HO_4:=n1_;have HO_36:=n2_;have HB:=n3_;have HO444:=n4_;clear n0_ n1_ n2_ n3_ n4_;clear ho hb hg hat))
               go_roundg k5
               case measure=>have:=HK1.out;have:=HK2.out;have:=HJ7.out;have:=HJ11.out;have:=HK5.out;omega
               case rel=>exact ⟨(x3_11),(y442),(wrap64 (x20_2 + 1)),Yd,H',⟨by have:=HK1.out;have:=HK2.out;have:=HJ7.out;have:=HJ11.out;have:=HK5.out;omega⟩,⟨YG⟩,⟨by (with_reducible repeat (first|apply Kd.S_alloc|apply Kd.S_drewN|apply Kd.S_drew));exact Kd.S_mono HO_4.out (fun _ hk=>⟨hk.1.1,hk.2⟩)⟩,⟨by (with_reducible repeat (first|apply Kd.R_alloc|apply Kd.R_drewN|apply Kd.R_drew));exact Kd.R_mono HO444.out (fun _ hk=>hk.1)⟩,⟨bH⟩⟩
              ·rw [if_neg c20] at H
               have c20b0:((rd x3_11 x38_5) == x9_5) = false:=beq_eq_false_iff_ne.mpr c20
               have c20b1:((rd x3_11 x38_5) != x9_5) = true:=bne_iff_ne.mpr c20
               have H':=Aside0.mk H
               clear H
               obtain ⟨p441,q441,ad441,e441,hx441_0⟩:=aI (Kd.R_reads' HO_36.out).2.2 x38_5;cases e441
               go_wp2
               go_roundg k5
               case measure=>have:=HK1.out;have:=HK2.out;have:=HJ7.out;have:=HJ11.out;have:=HK5.out;omega
               case rel=>exact ⟨(x9_5),(wrap64 (x38_5 + 1)),Yd,Yd,H',⟨by have:=HK1.out;have:=HK2.out;have:=HJ7.out;have:=HJ11.out;have:=HK5.out;omega⟩,⟨rR HO_3⟩,⟨rS HO_4⟩,⟨rR HO_7⟩,⟨rR HO_36⟩,⟨bH⟩⟩
             ·rw [if_neg c17] at H
              have c17b0:decide (x38_5 < (x3_11.length:Int)) = false:=decide_eq_false c17
              clear c17
              replace H:=gK H;obtain ⟨LMc23,H⟩:=H
              obtain ⟨y445,hy445⟩:∃ y_:List Int,y_ = (x7_2 ++ [x9_5]):=⟨_,rfl⟩
              replace H:(spec_l2Rename.l1 k5 x3_11 x4_1 y445 l0 (l0.length:Int) x14_1 (rd_L2 l0 x14_1) ((rd_L2 l0 x14_1).length:Int) (wrap64 (x20_2 + 1))) = some r:=by first|(rw [hy445];with_reducible exact H)|(have H2_:=(Option.bind_some _ _).symm.trans H;rw [hy445];with_reducible exact H2_)|(have H2_:=(Option.bind_some _ _).symm.trans H;with_reducible exact H2_)|with_reducible exact H|(rw [hy445];exact H)|exact H
              have Ny445:=Aside0.mk hy445
              clear hy445
              have H':=Aside0.mk H
              clear H
              go_wp2_with (first|((with_reducible refine gate_builtin (b:=.append) (xs:=#[.tmp 49,.tmp 51]) rfl ?_);at_builtin;refine Kd.R_append (Kd.int .i64) (w0:=w) w.heap.size rfl (.tmp 49) (.tmp 51) 24 3 (.int .i64 0) 8 rfl Try.underlying24 info3 rfl (by decide) YP u7 x7_2 x9_5 [.int .i64 x9_5] (fun k_=>some k_ ≠ (.slice Ao16 x3_11.length co16:Value).ownBlock ∧ some k_ ≠ (.slice Ao16 x3_11.length co16:Value).ownBlock) (fun _=>False) rfl rfl ?aP (fun _ hk=>hk.elim) ?aF ?aO ?aB ?aS ?aL ?_;(case aP=>exact rfl);(case aB=>exact bH);(case aF=>exact (fun k_ hk=>⟨Kd.fresh' (Kd.R_lt (rR HO_3)) k_ hk,Kd.fresh' (Kd.R_lt (rR HO_36)) k_ hk⟩));(case aO=>exact (rR HO_7));(case aS=>exact YR);(case aL=>have:=LMc23.out;omega);intro v446 w24 ho hb hg hat;rw [← Ny445.out] at ho;have n0_:=Aside0.mk (Kd.R_after (ok:=(fun _=>True)) (by (with_reducible repeat (first|apply Kd.R_alloc|apply Kd.R_drewN|apply Kd.R_drew));exact Kd.R_mono HO_3.out (fun _ hk=>⟨trivial,hk⟩)) hg hat);have n1_:=Aside0.mk (Kd.S_after (ok:=(fun k_=>some k_ ≠ (.slice Ao16 x3_11.length co16:Value).ownBlock ∧ some k_ ≠ (.slice Ao16 x3_11.length co16:Value).ownBlock)) (by (with_reducible repeat (first|apply Kd.S_alloc|apply Kd.S_drewN|apply Kd.S_drew));exact Kd.S_mono HO_4.out (fun _ hk=>⟨⟨hk.1,hk.2.2⟩,hk.2.1⟩)) hg hat);have n2_:=Aside0.mk (Kd.R_after (ok:=(fun _=>True)) (by (with_reducible repeat (first|apply Kd.R_alloc|apply Kd.R_drewN|apply Kd.R_drew));exact Kd.R_mono HO_36.out (fun _ hk=>⟨trivial,hk⟩)) hg hat);have n3_:=Aside0.mk (hb);have n4_:=Aside0.mk (ho);clear HO_3;clear HO_4;clear HO_36;clear HB;clear HO_7;have HO_3:=n0_;have HO_4:=n1_;have HO_36:=n2_;have HB:=n3_;have HO447:=n4_;clear n0_ n1_ n2_ n3_ n4_;clear ho hb hg hat))
              go_roundg k5
              case measure=>have:=HK1.out;have:=HK2.out;have:=HJ7.out;have:=HJ11.out;have:=HK5.out;omega
              case rel=>exact ⟨(x3_11),(y445),(wrap64 (x20_2 + 1)),Yd,H',⟨by have:=HK1.out;have:=HK2.out;have:=HJ7.out;have:=HJ11.out;have:=HK5.out;omega⟩,⟨YG⟩,⟨by (with_reducible repeat (first|apply Kd.S_alloc|apply Kd.S_drewN|apply Kd.S_drew));exact Kd.S_mono HO_4.out (fun _ hk=>⟨hk.1.1,hk.2⟩)⟩,⟨by (with_reducible repeat (first|apply Kd.R_alloc|apply Kd.R_drewN|apply Kd.R_drew));exact Kd.R_mono HO447.out (fun _ hk=>hk.1)⟩,⟨bH⟩⟩
      ·rw [if_neg c5] at H
       have c5b0:decide (x20_2 < ((rd_L2 l0 x14_1).length:Int)) = false:=decide_eq_false c5
       clear c5
       replace H:=gK H;obtain ⟨LMc25,H⟩:=H
       obtain ⟨y433,hy433⟩:∃ y_:List (List Int),y_ = (x4_1 ++ [x7_2]):=⟨_,rfl⟩
       replace H:(spec_l2Rename.l0 k2 x3_2 y433 l0 (l0.length:Int) (wrap64 (x14_1 + 1))) = some r:=by first|(rw [hy433];with_reducible exact H)|(have H2_:=(Option.bind_some _ _).symm.trans H;rw [hy433];with_reducible exact H2_)|(have H2_:=(Option.bind_some _ _).symm.trans H;with_reducible exact H2_)|with_reducible exact H|(rw [hy433];exact H)|exact H
       have Ny433:=Aside0.mk hy433
       clear hy433
       have H':=Aside0.mk H
       clear H
       obtain ⟨Ao27,co27,eo27⟩:=Kd.R_slice HO_7.out
       subst eo27
       go_wp2_with (first|((with_reducible refine gate_builtin (b:=.append) (xs:=#[.tmp 54,.tmp 56]) rfl ?_);at_builtin;refine Kd.S_append (Kd.slice 3 (Kd.int .i64)) (w0:=w) w.heap.size rfl (.tmp 54) (.tmp 56) 27 24 (.slice none 0 0) 24 rfl Try.underlying27 info24 rfl (by decide) YP u4 x4_1 x7_2 [.slice Ao27 x7_2.length co27] (fun k_=>some k_ ≠ (u3:Value).ownBlock) (fun k_=>some k_ = (.slice Ao27 x7_2.length co27:Value).ownBlock) rfl rfl ?aP (fun k_ hk_=>((Kd.R_mono (ok':=fun k_=>((fun k_=>some k_ ≠ (u3:Value).ownBlock)) k_ ∧ some k_ ≠ (u4:Value).ownBlock) (Kd.R_apart' (HO_7.out) (Kd.S_typed HO_4.out) (by decide)) (fun k_ hk=>⟨hk.1,hk.2⟩))).1 k_ hk_.symm) ?aF ?aO ?aB ?aS ?aL ?_;(case aP=>exact Kd.M_row (Kd.R_mono (Kd.R_tight rfl (Kd.R_mono (ok':=fun k_=>((fun k_=>some k_ ≠ (u3:Value).ownBlock)) k_ ∧ some k_ ≠ (u4:Value).ownBlock) (Kd.R_apart' (HO_7.out) (Kd.S_typed HO_4.out) (by decide)) (fun k_ hk=>⟨hk.1,hk.2⟩))) (fun _ h_=>h_)));(case aB=>exact bH);(case aF=>exact (fun k_ hk=>Kd.fresh' (Kd.R_lt (rR HO_3)) k_ hk));(case aO=>exact (by (with_reducible repeat (first|apply Kd.S_alloc|apply Kd.S_drewN|apply Kd.S_drew));exact Kd.S_mono HO_4.out (fun k_ hk=>⟨hk.1,fun e_=>hk.2 e_⟩)));(case aS=>exact YR);(case aL=>have:=LMc25.out;omega);intro v434 w26 ho hb hg hat;rw [← Ny433.out] at ho;have n0_:=Aside0.mk (Kd.R_over' (rR HO_3) (Kd.S_typed (rS HO_4)) (by decide) hg);have n1_:=Aside0.mk (hb);have n2_:=Aside0.mk (ho);clear HO_3;clear HB;clear HO_4;clear HO_7;have HO_3:=n0_;have HB:=n1_;have HO435:=n2_;clear n0_ n1_ n2_;clear ho hb hg hat))
       go_roundg k2
       case measure=>have:=HK1.out;have:=HK2.out;omega
       case rel=>exact ⟨(x3_2),(y433),(wrap64 (x14_1 + 1)),Yd,H',⟨by have:=HK1.out;have:=HK2.out;omega⟩,⟨YU⟩,⟨rS HO435⟩,⟨bH⟩⟩
   ·rw [if_neg c2] at H
    have c2b0:decide (x14_1 < (l0.length:Int)) = false:=decide_eq_false c2
    clear c2
    obtain rfl:=Option.some.inj H
    go_wp2
    go_ret
    exact ⟨_,Yb,by (with_reducible repeat (first|apply Kd.S_alloc|apply Kd.S_drewN|apply Kd.S_drew));exact Kd.S_mono HO_4.out (fun _ hk=>trivial),bH⟩

end Go.Proofs.Ytmgkflkfoccgkaa.QFnTidied
