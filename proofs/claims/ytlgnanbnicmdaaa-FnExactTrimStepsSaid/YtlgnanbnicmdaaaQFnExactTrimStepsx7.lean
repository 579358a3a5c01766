-- Written by this session's own program (wip/x/xprint.py, over the kit's printer); Lean checks it.
import Derived.Test.YtlgnanbnicmdaaaQFnExactTrimStepsx0
namespace Go.Proofs.Ytlgnanbnicmdaaa.QFnExactTrimSteps
open Go.RowKit Go.Proofs.YtlgnanbnicmdaaaW.PrintWords Go.Proofs.YtlgnanbnicmdaaaW.PrintLast Go.Proofs.YtlgnanbnicmdaaaW.PrintMore
attribute [local go_sem] max2_int min2_int max_two min_two max_three min_three max_four min_four   -- for this text's walks alone
set_option linter.unusedVariables false
set_option linter.unusedSimpArgs false

/-! ### spec_l9Needed: function 66 -/
mutual
def spec_l9Needed.l0:Nat → List (S83) → List Bool → Int → Option (List Int)
 | 0,_,_,_=>none
 | k + 1,x0,x5,x6=>if x6 ≥ 0 then (if 0 ≤ x6 then (if x6 < (x0.length:Int) then (spec_l9Needed.l1 k x0 x5 x6 ((rd_T83 x0 x6).f1) (((rd_T83 x0 x6).f1).length:Int) 0) else (none)) else (none)) else (spec_l9Needed.l2 k ([]:List Int) x5 (x5.length:Int) 0)
def spec_l9Needed.l1:Nat → List (S83) → List Bool → Int → List Int → Int → Int → Option (List Int)
 | 0,_,_,_,_,_,_=>none
 | k + 1,x0,x5,x6,x27,x28,x29=>if x29 < x28 then (if 0 ≤ x29 then (if x29 < (x27.length:Int) then (if 0 ≤ (rd x27 x29) then (if (rd x27 x29) < (x5.length:Int) then (if rdOf false x5 (rd x27 x29) = true then (spec_l9Needed.l1 k x0 (x5.set ((rd x27 x29):Int).toNat true) x6 x27 x28 (wrap64 (x29 + 1))) else (if 0 ≤ x6 then (if x6 < (x5.length:Int) then (spec_l9Needed.l1 k x0 (x5.set ((rd x27 x29):Int).toNat (rdOf false x5 x6)) x6 x27 x28 (wrap64 (x29 + 1))) else (none)) else (none))) else (none)) else (none)) else (none)) else (none)) else (spec_l9Needed.l0 k x0 x5 (wrap64 (x6 - 1)))
def spec_l9Needed.l2:Nat → List Int → List Bool → Int → Int → Option (List Int)
 | 0,_,_,_,_=>none
 | k + 1,x9,x47,x48,x49=>if x49 < x48 then (if 0 ≤ x49 then (if x49 < (x47.length:Int) then (if rdOf false x47 x49 = true then (if x9.length < 17592186044416 then (spec_l9Needed.l2 k (x9 ++ [x49]) x47 x48 (wrap64 (x49 + 1))) else (none)) else (spec_l9Needed.l2 k x9 x47 x48 (wrap64 (x49 + 1)))) else (none)) else (none)) else (some x9)
end
def spec_l9Needed.f (k:Nat) (l0:List (S83)) (a1:Int):Option (List Int):=if 0 ≤ (wrap64 (a1 + 1)) then (if (wrap64 (a1 + 1):Int).toNat ≤ 281474976710656 then ((some (List.replicate (wrap64 (a1 + 1):Int).toNat false:List Bool)).bind fun y232=>(if 0 ≤ a1 then (if a1 < (y232.length:Int) then (spec_l9Needed.l0 k l0 (y232.set (a1:Int).toNat true) a1) else (none)) else (none))) else (none)) else (none)
theorem spec_l9Needed.mono_l:∀ k,(∀ y0 y1 y2,LeO (spec_l9Needed.l0 k y0 y1 y2) (spec_l9Needed.l0 (k + 1) y0 y1 y2)) ∧ (∀ y0 y1 y2 y3 y4 y5,LeO (spec_l9Needed.l1 k y0 y1 y2 y3 y4 y5) (spec_l9Needed.l1 (k + 1) y0 y1 y2 y3 y4 y5)) ∧ (∀ y0 y1 y2 y3,LeO (spec_l9Needed.l2 k y0 y1 y2 y3) (spec_l9Needed.l2 (k + 1) y0 y1 y2 y3))
 | 0=>⟨fun _ _ _ r h=>by simp [spec_l9Needed.l0] at h,fun _ _ _ _ _ _ r h=>by simp [spec_l9Needed.l1] at h,fun _ _ _ _ r h=>by simp [spec_l9Needed.l2] at h⟩
 | k + 1=>by
  obtain ⟨ih0,ih1,ih2⟩:=spec_l9Needed.mono_l k
  refine ⟨?_,?_,?_⟩
  ·intro y0 y1 y2
   unfold spec_l9Needed.l0
   repeat' first
   | (with_reducible exact ih0 _ _ _)
   | (with_reducible exact ih1 _ _ _ _ _ _)
   | (with_reducible exact ih2 _ _ _ _)
   | (with_reducible exact LeO.refl _)
   | (with_reducible exact LeO.none _)
   | (with_reducible refine LeO.ite ?_ ?_)
   | (with_reducible refine LeO.bind ?_ (fun _=>?_))
   | exact ih0 _ _ _
   | exact ih1 _ _ _ _ _ _
   | exact ih2 _ _ _ _
   | exact LeO.none _
   | refine LeO.ite ?_ ?_
   | refine LeO.bind ?_ (fun _=>?_)
  ·intro y0 y1 y2 y3 y4 y5
   unfold spec_l9Needed.l1
   repeat' first
   | (with_reducible exact ih0 _ _ _)
   | (with_reducible exact ih1 _ _ _ _ _ _)
   | (with_reducible exact ih2 _ _ _ _)
   | (with_reducible exact LeO.refl _)
   | (with_reducible exact LeO.none _)
   | (with_reducible refine LeO.ite ?_ ?_)
   | (with_reducible refine LeO.bind ?_ (fun _=>?_))
   | exact ih0 _ _ _
   | exact ih1 _ _ _ _ _ _
   | exact ih2 _ _ _ _
   | exact LeO.none _
   | refine LeO.ite ?_ ?_
   | refine LeO.bind ?_ (fun _=>?_)
  ·intro y0 y1 y2 y3
   unfold spec_l9Needed.l2
   repeat' first
   | (with_reducible exact ih0 _ _ _)
   | (with_reducible exact ih1 _ _ _ _ _ _)
   | (with_reducible exact ih2 _ _ _ _)
   | (with_reducible exact LeO.refl _)
   | (with_reducible exact LeO.none _)
   | (with_reducible refine LeO.ite ?_ ?_)
   | (with_reducible refine LeO.bind ?_ (fun _=>?_))
   | exact ih0 _ _ _
   | exact ih1 _ _ _ _ _ _
   | exact ih2 _ _ _ _
   | exact LeO.none _
   | refine LeO.ite ?_ ?_
   | refine LeO.bind ?_ (fun _=>?_)
theorem spec_l9Needed.mono:∀ a0 a1 k,LeO (spec_l9Needed.f k a0 a1) (spec_l9Needed.f (k + 1) a0 a1):=by
 intro a0 a1 k
 obtain ⟨ih0,ih1,ih2⟩:=spec_l9Needed.mono_l k
 unfold spec_l9Needed.f
 repeat' first
   | (with_reducible exact ih0 _ _ _)
   | (with_reducible exact ih1 _ _ _ _ _ _)
   | (with_reducible exact ih2 _ _ _ _)
   | (with_reducible exact LeO.refl _)
   | (with_reducible exact LeO.none _)
   | (with_reducible refine LeO.ite ?_ ?_)
   | (with_reducible refine LeO.bind ?_ (fun _=>?_))
   | exact ih0 _ _ _
   | exact ih1 _ _ _ _ _ _
   | exact ih2 _ _ _ _
   | exact LeO.none _
   | refine LeO.ite ?_ ?_
   | refine LeO.bind ?_ (fun _=>?_)
set_option maxHeartbeats 8000000 in
set_option maxRecDepth 100000 in
theorem spec_l9Needed.calls (k:Nat) (A0:Option Addr) (c0:Nat) (l0:List (S83)) (a1:Int) (r:List Int) (w:World) (hr0:Kd.C k83 w A0 l0.length l0) (hc0:l0.length ≤ c0) (h:spec_l9Needed.f k l0 a1 = some r) :
  Calls Try.prog 66 #[.slice A0 l0.length c0,.int .i64 a1] w fun e w'=>∃ v0_:Value,e = .returned (v0_) ∧ Kd.R (Kd.int .i64) 3 w' w.heap.size (fun _=>True) v0_ r ∧ Below w.heap.size w w':=by
 have HR0:=Aside0.mk hr0
 have HC0:=Aside0.mk hc0
 clear hr0 hc0
 have HB:=Aside0.mk (Below.refl w.heap.size w)
 have H:(if 0 ≤ (wrap64 (a1 + 1)) then (if (wrap64 (a1 + 1):Int).toNat ≤ 281474976710656 then ((some (List.replicate (wrap64 (a1 + 1):Int).toNat false:List Bool)).bind fun y232=>(if 0 ≤ a1 then (if a1 < (y232.length:Int) then (spec_l9Needed.l0 k l0 (y232.set (a1:Int).toNat true) a1) else (none)) else (none))) else (none)) else (none)) = some r:=h
 clear h
 obtain ⟨ji3,hji3⟩:∃ j_:Int,(wrap64 (a1 + 1)) = j_:=⟨_,rfl⟩
 replace H:(if 0 ≤ (ji3) then (if (ji3:Int).toNat ≤ 281474976710656 then ((some (List.replicate (ji3:Int).toNat false:List Bool)).bind fun y232=>(if 0 ≤ a1 then (if a1 < (y232.length:Int) then (spec_l9Needed.l0 k l0 (y232.set (a1:Int).toNat true) a1) else (none)) else (none))) else (none)) else (none)) = some r:=by first|(rw [hji3] at H;exact H)|(simp only [hji3] at H ⊢;exact H)
 have hji3w:(IntKind.i64.wrap (a1 + 1)) = ji3:=(i64_w _).trans hji3
 by_cases c4:0 ≤ (ji3)
 ·rw [if_pos c4] at H
  have c4b0:=eq_true c4
  have c4b1:decide (0 ≤ (ji3)) = true:=decide_eq_true c4
  clear c4
  by_cases c5:(ji3:Int).toNat ≤ 281474976710656
  ·rw [if_pos c5] at H
   have c5b0:=eq_true c5
   have c5b1:decide ((ji3:Int).toNat ≤ 281474976710656) = true:=decide_eq_true c5
   clear c5
   obtain ⟨y232,hy232⟩:∃ y_:List Bool,y_ = (List.replicate (ji3:Int).toNat false):=⟨_,rfl⟩
   replace H:(if 0 ≤ a1 then (if a1 < (y232.length:Int) then (spec_l9Needed.l0 k l0 (y232.set (a1:Int).toNat true) a1) else (none)) else (none)) = some r:=by first|(rw [hy232];with_reducible exact H)|(have H2_:=(Option.bind_some _ _).symm.trans H;rw [hy232];with_reducible exact H2_)|(have H2_:=(Option.bind_some _ _).symm.trans H;with_reducible exact H2_)|with_reducible exact H|(rw [hy232];exact H)|exact H
   have Ny232:=Aside0.mk hy232
   clear hy232
   by_cases c6:0 ≤ a1
   ·rw [if_pos c6] at H
    have c6b0:decide (0 ≤ a1) = true:=decide_eq_true c6
    clear c6
    by_cases c7:a1 < (y232.length:Int)
    ·rw [if_pos c7] at H
     have c7b0:decide (a1 < (y232.length:Int)) = true:=decide_eq_true c7
     clear c7
     obtain ⟨y235,hy235⟩:∃ y_:List Bool,y_ = (y232.set (a1:Int).toNat true):=⟨_,rfl⟩
     replace H:(spec_l9Needed.l0 k l0 y235 a1) = some r:=by first|(rw [hy235];with_reducible exact H)|(have H2_:=(Option.bind_some _ _).symm.trans H;rw [hy235];with_reducible exact H2_)|(have H2_:=(Option.bind_some _ _).symm.trans H;with_reducible exact H2_)|with_reducible exact H|(rw [hy235];exact H)|exact H
     have Ny235:=Aside0.mk hy235
     clear hy235
     have H':=Aside0.mk H
     clear H
     go_enter Try.func66,Try.ntmps66
     go_wp2_with (first|((with_reducible refine gate_dst (N:=14) rfl ?_);refine Kd.R_make Kd.bool _ 4 rfl (N:=14) rfl 108 _ _ rfl ji3 rfl rfl Try.underlying108 (.bool false) 1 info4 rfl (by decide) (by first|decide|omega) false (ok:=fun _=>True) (okp:=fun _=>True) rfl (fun _ hk=>hk) trivial (of_decide_eq_true (by first|(with_reducible assumption)|assumption)) (Nat.le_trans (Nat.mul_le_mul_right _ (of_decide_eq_true (by first|(with_reducible assumption)|assumption):ji3.toNat ≤ 281474976710656)) (by first|decide|omega)) (Below.refl _ _) (Nat.le_refl _) ?_;intro v233 w9 ho10 hb hg_ hnew_;clear hg_ hnew_;(first|rw [← Ny232.out] at ho10|(simp only [Int.reduceToNat] at ho10;rw [← Ny232.out] at ho10));have n0_:=Aside0.mk (Kd.R_lower ho10 (below_size (by repeat (first|(with_reducible first|exact HB.out|apply below_alloc|apply pw_below_drewN|apply below_drew1)|exact HB.out))));have n1_:=Aside0.mk (below_step (by repeat (first|(with_reducible first|exact HB.out|apply below_alloc|apply pw_below_drewN|apply below_drew1)|exact HB.out)) hb);clear HB;have HO234:=n0_;have HB:=n1_;clear n0_ n1_;clear hb ho10;have p8:0 ≤ (a1:Int):=of_decide_eq_true (by first|(with_reducible assumption)|assumption);have q8:(a1:Int) < ((y232.length:Int):Int):=of_decide_eq_true (by first|(with_reducible assumption)|assumption);obtain ⟨go8,co8,eo8,gb8,gl8,cl8,HG8⟩:=Kd.R_form HO234.out (by omega);(first|cases eo8|(injection eo8 with ea_ en_ ec_;(first|subst ea_|(injection ea_ with ea_;subst ea_));subst ec_;clear en_));have GB8:=Aside0.mk gb8;have GG8:=Aside0.mk HG8;clear gb8 gl8 HG8;obtain ⟨hx8_0,hf8_0⟩:=Kd.R_celln false HO234.out (a1:Int) p8 q8;replace p8:=eq_true p8;replace q8:=eq_true q8;obtain ⟨hy11_,hz11_⟩:=Kd.R_celln false HO234.out (a1:Int) (of_decide_eq_true (by first|(with_reducible assumption)|assumption)) (of_decide_eq_true (by first|(with_reducible assumption)|assumption));have HP11:=Kd.R_putg HO234.out (a1:Int) true)|((with_reducible refine gate_store (t:=4) (p:=17) rfl ?_);refine store_event (t:=4) (p:=17) (v:=?vo_w12) (w1:=(w9.setCell ⟨go8,(a1:Int).toNat,none⟩ (.bool true))) ?hg ?ho ?hn ?hr ?_;(case ho=>rfl);(case hg=>rfl);(case hn=>rfl);(case hr=>first|(go_simp;done)|(go_simp;rfl));intro w12 hw;have hg:w9.grownBy w12 (some go8):=(by rw [hw];exact HP11.2);have hp_:Kd.R Kd.bool 4 w12 w.heap.size (fun _=>True) (.slice (some ⟨go8,0,none⟩) y232.length co8) y235:=(by rw [hw,Ny235.out];exact HP11.1);clear HP11;have n0_:=Aside0.mk (hp_);have n1_:=Aside0.mk ((by rw [hw];exact below_set (HB.out) GB8.out:Below w.heap.size w w12));clear HO234;clear HB;have HO234:=n0_;have HB:=n1_;clear n0_ n1_;clear hg hw hp_))
     go_loopg [6] k (fun kq v6 w'=>∃ (x5_1:List Bool) (x6_1:Int),v6 = .int .i64 x6_1 ∧ Aside0 (spec_l9Needed.l0 kq l0 x5_1 x6_1 = some r) ∧ Aside0 (kq ≤ k) ∧ Aside0 (Kd.R Kd.bool 4 w' w.heap.size (fun _=>True) (.slice (some ⟨go8,0,none⟩) y232.length co8) x5_1) ∧ Aside0 (Below w.heap.size w w'))
     case atStart=>exact ⟨(y235),(a1),(by first|rfl|(simp;done)|(simp [*];done)),H',⟨Nat.le_refl _⟩,⟨by (with_reducible repeat (first|apply Kd.R_alloc|apply Kd.R_drewN|apply Kd.R_drew));exact HO234.out⟩,⟨by repeat (first|(with_reducible first|exact HB.out|apply below_alloc|apply pw_below_drewN|apply below_drew1)|exact HB.out)⟩⟩
     case round =>
      clear H'
      try clear p2
      try clear c4
      try clear c4b0
      try clear c4b1
      try clear c5
      try clear c5b0
      try clear c5b1
      try clear c6
      try clear c6b0
      try clear p6
      try clear c7
      try clear c7b0
      try clear p8
      try clear q8
      try clear hx8
      try clear hf8
      try clear hx8_0
      try clear p8
      try clear q8
      obtain ⟨x5_1,x6_1,rfl,HA,HK1,HO_5,HB⟩:=hrel
      have hl5_1:=(Kd.R_reads' HO_5.out).1
      rw [hl5_1] at HO_5
      (try simp only [hl5_1])
      cases gk with
      | zero=>exact absurd HA.out (by simp [spec_l9Needed.l0])
      | succ k1 =>
       have H:=HA.out
       clear HA
       simp only [spec_l9Needed.l0] at H
       by_cases c13:x6_1 ≥ 0
       ·rw [if_pos c13] at H
        have c13b0:decide (0 ≤ x6_1) = true:=decide_eq_true c13
        clear c13
        by_cases c14:0 ≤ x6_1
        ·rw [if_pos c14] at H
         have c14b0:decide (0 ≤ x6_1) = true:=decide_eq_true c14
         clear c14
         by_cases c15:x6_1 < (l0.length:Int)
         ·rw [if_pos c15] at H
          have c15b0:decide (x6_1 < (l0.length:Int)) = true:=decide_eq_true c15
          clear c15
          have H':=Aside0.mk H
          clear H
          have p236:0 ≤ (x6_1:Int):=of_decide_eq_true (by first|(with_reducible assumption)|assumption)
          have q236:x6_1 < (l0.length:Int):=of_decide_eq_true (by first|(with_reducible assumption)|assumption)
          obtain ⟨ad236,A236_1,c236_1,A236_2,c236_2,A236_3,c236_3,e236,hx236_0,hx236_1,hx236_2,hx236_3,hl236_1,hi236_1,hl236_2,hi236_2,hl236_3,hi236_3⟩:=at_T83 HR0.out x6_1 p236 q236
          cases e236
          replace hx236_0:=(HB.out.cell (World.block_lt_of_cell? w _ hx236_0)).trans hx236_0
          replace hx236_1:=(HB.out.cell (World.block_lt_of_cell? w _ hx236_1)).trans hx236_1
          replace hx236_2:=(HB.out.cell (World.block_lt_of_cell? w _ hx236_2)).trans hx236_2
          replace hx236_3:=(HB.out.cell (World.block_lt_of_cell? w _ hx236_3)).trans hx236_3
          have HR236_1:=Aside0.mk hi236_1
          have HC236_1:=Aside0.mk hl236_1
          clear hi236_1 hl236_1
          have HR236_2:=Aside0.mk hi236_2
          have HC236_2:=Aside0.mk hl236_2
          clear hi236_2 hl236_2
          have HR236_3:=Aside0.mk hi236_3
          have HC236_3:=Aside0.mk hl236_3
          clear hi236_3 hl236_3
          replace p236:=eq_true p236
          replace q236:=eq_true q236
          go_wp2
          go_loopg [29] k1 (fun kq v29 w'=>∃ (x5_2:List Bool) (x29_2:Int),v29 = .int .i64 x29_2 ∧ Aside0 (spec_l9Needed.l1 kq l0 x5_2 x6_1 ((rd_T83 l0 x6_1).f1) (((rd_T83 l0 x6_1).f1).length:Int) x29_2 = some r) ∧ Aside0 (kq ≤ k1) ∧ Aside0 (Kd.R Kd.bool 4 w' w.heap.size (fun _=>True) (.slice (some ⟨go8,0,none⟩) x5_1.length co8) x5_2) ∧ Aside0 (Below w.heap.size w w'))
          case atStart=>exact ⟨(x5_1),(0),(by first|rfl|(simp;done)|(simp [*];done)),H',⟨Nat.le_refl _⟩,⟨by (try simp only [hl5_1]);(with_reducible repeat (first|apply Kd.R_alloc|apply Kd.R_drewN|apply Kd.R_drew));exact HO_5.out⟩,⟨by repeat (first|(with_reducible first|exact HB.out|apply below_alloc|apply pw_below_drewN|apply below_drew1)|exact HB.out)⟩⟩
          case round =>
           clear H'
           try clear c1
           try clear c2
           try clear p2
           try clear q2
           try clear hx2
           try clear c4
           try clear c4b0
           try clear c4b1
           try clear c5
           try clear c5b0
           try clear c5b1
           try clear c6
           try clear c6b0
           try clear p6
           try clear c7
           try clear c7b0
           try clear p8
           try clear q8
           try clear hx8
           try clear hf8
           try clear c13
           try clear c13b0
           try clear c14
           try clear c14b0
           try clear c15
           try clear c15b0
           try clear hx236_0
           try clear hx236_1
           try clear hx236_2
           try clear hx236_3
           try clear hx8_0
           try clear p2
           try clear p236
           try clear p6
           try clear p8
           try clear q236
           try clear q8
           obtain ⟨x5_2,x29_2,rfl,HA,HK2,HO_5,HB⟩:=hrel
           have hl5_2:=(Kd.R_reads' HO_5.out).1
           rw [hl5_2] at HO_5
           (try simp only [hl5_2])
           cases gk with
           | zero=>exact absurd HA.out (by simp [spec_l9Needed.l1])
           | succ k2 =>
            have H:=HA.out
            clear HA
            simp only [spec_l9Needed.l1] at H
            by_cases c16:x29_2 < (((rd_T83 l0 x6_1).f1).length:Int)
            ·rw [if_pos c16] at H
             have c16b0:decide (x29_2 < (((rd_T83 l0 x6_1).f1).length:Int)) = true:=decide_eq_true c16
             clear c16
             by_cases c17:0 ≤ x29_2
             ·rw [if_pos c17] at H
              have c17b0:decide (0 ≤ x29_2) = true:=decide_eq_true c17
              clear c17
              by_cases c18:x29_2 < (((rd_T83 l0 x6_1).f1).length:Int)
              ·rw [if_pos c18] at H
               have c18b0:decide (x29_2 < (((rd_T83 l0 x6_1).f1).length:Int)) = true:=decide_eq_true c18
               clear c18
               by_cases c19:0 ≤ (rd ((rd_T83 l0 x6_1).f1) x29_2)
               ·rw [if_pos c19] at H
                have c19b0:decide (0 ≤ (rd ((rd_T83 l0 x6_1).f1) x29_2)) = true:=decide_eq_true c19
                clear c19
                by_cases c20:(rd ((rd_T83 l0 x6_1).f1) x29_2) < (x5_2.length:Int)
                ·rw [if_pos c20] at H
                 have c20b0:decide ((rd ((rd_T83 l0 x6_1).f1) x29_2) < (x5_2.length:Int)) = true:=decide_eq_true c20
                 clear c20
                 obtain ⟨bq21,hbq21⟩:∃ b_:Bool,b_ = (rdOf false x5_2 (rd ((rd_T83 l0 x6_1).f1) x29_2)):=⟨_,rfl⟩
                 replace H:(if bq21 = true then (spec_l9Needed.l1 k2 l0 (x5_2.set ((rd ((rd_T83 l0 x6_1).f1) x29_2):Int).toNat true) x6_1 ((rd_T83 l0 x6_1).f1) (((rd_T83 l0 x6_1).f1).length:Int) (wrap64 (x29_2 + 1))) else (if 0 ≤ x6_1 then (if x6_1 < (x5_2.length:Int) then (spec_l9Needed.l1 k2 l0 (x5_2.set ((rd ((rd_T83 l0 x6_1).f1) x29_2):Int).toNat (rdOf false x5_2 x6_1)) x6_1 ((rd_T83 l0 x6_1).f1) (((rd_T83 l0 x6_1).f1).length:Int) (wrap64 (x29_2 + 1))) else (none)) else (none))) = some r:=by rw [← hbq21] at H;exact H
                 have Nbq21:=Aside0.mk hbq21
                 clear hbq21
                 by_cases c22:bq21 = true
                 ·subst c22
                  have H1:(spec_l9Needed.l1 k2 l0 (x5_2.set ((rd ((rd_T83 l0 x6_1).f1) x29_2):Int).toNat true) x6_1 ((rd_T83 l0 x6_1).f1) (((rd_T83 l0 x6_1).f1).length:Int) (wrap64 (x29_2 + 1))) = some r:=by rw [if_pos rfl] at H;exact H
                  clear H
                  have H:=H1
                  clear H1
                  obtain ⟨y239,hy239⟩:∃ y_:List Bool,y_ = (x5_2.set ((rd ((rd_T83 l0 x6_1).f1) x29_2):Int).toNat true):=⟨_,rfl⟩
                  replace H:(spec_l9Needed.l1 k2 l0 y239 x6_1 ((rd_T83 l0 x6_1).f1) (((rd_T83 l0 x6_1).f1).length:Int) (wrap64 (x29_2 + 1))) = some r:=by first|(rw [hy239];with_reducible exact H)|(have H2_:=(Option.bind_some _ _).symm.trans H;rw [hy239];with_reducible exact H2_)|(have H2_:=(Option.bind_some _ _).symm.trans H;with_reducible exact H2_)|with_reducible exact H|(rw [hy239];exact H)|exact H
                  have Ny239:=Aside0.mk hy239
                  clear hy239
                  have H':=Aside0.mk H
                  clear H
                  have p237:0 ≤ (x29_2:Int):=of_decide_eq_true (by first|(with_reducible assumption)|assumption)
                  have q237:x29_2 < (((rd_T83 l0 x6_1).f1).length:Int):=of_decide_eq_true (by first|(with_reducible assumption)|assumption)
                  obtain ⟨ad237,e237,hx237_0⟩:=Kd.at_int HR236_1.out x29_2 p237 q237
                  cases e237
                  replace hx237_0:=(HB.out.cell (World.block_lt_of_cell? w _ hx237_0)).trans hx237_0
                  replace p237:=eq_true p237
                  replace q237:=eq_true q237
                  have p238:0 ≤ ((rd ((rd_T83 l0 x6_1).f1) x29_2):Int):=of_decide_eq_true (by first|(with_reducible assumption)|assumption)
                  have q238:(rd ((rd_T83 l0 x6_1).f1) x29_2) < (x5_2.length:Int):=of_decide_eq_true (by first|(with_reducible assumption)|assumption)
                  obtain ⟨ad238,e238,hx238_0⟩:=Kd.at_bool (Kd.R_reads' HO_5.out).2.2 (rd ((rd_T83 l0 x6_1).f1) x29_2) p238 q238
                  (try rw [← Nbq21.out] at hx238_0)
                  obtain rfl:(⟨go8,0,none⟩:Addr) = ad238:=(by injection e238)
                  (first|simp only [add_plain] at hx238_0|simp only [add_at] at hx238_0|simp only [Addr.add,Nat.zero_add] at hx238_0|skip)
                  replace p238:=eq_true p238
                  replace q238:=eq_true q238
                  have p23:0 ≤ ((rd ((rd_T83 l0 x6_1).f1) x29_2):Int):=of_decide_eq_true (by first|(with_reducible assumption)|assumption)
                  have q23:((rd ((rd_T83 l0 x6_1).f1) x29_2):Int) < ((x5_2.length:Int):Int):=of_decide_eq_true (by first|(with_reducible assumption)|assumption)
                  obtain ⟨hx23_0,hf23_0⟩:=Kd.R_celln false HO_5.out ((rd ((rd_T83 l0 x6_1).f1) x29_2):Int) p23 q23
                  replace p23:=eq_true p23
                  replace q23:=eq_true q23
                  have HP24:=Kd.R_putg HO_5.out ((rd ((rd_T83 l0 x6_1).f1) x29_2):Int) true
                  go_wp2_with (first|((with_reducible refine gate_store (t:=4) (p:=45) rfl ?_);refine store_event (t:=4) (p:=45) (v:=?vo_w25) (w1:=(wr.setCell ⟨go8,((rd ((rd_T83 l0 x6_1).f1) x29_2):Int).toNat,none⟩ (.bool true))) ?hg ?ho ?hn ?hr ?_;(case ho=>rfl);(case hg=>rfl);(case hn=>rfl);(case hr=>first|(go_simp;done)|(go_simp;rfl));intro w25 hw;have hg:wr.grownBy w25 (some go8):=(by rw [hw];exact HP24.2);have hp_:Kd.R Kd.bool 4 w25 w.heap.size (fun _=>True) (.slice (some ⟨go8,0,none⟩) x5_2.length co8) y239:=(by rw [hw,Ny239.out];exact HP24.1);clear HP24;have n0_:=Aside0.mk (hp_);have n1_:=Aside0.mk ((by rw [hw];exact below_set (HB.out) GB8.out:Below w.heap.size w w25));clear HO_5;clear HB;have HO_5:=n0_;have HB:=n1_;clear n0_ n1_;clear hg hw hp_))
                  (try simp only [← hl5_2])
                  go_roundg k2
                  case measure=>have:=HK1.out;have:=HK2.out;omega
                  case rel=>exact ⟨(y239),(wrap64 (x29_2 + 1)),(by first|rfl|(simp;done)|(simp [*];done)),H',⟨by have:=HK1.out;have:=HK2.out;omega⟩,⟨by (try simp only [hl5_1]);(try simp only [hl5_2]);(with_reducible repeat (first|apply Kd.R_alloc|apply Kd.R_drewN|apply Kd.R_drew));exact HO_5.out⟩,⟨by repeat (first|(with_reducible first|exact HB.out|apply below_alloc|apply pw_below_drewN|apply below_drew1)|exact HB.out)⟩⟩
                 ·replace c22:=Bool.eq_false_iff.mpr c22
                  subst c22
                  have H1:(if 0 ≤ x6_1 then (if x6_1 < (x5_2.length:Int) then (spec_l9Needed.l1 k2 l0 (x5_2.set ((rd ((rd_T83 l0 x6_1).f1) x29_2):Int).toNat (rdOf false x5_2 x6_1)) x6_1 ((rd_T83 l0 x6_1).f1) (((rd_T83 l0 x6_1).f1).length:Int) (wrap64 (x29_2 + 1))) else (none)) else (none)) = some r:=by rw [if_neg (show ¬ (false = true) by decide)] at H;exact H
                  clear H
                  have H:=H1
                  clear H1
                  by_cases c26:0 ≤ x6_1
                  ·rw [if_pos c26] at H
                   have c26b0:decide (0 ≤ x6_1) = true:=decide_eq_true c26
                   clear c26
                   by_cases c27:x6_1 < (x5_2.length:Int)
                   ·rw [if_pos c27] at H
                    have c27b0:decide (x6_1 < (x5_2.length:Int)) = true:=decide_eq_true c27
                    clear c27
                    obtain ⟨y241,hy241⟩:∃ y_:List Bool,y_ = (x5_2.set ((rd ((rd_T83 l0 x6_1).f1) x29_2):Int).toNat (rdOf false x5_2 x6_1)):=⟨_,rfl⟩
                    replace H:(spec_l9Needed.l1 k2 l0 y241 x6_1 ((rd_T83 l0 x6_1).f1) (((rd_T83 l0 x6_1).f1).length:Int) (wrap64 (x29_2 + 1))) = some r:=by first|(rw [hy241];with_reducible exact H)|(have H2_:=(Option.bind_some _ _).symm.trans H;rw [hy241];with_reducible exact H2_)|(have H2_:=(Option.bind_some _ _).symm.trans H;with_reducible exact H2_)|with_reducible exact H|(rw [hy241];exact H)|exact H
                    have Ny241:=Aside0.mk hy241
                    clear hy241
                    have H':=Aside0.mk H
                    clear H
                    have p237:0 ≤ (x29_2:Int):=of_decide_eq_true (by first|(with_reducible assumption)|assumption)
                    have q237:x29_2 < (((rd_T83 l0 x6_1).f1).length:Int):=of_decide_eq_true (by first|(with_reducible assumption)|assumption)
                    obtain ⟨ad237,e237,hx237_0⟩:=Kd.at_int HR236_1.out x29_2 p237 q237
                    cases e237
                    replace hx237_0:=(HB.out.cell (World.block_lt_of_cell? w _ hx237_0)).trans hx237_0
                    replace p237:=eq_true p237
                    replace q237:=eq_true q237
                    have p238:0 ≤ ((rd ((rd_T83 l0 x6_1).f1) x29_2):Int):=of_decide_eq_true (by first|(with_reducible assumption)|assumption)
                    have q238:(rd ((rd_T83 l0 x6_1).f1) x29_2) < (x5_2.length:Int):=of_decide_eq_true (by first|(with_reducible assumption)|assumption)
                    obtain ⟨ad238,e238,hx238_0⟩:=Kd.at_bool (Kd.R_reads' HO_5.out).2.2 (rd ((rd_T83 l0 x6_1).f1) x29_2) p238 q238
                    (try rw [← Nbq21.out] at hx238_0)
                    obtain rfl:(⟨go8,0,none⟩:Addr) = ad238:=(by injection e238)
                    (first|simp only [add_plain] at hx238_0|simp only [add_at] at hx238_0|simp only [Addr.add,Nat.zero_add] at hx238_0|skip)
                    replace p238:=eq_true p238
                    replace q238:=eq_true q238
                    have p240:0 ≤ (x6_1:Int):=of_decide_eq_true (by first|(with_reducible assumption)|assumption)
                    have q240:x6_1 < (x5_2.length:Int):=of_decide_eq_true (by first|(with_reducible assumption)|assumption)
                    obtain ⟨ad240,e240,hx240_0⟩:=Kd.at_bool (Kd.R_reads' HO_5.out).2.2 x6_1 p240 q240
                    (try rw [← Nbq21.out] at hx240_0)
                    obtain rfl:(⟨go8,0,none⟩:Addr) = ad240:=(by injection e240)
                    (first|simp only [add_plain] at hx240_0|simp only [add_at] at hx240_0|simp only [Addr.add,Nat.zero_add] at hx240_0|skip)
                    replace p240:=eq_true p240
                    replace q240:=eq_true q240
                    have p28:0 ≤ ((rd ((rd_T83 l0 x6_1).f1) x29_2):Int):=of_decide_eq_true (by first|(with_reducible assumption)|assumption)
                    have q28:((rd ((rd_T83 l0 x6_1).f1) x29_2):Int) < ((x5_2.length:Int):Int):=of_decide_eq_true (by first|(with_reducible assumption)|assumption)
                    obtain ⟨hx28_0,hf28_0⟩:=Kd.R_celln false HO_5.out ((rd ((rd_T83 l0 x6_1).f1) x29_2):Int) p28 q28
                    replace p28:=eq_true p28
                    replace q28:=eq_true q28
                    have HP29:=Kd.R_putg HO_5.out ((rd ((rd_T83 l0 x6_1).f1) x29_2):Int) (rdOf false x5_2 x6_1)
                    go_wp2_with (first|((with_reducible refine gate_store (t:=4) (p:=45) rfl ?_);refine store_event (t:=4) (p:=45) (v:=?vo_w30) (w1:=(wr.setCell ⟨go8,((rd ((rd_T83 l0 x6_1).f1) x29_2):Int).toNat,none⟩ (.bool (rdOf false x5_2 x6_1)))) ?hg ?ho ?hn ?hr ?_;(case ho=>rfl);(case hg=>rfl);(case hn=>rfl);(case hr=>first|(go_simp;done)|(go_simp;rfl));intro w30 hw;have hg:wr.grownBy w30 (some go8):=(by rw [hw];exact HP29.2);have hp_:Kd.R Kd.bool 4 w30 w.heap.size (fun _=>True) (.slice (some ⟨go8,0,none⟩) x5_2.length co8) y241:=(by rw [hw,Ny241.out];exact HP29.1);clear HP29;have n0_:=Aside0.mk (hp_);have n1_:=Aside0.mk ((by rw [hw];exact below_set (HB.out) GB8.out:Below w.heap.size w w30));clear HO_5;clear HB;have HO_5:=n0_;have HB:=n1_;clear n0_ n1_;clear hg hw hp_))
                    (try simp only [← hl5_2])
                    go_roundg k2
                    case measure=>have:=HK1.out;have:=HK2.out;omega
                    case rel=>exact ⟨(y241),(wrap64 (x29_2 + 1)),(by first|rfl|(simp;done)|(simp [*];done)),H',⟨by have:=HK1.out;have:=HK2.out;omega⟩,⟨by (try simp only [hl5_1]);(try simp only [hl5_2]);(with_reducible repeat (first|apply Kd.R_alloc|apply Kd.R_drewN|apply Kd.R_drew));exact HO_5.out⟩,⟨by repeat (first|(with_reducible first|exact HB.out|apply below_alloc|apply pw_below_drewN|apply below_drew1)|exact HB.out)⟩⟩
                   ·rw [if_neg c27] at H
                    exact absurd H (by simp)
                  ·rw [if_neg c26] at H
                   exact absurd H (by simp)
                ·rw [if_neg c20] at H
                 exact absurd H (by simp)
               ·rw [if_neg c19] at H
                exact absurd H (by simp)
              ·rw [if_neg c18] at H
               exact absurd H (by simp)
             ·rw [if_neg c17] at H
              exact absurd H (by simp)
            ·rw [if_neg c16] at H
             have c16b0:decide (x29_2 < (((rd_T83 l0 x6_1).f1).length:Int)) = false:=decide_eq_false c16
             clear c16
             have H':=Aside0.mk H
             clear H
             go_wp2
             (try simp only [← hl5_1,← hl5_2])
             go_roundg k2
             case measure=>have:=HK1.out;have:=HK2.out;omega
             case rel=>exact ⟨(x5_2),(wrap64 (x6_1 - 1)),(by first|rfl|(simp;done)|(simp [*];done)),H',⟨by have:=HK1.out;have:=HK2.out;omega⟩,⟨by (try simp only [hl5_1]);(try simp only [hl5_2]);(with_reducible repeat (first|apply Kd.R_alloc|apply Kd.R_drewN|apply Kd.R_drew));exact HO_5.out⟩,⟨by repeat (first|(with_reducible first|exact HB.out|apply below_alloc|apply pw_below_drewN|apply below_drew1)|exact HB.out)⟩⟩
         ·rw [if_neg c15] at H
          exact absurd H (by simp)
        ·rw [if_neg c14] at H
         exact absurd H (by simp)
       ·rw [if_neg c13] at H
        have c13b0:decide (0 ≤ x6_1) = false:=decide_eq_false c13
        clear c13
        have H':=Aside0.mk H
        clear H
        go_wp2
        go_loopg [9,49] k1 (fun kq v9 v49 w'=>∃ (x9_2:List Int) (x49_2:Int),v49 = .int .i64 x49_2 ∧ Aside0 (spec_l9Needed.l2 kq x9_2 x5_1 (x5_1.length:Int) x49_2 = some r) ∧ Aside0 (kq ≤ k1) ∧ Aside0 (Kd.R (Kd.int .i64) 3 w' w.heap.size (fun _=>True) v9 x9_2) ∧ Aside0 (Kd.R Kd.bool 4 w' w.heap.size (fun _=>True) (.slice (some ⟨go8,0,none⟩) x5_1.length co8) x5_1) ∧ Aside0 (Below w.heap.size w w'))
        case atStart=>exact ⟨(([]:List Int)),(0),(by first|rfl|(simp;done)|(simp [*];done)),H',⟨Nat.le_refl _⟩,⟨by (try simp only [hl5_1]);first|exact Kd.R_nil _ _ _ _ _|exact Kd.N_nil _ _ _ _ _|exact Kd.V_nil _ _ _ _ _|exact Kd.Q_nil _ _ _ _ _|exact Kd.S_nil _ _ _ _ _⟩,⟨by (try simp only [hl5_1]);(with_reducible repeat (first|apply Kd.R_alloc|apply Kd.R_drewN|apply Kd.R_drew));exact HO_5.out⟩,⟨by repeat (first|(with_reducible first|exact HB.out|apply below_alloc|apply pw_below_drewN|apply below_drew1)|exact HB.out)⟩⟩
        case round =>
         clear H'
         try clear c1
         try clear c2
         try clear p2
         try clear q2
         try clear hx2
         try clear hf2
         try clear c4
         try clear c4b0
         try clear c4b1
         try clear c5
         try clear c5b0
         try clear c5b1
         try clear c6
         try clear c6b0
         try clear p6
         try clear c7
         try clear c7b0
         try clear p8
         try clear q8
         try clear hx8
         try clear hf8
         try clear c13
         try clear c13b0
         try clear c14
         try clear c14b0
         try clear c15
         try clear c15b0
         try clear c16
         try clear c16b0
         try clear c17
         try clear c17b0
         try clear c18
         try clear c18b0
         try clear c19
         try clear c19b0
         try clear c20
         try clear c20b0
         try clear q21
         try clear c22
         try clear c23
         try clear p23
         try clear q23
         try clear hx23
         try clear hf23
         try clear p24
         try clear q24
         try clear hx24
         try clear c26
         try clear c26b0
         try clear c27
         try clear c27b0
         try clear p28
         try clear q28
         try clear hx28
         try clear hf28
         try clear hx236_0
         try clear hx236_1
         try clear hx236_2
         try clear hx236_3
         try clear hx237_0
         try clear hx238_0
         try clear hx23_0
         try clear hx240_0
         try clear hx28_0
         try clear hx8_0
         try clear p2
         try clear p23
         try clear p236
         try clear p237
         try clear p238
         try clear p240
         try clear p28
         try clear p6
         try clear p8
         try clear q2
         try clear q23
         try clear q236
         try clear q237
         try clear q238
         try clear q240
         try clear q28
         try clear q8
         obtain ⟨x9_2,x49_2,rfl,HA,HK2,HO_9,HO_47,HB⟩:=hrel
         cases gk with
         | zero=>exact absurd HA.out (by simp [spec_l9Needed.l2])
         | succ k2 =>
          have H:=HA.out
          clear HA
          simp only [spec_l9Needed.l2] at H
          by_cases c31:x49_2 < (x5_1.length:Int)
          ·rw [if_pos c31] at H
           have c31b0:decide (x49_2 < (x5_1.length:Int)) = true:=decide_eq_true c31
           clear c31
           by_cases c32:0 ≤ x49_2
           ·rw [if_pos c32] at H
            have c32b0:decide (0 ≤ x49_2) = true:=decide_eq_true c32
            clear c32
            by_cases c33:x49_2 < (x5_1.length:Int)
            ·rw [if_pos c33] at H
             have c33b0:decide (x49_2 < (x5_1.length:Int)) = true:=decide_eq_true c33
             clear c33
             obtain ⟨bq34,hbq34⟩:∃ b_:Bool,b_ = (rdOf false x5_1 x49_2):=⟨_,rfl⟩
             replace H:(if bq34 = true then (if x9_2.length < 17592186044416 then (spec_l9Needed.l2 k2 (x9_2 ++ [x49_2]) x5_1 (x5_1.length:Int) (wrap64 (x49_2 + 1))) else (none)) else (spec_l9Needed.l2 k2 x9_2 x5_1 (x5_1.length:Int) (wrap64 (x49_2 + 1)))) = some r:=by rw [← hbq34] at H;exact H
             have Nbq34:=Aside0.mk hbq34
             clear hbq34
             by_cases c35:bq34 = true
             ·subst c35
              have H1:(if x9_2.length < 17592186044416 then (spec_l9Needed.l2 k2 (x9_2 ++ [x49_2]) x5_1 (x5_1.length:Int) (wrap64 (x49_2 + 1))) else (none)) = some r:=by rw [if_pos rfl] at H;exact H
              clear H
              have H:=H1
              clear H1
              by_cases c36:x9_2.length < 17592186044416
              ·rw [if_pos c36] at H
               have LMc36:=Aside0.mk c36
               clear c36
               obtain ⟨y243,hy243⟩:∃ y_:List Int,y_ = (x9_2 ++ [x49_2]):=⟨_,rfl⟩
               replace H:(spec_l9Needed.l2 k2 y243 x5_1 (x5_1.length:Int) (wrap64 (x49_2 + 1))) = some r:=by first|(rw [hy243];with_reducible exact H)|(have H2_:=(Option.bind_some _ _).symm.trans H;rw [hy243];with_reducible exact H2_)|(have H2_:=(Option.bind_some _ _).symm.trans H;with_reducible exact H2_)|with_reducible exact H|(rw [hy243];exact H)|exact H
               have Ny243:=Aside0.mk hy243
               clear hy243
               have H':=Aside0.mk H
               clear H
               have p242:0 ≤ (x49_2:Int):=of_decide_eq_true (by first|(with_reducible assumption)|assumption)
               have q242:x49_2 < (x5_1.length:Int):=of_decide_eq_true (by first|(with_reducible assumption)|assumption)
               obtain ⟨ad242,e242,hx242_0⟩:=Kd.at_bool (Kd.R_reads' HO_47.out).2.2 x49_2 p242 q242
               (try rw [← Nbq34.out] at hx242_0)
               obtain rfl:(⟨go8,0,none⟩:Addr) = ad242:=(by injection e242)
               (first|simp only [add_plain] at hx242_0|simp only [add_at] at hx242_0|simp only [Addr.add,Nat.zero_add] at hx242_0|skip)
               replace p242:=eq_true p242
               replace q242:=eq_true q242
               go_wp2_with (first|((with_reducible refine gate_builtin (b:=.append) (xs:=#[.tmp 55,.tmp 57]) rfl ?_);at_builtin;refine Kd.R_append (Kd.int .i64) (w0:=w) w.heap.size rfl (.tmp 55) (.tmp 57) 22 3 (.int .i64 0) 8 rfl Try.underlying22 info3 rfl (by decide) (by first|decide|omega) u9 x9_2 x49_2 [.int .i64 x49_2] (fun _=>True) (fun _=>False) rfl rfl ?aP (fun _ hk=>hk.elim) ?aF ?aO ?aB ?aS ?aL ?_;(case aP=>exact rfl);(case aB=>exact (by repeat (first|(with_reducible first|exact HB.out|apply below_alloc|apply pw_below_drewN|apply below_drew1)|exact HB.out)));(case aF=>exact (fun _ _=>trivial));(case aO=>exact (by (with_reducible repeat (first|apply Kd.R_alloc|apply Kd.R_drewN|apply Kd.R_drew));exact HO_9.out));(case aS=>exact (below_size (by repeat (first|(with_reducible first|exact HB.out|apply below_alloc|apply pw_below_drewN|apply below_drew1)|exact HB.out))));(case aL=>have:=LMc36.out;omega);intro v244 w37 ho hb hg hat;rw [← Ny243.out] at ho;have n0_:=Aside0.mk (Kd.R_over' (by (with_reducible repeat (first|apply Kd.R_alloc|apply Kd.R_drewN|apply Kd.R_drew));exact HO_47.out) (Kd.R_typed (by (with_reducible repeat (first|apply Kd.R_alloc|apply Kd.R_drewN|apply Kd.R_drew));exact HO_9.out)) (by decide) hg);have n1_:=Aside0.mk (hb);have n2_:=Aside0.mk (ho);clear HO_47;clear HB;clear HO_9;have HO_47:=n0_;have HB:=n1_;have HO245:=n2_;clear n0_ n1_ n2_;clear ho hb hg hat))
               go_roundg k2
               case measure=>have:=HK1.out;have:=HK2.out;omega
               case rel=>exact ⟨(y243),(wrap64 (x49_2 + 1)),(by first|rfl|(simp;done)|(simp [*];done)),H',⟨by have:=HK1.out;have:=HK2.out;omega⟩,⟨by (try simp only [hl5_1]);(with_reducible repeat (first|apply Kd.R_alloc|apply Kd.R_drewN|apply Kd.R_drew));exact HO245.out⟩,⟨by (try simp only [hl5_1]);(with_reducible repeat (first|apply Kd.R_alloc|apply Kd.R_drewN|apply Kd.R_drew));exact HO_47.out⟩,⟨by repeat (first|(with_reducible first|exact HB.out|apply below_alloc|apply pw_below_drewN|apply below_drew1)|exact HB.out)⟩⟩
              ·rw [if_neg c36] at H
               exact absurd H (by simp)
             ·replace c35:=Bool.eq_false_iff.mpr c35
              subst c35
              have H1:(spec_l9Needed.l2 k2 x9_2 x5_1 (x5_1.length:Int) (wrap64 (x49_2 + 1))) = some r:=by rw [if_neg (show ¬ (false = true) by decide)] at H;exact H
              clear H
              have H:=H1
              clear H1
              have H':=Aside0.mk H
              clear H
              have p242:0 ≤ (x49_2:Int):=of_decide_eq_true (by first|(with_reducible assumption)|assumption)
              have q242:x49_2 < (x5_1.length:Int):=of_decide_eq_true (by first|(with_reducible assumption)|assumption)
              obtain ⟨ad242,e242,hx242_0⟩:=Kd.at_bool (Kd.R_reads' HO_47.out).2.2 x49_2 p242 q242
              (try rw [← Nbq34.out] at hx242_0)
              obtain rfl:(⟨go8,0,none⟩:Addr) = ad242:=(by injection e242)
              (first|simp only [add_plain] at hx242_0|simp only [add_at] at hx242_0|simp only [Addr.add,Nat.zero_add] at hx242_0|skip)
              replace p242:=eq_true p242
              replace q242:=eq_true q242
              go_wp2
              go_roundg k2
              case measure=>have:=HK1.out;have:=HK2.out;omega
              case rel=>exact ⟨(x9_2),(wrap64 (x49_2 + 1)),(by first|rfl|(simp;done)|(simp [*];done)),H',⟨by have:=HK1.out;have:=HK2.out;omega⟩,⟨by (try simp only [hl5_1]);(with_reducible repeat (first|apply Kd.R_alloc|apply Kd.R_drewN|apply Kd.R_drew));exact HO_9.out⟩,⟨by (try simp only [hl5_1]);(with_reducible repeat (first|apply Kd.R_alloc|apply Kd.R_drewN|apply Kd.R_drew));exact HO_47.out⟩,⟨by repeat (first|(with_reducible first|exact HB.out|apply below_alloc|apply pw_below_drewN|apply below_drew1)|exact HB.out)⟩⟩
            ·rw [if_neg c33] at H
             exact absurd H (by simp)
           ·rw [if_neg c32] at H
            exact absurd H (by simp)
          ·rw [if_neg c31] at H
           have c31b0:decide (x49_2 < (x5_1.length:Int)) = false:=decide_eq_false c31
           clear c31
           obtain rfl:=Option.some.inj H
           go_wp2
           go_ret
           exact ⟨_,by first|rfl|(simp [errW_none,errW_some] <;> rfl)|(simp only [← hji3];first|rfl|(simp [errW_none,errW_some] <;> rfl))|(simp [*,errW_none,errW_some] <;> rfl),by (with_reducible repeat (first|apply Kd.R_alloc|apply Kd.R_drewN|apply Kd.R_drew));exact HO_9.out,by repeat (first|(with_reducible first|exact HB.out|apply below_alloc|apply pw_below_drewN|apply below_drew1)|exact HB.out)⟩
    ·rw [if_neg c7] at H
     exact absurd H (by simp)
   ·rw [if_neg c6] at H
    exact absurd H (by simp)
  ·rw [if_neg c5] at H
   exact absurd H (by simp)
 ·rw [if_neg c4] at H
  exact absurd H (by simp)

/-! ### spec_l1Own: function 106 -/
def spec_l1Own.f (l0:List Int):Option (List Int):=(some (([]:List Int):List Int)).bind fun y246=>(if y246.length + l0.length < 17592186044416 then (some (y246 ++ l0)) else (none))
set_option maxHeartbeats 8000000 in
set_option maxRecDepth 100000 in
theorem spec_l1Own.calls (A0:Option Addr) (c0:Nat) (l0:List Int) (r:List Int) (w:World) (hr0:Kd.C (Kd.int .i64) w A0 l0.length l0) (hc0:l0.length ≤ c0) (h:spec_l1Own.f l0 = some r) :
  Calls Try.prog 106 #[.slice A0 l0.length c0] w fun e w'=>∃ v0_:Value,e = .returned (v0_) ∧ Kd.R (Kd.int .i64) 3 w' w.heap.size (fun _=>True) v0_ r ∧ Below w.heap.size w w':=by
 have HR0:=Aside0.mk hr0
 have HC0:=Aside0.mk hc0
 clear hr0 hc0
 have HB:=Aside0.mk (Below.refl w.heap.size w)
 have H:((some (([]:List Int):List Int)).bind fun y246=>(if y246.length + l0.length < 17592186044416 then (some (y246 ++ l0)) else (none))) = some r:=h
 clear h
 obtain ⟨y246,hy246⟩:∃ y_:List Int,y_ = (([]:List Int)):=⟨_,rfl⟩
 replace H:(if y246.length + l0.length < 17592186044416 then (some (y246 ++ l0)) else (none)) = some r:=by first|(rw [hy246];with_reducible exact H)|(have H2_:=(Option.bind_some _ _).symm.trans H;rw [hy246];with_reducible exact H2_)|(have H2_:=(Option.bind_some _ _).symm.trans H;with_reducible exact H2_)|with_reducible exact H|(rw [hy246];exact H)|exact H
 have Ny246:=Aside0.mk hy246
 clear hy246
 by_cases c2:y246.length + l0.length < 17592186044416
 ·rw [if_pos c2] at H
  have LMc2:=Aside0.mk c2
  clear c2
  obtain ⟨y249,hy249⟩:∃ y_:List Int,y_ = (y246 ++ l0):=⟨_,rfl⟩
  replace H:(some y249) = some r:=by first|(rw [hy249];with_reducible exact H)|(have H2_:=(Option.bind_some _ _).symm.trans H;rw [hy249];with_reducible exact H2_)|(have H2_:=(Option.bind_some _ _).symm.trans H;with_reducible exact H2_)|with_reducible exact H|(rw [hy249];exact H)|exact H
  have Ny249:=Aside0.mk hy249
  clear hy249
  obtain rfl:=Option.some.inj H
  go_enter Try.func106,Try.ntmps106
  go_wp2_with (first|((with_reducible refine gate_dst (N:=3) rfl ?_);refine Kd.R_lit (Kd.int .i64) _ 3 ?hg (N:=3) ?hd (xs:=([]:List Int)) (inner:=[]) (ok:=fun _=>True) (okp:=fun _=>True) ?hr ?hp (fun _ hk=>hk) trivial (Below.refl _ _) (Nat.le_refl _) (by simp) ?_;(case hd=>rfl);(case hg=>rfl);(case hr=>first|(go_simp;done)|(go_simp;rfl));(case hp=>exact (Reps.none _ _));intro v247 w3 ho4 hb hg_ hnew_;clear hg_ hnew_;(first|rw [← Ny246.out] at ho4|(simp only [Int.reduceToNat] at ho4;rw [← Ny246.out] at ho4));have n0_:=Aside0.mk (Kd.R_lower ho4 (below_size (by repeat (first|(with_reducible first|exact HB.out|apply below_alloc|apply pw_below_drewN|apply below_drew1)|exact HB.out))));have n1_:=Aside0.mk (below_step (by repeat (first|(with_reducible first|exact HB.out|apply below_alloc|apply pw_below_drewN|apply below_drew1)|exact HB.out)) hb);clear HB;have HO248:=n0_;have HB:=n1_;clear n0_ n1_;clear hb ho4)|((with_reducible refine gate_builtin (b:=.append) (xs:=#[.tmp 3,.tmp 4]) rfl ?_);at_builtin;refine Kd.R_append_rows (Kd.int .i64) (w0:=w) w.heap.size rfl (.tmp 3) (.tmp 4) 22 3 (.int .i64 0) 8 rfl Try.underlying22 info3 rfl (by decide) (by first|decide|omega) v247 y246 l0 _ _ _ (fun _=>True) (fun _=>False) rfl rfl ?aO ?aR (fun _ _ h=>h) (fun _ h=>h.elim) ?aF ?aB ?aS ?aL ?_;(case aR=>repeat (first|exact (Kd.C_below HR0.out HB.out)|(with_reducible refine Kd.C_alloc ?_ _)|(with_reducible refine Kd.C_drewN ?_ _)|(with_reducible refine Kd.C_drew ?_)));(case aB=>exact (by repeat (first|(with_reducible first|exact HB.out|apply below_alloc|apply pw_below_drewN|apply below_drew1)|exact HB.out)));(case aF=>exact (fun _ _=>trivial));(case aO=>exact (by (with_reducible repeat (first|apply Kd.R_alloc|apply Kd.R_drewN|apply Kd.R_drew));exact HO248.out));(case aS=>exact (below_size (by repeat (first|(with_reducible first|exact HB.out|apply below_alloc|apply pw_below_drewN|apply below_drew1)|exact HB.out))));(case aL=>have:=LMc2.out;omega);intro v250 w5 ho hb hg hat;rw [← Ny249.out] at ho;have n0_:=Aside0.mk (hb);have n1_:=Aside0.mk (ho);clear HB;clear HO248;have HB:=n0_;have HO251:=n1_;clear n0_ n1_;clear ho hb hg hat))
  go_ret
  exact ⟨_,by first|rfl|(simp [errW_none,errW_some] <;> rfl)|(simp [*,errW_none,errW_some] <;> rfl),by (with_reducible repeat (first|apply Kd.R_alloc|apply Kd.R_drewN|apply Kd.R_drew));exact HO251.out,by repeat (first|(with_reducible first|exact HB.out|apply below_alloc|apply pw_below_drewN|apply below_drew1)|exact HB.out)⟩
 ·rw [if_neg c2] at H
  exact absurd H (by simp)

end Go.Proofs.Ytlgnanbnicmdaaa.QFnExactTrimSteps
