-- Written by this session's own program (wip/x/xprint.py, over the kit's printer); Lean checks it.
import Derived.Test.YtmgkflkfoccgkaaQFnPutForx0
import Derived.Test.YtmgkflkfoccgkaaQFnPutForx5
namespace Go.Proofs.Ytmgkflkfoccgkaa.QFnPutFor
open Go.RowKit Go.Proofs.YtmgkflkfoccgkaaW.PrintWords Go.Proofs.YtmgkflkfoccgkaaW.PrintLast Go.Proofs.YtmgkflkfoccgkaaW.PrintMore
attribute [local go_sem] max2_int min2_int max_two min_two max_three min_three max_four min_four   -- for this text's walks alone
set_option linter.unusedVariables false
set_option linter.unusedSimpArgs false

/-! ### impl_Sign_isTerm: function 40 -/
def impl_Sign_isTerm.l0:Nat → Int → List Int → Int → Int → List Int → Option (Bool)
 | 0,_,_,_,_,_=>none
 | k + 1,x5,x11,x12,x13,x231000=>if x13 < x12 then (if 0 ≤ x13 then (if x13 < (x11.length:Int) then (if x5 = 0 then (some false) else (if (rd x11 x13) < (-12) then (some false) else (if (rd x11 x13) ≥ (x231000.length:Int) then (some false) else ((impl_Sign_args.f x231000 (rd x11 x13)).bind fun t232=>(impl_Sign_isTerm.l0 k (wrap64 (x5 + (wrap64 (t232 - 1)))) x11 x12 (wrap64 (x13 + 1)) x231000))))) else (none)) else (none)) else (some (x5 == 0))
def impl_Sign_isTerm.f (k:Nat) (l0_0:List Int) (l1:List Int):Option (Bool):=if (l1.length:Int) > 40 then (some false) else (impl_Sign_isTerm.l0 k 1 l1 (l1.length:Int) 0 l0_0)
theorem impl_Sign_isTerm.mono_l:∀ k,(∀ y0 y1 y2 y3 y4,LeO (impl_Sign_isTerm.l0 k y0 y1 y2 y3 y4) (impl_Sign_isTerm.l0 (k + 1) y0 y1 y2 y3 y4))
 | 0=>fun _ _ _ _ _ r h=>by simp [impl_Sign_isTerm.l0] at h
 | k + 1=>by
  have ih0:=impl_Sign_isTerm.mono_l k
  ·intro y0 y1 y2 y3 y4
   unfold impl_Sign_isTerm.l0
   exact mO
theorem impl_Sign_isTerm.mono:∀ a0 a1 k,LeO (impl_Sign_isTerm.f k a0 a1) (impl_Sign_isTerm.f (k + 1) a0 a1):=by
 intro a0 a1 k
 have ih0:=impl_Sign_isTerm.mono_l k
 unfold impl_Sign_isTerm.f
 exact mO
set_option maxHeartbeats 8000000 in
set_option maxRecDepth 100000 in
theorem impl_Sign_isTerm.calls (k:Nat) (A0_0:Option Addr) (c0_0:Nat) (l0_0:List Int) (A1:Option Addr) (c1:Nat) (l1:List Int) (r:Bool) (w:World) (hr0_0:Kd.C (Kd.int .i64) w A0_0 l0_0.length l0_0) (hc0_0:l0_0.length ≤ c0_0) (hr1:Kd.C (Kd.int .i64) w A1 l1.length l1) (hc1:l1.length ≤ c1) (h:impl_Sign_isTerm.f k l0_0 l1 = some r) :
  Calls Try.prog 40 #[.agg #[.slice A0_0 l0_0.length c0_0],.slice A1 l1.length c1] w fun e w'=>e = .returned (.bool r) ∧ Below w.heap.size w w':=by
 have hu26:=Try.underlying26
 have HR0_0:=Aside0.mk hr0_0
 have HC0_0:=Aside0.mk hc0_0
 clear hr0_0 hc0_0
 have HR1:=Aside0.mk hr1
 have HC1:=Aside0.mk hc1
 clear hr1 hc1
 have HB:=Aside0.mk (Below.refl w.heap.size w)
 have H:(if (l1.length:Int) > 40 then (some false) else (impl_Sign_isTerm.l0 k 1 l1 (l1.length:Int) 0 l0_0)) = some r:=h
 clear h
 by_cases c3:(l1.length:Int) > 40
 ·rw [if_pos c3] at H
  have c3b0:decide (40 < (l1.length:Int)) = true:=decide_eq_true c3
  have c3b1:decide (40 < l1.length) = true:=decide_eq_true (by omega)
  clear c3
  obtain rfl:=Option.some.inj H
  go_enter Try.func40,Try.ntmps40
  go_wp2_with (first|((with_reducible refine gate_dst (N:=2) rfl ?_);(try (refine gate_guard (by rfl) ?_;dsimp only));refine box_event ?hg (N:=2) ?hd (cs:=#[.slice A0_0 l0_0.length c0_0]) (t:=26) ?hr ?_;(case hd=>rfl);(case hg=>rfl);(case hr=>exact Yd);intro gb230 hg w4 hbox hb;have BK230:=Aside0.mk (hbox);have GW230:=Aside0.mk ((hZ:w.heap.size ≤ gb230));have GE230:=Aside0.mk ((hZ:w.heap.size ≤ gb230));replace HB:=Aside0.mk (below_step bH hb);clear hb hbox hg))
  go_ret
  exact ⟨Yb,bH⟩
 ·rw [if_neg c3] at H
  have c3b0:decide (40 < (l1.length:Int)) = false:=decide_eq_false c3
  have c3b1:decide (40 < l1.length) = false:=decide_eq_false (by omega)
  clear c3
  have H':=Aside0.mk H
  clear H
  go_enter Try.func40,Try.ntmps40
  go_wp2_with (first|((with_reducible refine gate_dst (N:=2) rfl ?_);(try (refine gate_guard (by rfl) ?_;dsimp only));refine box_event ?hg (N:=2) ?hd (cs:=#[.slice A0_0 l0_0.length c0_0]) (t:=26) ?hr ?_;(case hd=>rfl);(case hg=>rfl);(case hr=>exact Yd);intro gb230 hg w5 hbox hb;have BK230:=Aside0.mk (hbox);have GW230:=Aside0.mk ((hZ:w.heap.size ≤ gb230));have GE230:=Aside0.mk ((hZ:w.heap.size ≤ gb230));replace HB:=Aside0.mk (below_step bH hb);clear hb hbox hg))
  go_loopg [5,13] k (fun kq v5 v13 w'=>∃ (x5_1:Int) (x13_1:Int),v5 = .int .i64 x5_1 ∧ v13 = .int .i64 x13_1 ∧ Aside0 (impl_Sign_isTerm.l0 kq x5_1 l1 (l1.length:Int) x13_1 l0_0 = some r) ∧ Aside0 (kq ≤ k) ∧ Aside0 (w'.heap[gb230]? = some (.cells #[(.slice A0_0 l0_0.length c0_0)] 26 (0,0))) ∧ Aside0 (Below w.heap.size w w'))
  case atStart=>exact ⟨(1),(0),Ye,Ye,H',⟨Nat.le_refl _⟩,⟨by (with_reducible repeat (first|refine blk_drewN ?_ _|refine blk_drew ?_|refine blk_alloc ?_ _));exact BK230.out⟩,⟨bH⟩⟩
  case round =>
   clear H'
   try clear c1
   try clear p2
   try clear c3
   try clear c3b0
   try clear c3b1
   try clear c4
   obtain ⟨x5_1,x13_1,rfl,rfl,HA,HK1,BK230,HB⟩:=hrel
   cases gk with
   | zero=>exact absurd HA.out (by simp [impl_Sign_isTerm.l0])
   | succ k1 =>
    have H:=HA.out
    clear HA
    simp only [impl_Sign_isTerm.l0] at H
    by_cases c6:x13_1 < (l1.length:Int)
    ·rw [if_pos c6] at H
     have c6b0:=decide_eq_true c6
     clear c6
     by_cases c7:0 ≤ x13_1
     ·rw [if_pos c7] at H
      have c7b0:=decide_eq_true c7
      clear c7
      by_cases c8:x13_1 < (l1.length:Int)
      ·rw [if_pos c8] at H
       have c8b0:=decide_eq_true c8
       clear c8
       by_cases c9:x5_1 = 0
       ·rw [if_pos c9] at H
        have c9b0:(x5_1 == 0) = true:=beq_iff_eq.mpr c9
        have c9b1:(x5_1 != 0) = false:=bne_eq_false_iff_eq.mpr c9
        clear c9
        obtain rfl:=Option.some.inj H
        have p231:0 ≤ (x13_1:Int):=oD
        have q231:x13_1 < (l1.length:Int):=oD
        obtain ⟨ad231,e231,hx231_0⟩:=Kd.at_int HR1.out x13_1 p231 q231
        cases e231
        replace hx231_0:=(HB.out.cell (World.block_lt_of_cell? w _ hx231_0)).trans hx231_0
        replace p231:=eq_true p231
        replace q231:=eq_true q231
        go_wp2
        go_ret
        exact ⟨Yb,bH⟩
       ·rw [if_neg c9] at H
        have c9b0:(x5_1 == 0) = false:=beq_eq_false_iff_ne.mpr c9
        have c9b1:(x5_1 != 0) = true:=bne_iff_ne.mpr c9
        by_cases c10:(rd l1 x13_1) < (-12)
        ·rw [if_pos c10] at H
         have c10b0:=decide_eq_true c10
         clear c10
         obtain rfl:=Option.some.inj H
         have p231:0 ≤ (x13_1:Int):=oD
         have q231:x13_1 < (l1.length:Int):=oD
         obtain ⟨ad231,e231,hx231_0⟩:=Kd.at_int HR1.out x13_1 p231 q231
         cases e231
         replace hx231_0:=(HB.out.cell (World.block_lt_of_cell? w _ hx231_0)).trans hx231_0
         replace p231:=eq_true p231
         replace q231:=eq_true q231
         go_wp2
         go_ret
         exact ⟨Yb,bH⟩
        ·rw [if_neg c10] at H
         have c10b0:decide ((rd l1 x13_1) < (-12)) = false:=decide_eq_false c10
         clear c10
         by_cases c11:(rd l1 x13_1) ≥ (l0_0.length:Int)
         ·rw [if_pos c11] at H
          have c11b0:decide ((l0_0.length:Int) ≤ (rd l1 x13_1)) = true:=decide_eq_true c11
          clear c11
          obtain rfl:=Option.some.inj H
          have p231:0 ≤ (x13_1:Int):=oD
          have q231:x13_1 < (l1.length:Int):=oD
          obtain ⟨ad231,e231,hx231_0⟩:=Kd.at_int HR1.out x13_1 p231 q231
          cases e231
          replace hx231_0:=(HB.out.cell (World.block_lt_of_cell? w _ hx231_0)).trans hx231_0
          replace p231:=eq_true p231
          replace q231:=eq_true q231
          have hcz12_0:wr.cell? ⟨gb230,0,none⟩ = some (.slice A0_0 l0_0.length c0_0):=(blk_cell BK230.out 0).trans rfl
          have hfz12_0:=blk_frozen BK230.out 0
          go_wp2
          go_ret
          exact ⟨Yb,bH⟩
         ·rw [if_neg c11] at H
          have c11b0:decide ((l0_0.length:Int) ≤ (rd l1 x13_1)) = false:=decide_eq_false c11
          clear c11
          replace H:=Option.bind_eq_some_iff.mp H
          obtain ⟨t232,A130,H⟩:=H
          replace H:(impl_Sign_isTerm.l0 k1 (wrap64 (x5_1 + (wrap64 (t232 - 1)))) l1 (l1.length:Int) (wrap64 (x13_1 + 1)) l0_0) = some r:=H
          have A13:=Aside0.mk A130
          clear A130
          have H':=Aside0.mk H
          clear H
          have p231:0 ≤ (x13_1:Int):=oD
          have q231:x13_1 < (l1.length:Int):=oD
          obtain ⟨ad231,e231,hx231_0⟩:=Kd.at_int HR1.out x13_1 p231 q231
          cases e231
          replace hx231_0:=(HB.out.cell (World.block_lt_of_cell? w _ hx231_0)).trans hx231_0
          replace p231:=eq_true p231
          replace q231:=eq_true q231
          have hcz14_0:wr.cell? ⟨gb230,0,none⟩ = some (.slice A0_0 l0_0.length c0_0):=(blk_cell BK230.out 0).trans rfl
          have hfz14_0:=blk_frozen BK230.out 0
          go_wp2_with (first|((with_reducible refine gate_callee (f:=78) rfl ?_);refine goesL_ (some 33) rfl rfl Try.func78 (by kernel_rfl) rfl #[.agg #[.slice A0_0 l0_0.length c0_0],.int .i64 (rd l1 x13_1)] rfl Ya ?_;(with_reducible refine (impl_Sign_args.calls _ _ l0_0 (rd l1 x13_1) t232 _ ?side1 ?side2 A13.out).mono ?_);(case side1=>exact Yv);(case side2=>exact Yu);rintro e w15 ⟨rfl,hb⟩;refine ⟨_,rfl,?_⟩;replace BK230:=Aside0.mk (blk_below (bB BK230) hb);replace HB:=Aside0.mk (below_step bH hb);(try clear hb);(try clear hb2);(try clear hk);(try clear hi)))
          go_roundg k1
          case measure=>have:=HK1.out;omega
          case rel=>exact ⟨(wrap64 (x5_1 + (wrap64 (t232 - 1)))),(wrap64 (x13_1 + 1)),Ye,Ye,H',⟨Ze⟩,⟨by (with_reducible repeat (first|refine blk_drewN ?_ _|refine blk_drew ?_|refine blk_alloc ?_ _));exact BK230.out⟩,⟨bH⟩⟩
      ·rw [if_neg c8] at H
       exact absurd H (by simp)
     ·rw [if_neg c7] at H
      exact absurd H (by simp)
    ·rw [if_neg c6] at H
     have c6b0:decide (x13_1 < (l1.length:Int)) = false:=decide_eq_false c6
     clear c6
     obtain rfl:=Option.some.inj H
     go_wp2
     go_ret
     exact ⟨Yb,bH⟩

/-! ### impl_Sign_isSubst_1: function 115 -/
def impl_Sign_isSubst_1.f (k:Nat) (l0:List Int) (l1_0:List Int):Option (Bool):=if (l0.length:Int) > 0 then ((impl_Sign_isTerm.f k l1_0 l0).bind fun t233=>(some (!t233))) else (some false)
theorem impl_Sign_isSubst_1.mono:∀ a0 a1 k,LeO (impl_Sign_isSubst_1.f k a0 a1) (impl_Sign_isSubst_1.f (k + 1) a0 a1):=by
 intro a0 a1 k
 unfold impl_Sign_isSubst_1.f
 have m0:=@impl_Sign_isTerm.mono
 exact mO
set_option maxHeartbeats 8000000 in
set_option maxRecDepth 100000 in
theorem impl_Sign_isSubst_1.calls (k:Nat) (A0:Option Addr) (c0:Nat) (l0:List Int) (g1_:Nat) (A1_0:Option Addr) (c1_0:Nat) (l1_0:List Int) (r:Bool) (w:World) (hr0:Kd.C (Kd.int .i64) w A0 l0.length l0) (hc0:l0.length ≤ c0) (hr1_0:Kd.C (Kd.int .i64) w A1_0 l1_0.length l1_0) (hc1_0:l1_0.length ≤ c1_0) (hg1:w.heap[g1_]? = some (.cells #[.slice A1_0 l1_0.length c1_0] 26 (0,0))) (h:impl_Sign_isSubst_1.f k l0 l1_0 = some r) :
  Calls Try.prog 115 #[.slice A0 l0.length c0,.pointer (some ⟨g1_,0,none⟩)] w fun e w'=>e = .returned (.bool r) ∧ Below w.heap.size w w':=by
 have hu26:=Try.underlying26
 have HR0:=Aside0.mk hr0
 have HC0:=Aside0.mk hc0
 clear hr0 hc0
 have HR1_0:=Aside0.mk hr1_0
 have HC1_0:=Aside0.mk hc1_0
 clear hr1_0 hc1_0
 have BK1:=Aside0.mk hg1
 clear hg1
 have HB:=Aside0.mk (Below.refl w.heap.size w)
 have H:(if (l0.length:Int) > 0 then ((impl_Sign_isTerm.f k l1_0 l0).bind fun t233=>(some (!t233))) else (some false)) = some r:=h
 clear h
 by_cases c3:(l0.length:Int) > 0
 ·rw [if_pos c3] at H
  have c3b0:decide (0 < (l0.length:Int)) = true:=decide_eq_true c3
  have c3b1:decide (0 < l0.length) = true:=decide_eq_true (by omega)
  clear c3
  replace H:=Option.bind_eq_some_iff.mp H
  obtain ⟨t233,A40,H⟩:=H
  replace H:(some (!t233)) = some r:=H
  have A4:=Aside0.mk A40
  clear A40
  obtain rfl:=Option.some.inj H
  have hcz5_0:w.cell? ⟨g1_,0,none⟩ = some (.slice A1_0 l1_0.length c1_0):=(blk_cell BK1.out 0).trans rfl
  have hfz5_0:=blk_frozen BK1.out 0
  go_enter Try.func115,Try.ntmps115
  go_wp2_with (first|(go_at_call 40;(with_reducible refine (impl_Sign_isTerm.calls k _ _ l1_0 _ _ l0 t233 _ ?side1 ?side2 ?side3 ?side4 A4.out).mono ?_);(case side1=>repeat (first|exact HR1_0.out|(with_reducible refine Kd.C_alloc ?_ _)|(with_reducible refine Kd.C_drewN ?_ _)|(with_reducible refine Kd.C_drew ?_)));(case side2=>exact Zh);(case side3=>repeat (first|exact HR0.out|(with_reducible refine Kd.C_alloc ?_ _)|(with_reducible refine Kd.C_drewN ?_ _)|(with_reducible refine Kd.C_drew ?_)));(case side4=>exact HC0.out);rintro e w6 ⟨rfl,hb⟩;replace BK1:=Aside0.mk (blk_below (bB BK1) hb);replace HB:=Aside0.mk (below_step bH hb);(try clear hb);(try clear hb2);(try clear hk);(try clear hi)))
  go_ret
  exact ⟨Yb,bH⟩
 ·rw [if_neg c3] at H
  have c3b0:decide (0 < (l0.length:Int)) = false:=decide_eq_false c3
  have c3b1:decide (0 < l0.length) = false:=decide_eq_false (by omega)
  clear c3
  obtain rfl:=Option.some.inj H
  go_enter Try.func115,Try.ntmps115
  go_wp2
  go_ret
  exact ⟨Yb,bH⟩

/-! ### slices_IndexFunc: function 122 -/
set_option maxHeartbeats 2000000 in
set_option maxRecDepth 100000 in
theorem idx122 (g:Nat) (lb:Array Value) (eg:∀ args w,(callFunc g args).run Try.prog w = .ok (.enter g args) w) (f:List Int → Option Bool) (A:Option Addr) (c:Nat) (l:List (List Int)) (r:Int) (w:World) (hr:Kd.C (Kd.slice 3 (Kd.int .i64)) w A l.length l) (hc:l.length ≤ c)
  (hp:∀ (W:World) (x:List Int) (b:Bool) (E0:Option Addr) (e0:Nat),Below w.heap.size w W → Kd.C (Kd.int .i64) W E0 x.length x → x.length ≤ e0 → f x = some b → Calls Try.prog g (#[.slice E0 x.length e0] ++ lb) W fun e w'=>e = .returned (.bool b) ∧ Below W.heap.size W w')
  (h:idxO f 0 l = some r) :
  Calls Try.prog 122 #[.slice A l.length c,.func (.func g) #[] lb] w fun e w'=>e = .returned (.int .i64 r) ∧ Below w.heap.size w w':=by
 have HR:=Aside0.mk hr
 have HP:=Aside0.mk hp
 have HL:=Aside0.mk hr.2.1
 have H:=Aside0.mk h
 clear hr hp h hc
 go_enter Try.func122,Try.ntmps122
 go_wp2
 go_loopg [5,8] (l.length + 1) (fun kq _ v8 w'=>∃ kk:Nat,v8 = .int .i64 kk ∧ Aside0 (kk ≤ l.length ∧ l.length + 1 ≤ kq + kk) ∧ Aside0 (idxO f kk (l.drop kk) = some r) ∧ Aside0 (Below w.heap.size w w'))
 case atStart=>exact ⟨0,rfl,⟨Nat.zero_le _,by omega⟩,⟨by simpa using H.out⟩,⟨Below.refl _ _⟩⟩
 case round =>
  obtain ⟨kk,rfl,HK,HI,HB⟩:=hrel
  have hkk:=HK.out.1
  by_cases hlt:kk < l.length
  ·have hd:l.drop kk = l[kk] :: l.drop (kk + 1):=List.drop_eq_getElem_cons hlt
   have hi:=HI.out
   rw [hd] at hi
   simp only [idxO] at hi
   obtain ⟨b,hb,hi⟩:=Option.bind_eq_some_iff.1 hi
   have HW:=Aside0.mk (show wrap64 ((kk:Int) + 1) = ((kk + 1:Nat):Int) from by have:=HL.out;unfold wrap64;omega)
   have p:0 ≤ (kk:Int):=by omega
   have q:(kk:Int) < (l.length:Int):=by omega
   have q1:decide (kk < l.length) = true:=decide_eq_true hlt
   have q2:decide ((kk:Int) < (l.length:Int)) = true:=decide_eq_true q
   obtain ⟨ad,E0,e0,e1,hx0,he0,hE0⟩:=at_L2 HR.out (kk:Int) p q
   cases e1
   have hrd:rd_L2 l (kk:Int) = l[kk]:=by unfold rd_L2;simp [List.getD_eq_getElem?_getD,List.getElem?_eq_getElem hlt]
   rw [hrd] at hx0 he0 hE0
   clear hrd
   replace hx0:=(HB.out.cell (World.block_lt_of_cell? w _ hx0)).trans hx0
   replace hE0:=Kd.C_below hE0 HB.out
   rw [Int.toNat_natCast] at hx0
   generalize hy:l[kk] = y at hx0 he0 hE0 hb
   clear hy hd
   have HC:=Aside0.mk (HP.out wr y b E0 e0 HB.out hE0 he0 hb)
   clear HI hkk
   clear he0 hE0
   cases b with
   | true =>
    have HE:=Aside0.mk (Option.some.inj hi)
    clear hi hb
    go_wp2_with fail
    refine HC.out.mono ?_
    rintro e w' ⟨rfl,hb'⟩
    have HB2:=Aside0.mk (below_step HB.out hb')
    clear HB hb' HC hx0
    have HB:=HB2
    clear HB2
    go_wp2_with fail
    go_ret
    exact ⟨by rw [← HE.out];rfl,HB.out⟩
   | false =>
    have HE:=Aside0.mk hi
    clear hi hb
    go_wp2_with fail
    refine HC.out.mono ?_
    rintro e w' ⟨rfl,hb'⟩
    have HB2:=Aside0.mk (below_step HB.out hb')
    clear HB hb' HC hx0
    have HB:=HB2
    clear HB2
    go_wp2_with fail
    go_roundg (l.length - kk)
    case measure=>have:=HK.out;omega
    case rel=>exact ⟨kk + 1,by rw [HW.out],⟨by have:=HK.out;omega⟩,⟨by rw [show ((kk + 1:Nat):Int) = (kk:Int) + 1 from by omega];simpa using HE.out⟩,HB⟩
  ·have HE:=Aside0.mk (show -1 = r from Zf)
   have q1:decide (kk < l.length) = false:=decide_eq_false hlt
   have q2:decide ((kk:Int) < (l.length:Int)) = false:=decide_eq_false (by omega)
   clear HI hkk
   go_wp2
   go_ret
   exact ⟨by rw [← HE.out];rfl,HB.out⟩

/-! ### slices_ContainsFunc: function 109 -/
set_option maxHeartbeats 2000000 in
theorem any109 (g:Nat) (lb:Array Value) (eg:∀ args w,(callFunc g args).run Try.prog w = .ok (.enter g args) w) (f:List Int → Option Bool) (A:Option Addr) (c:Nat) (l:List (List Int)) (r:Bool) (w:World) (hr:Kd.C (Kd.slice 3 (Kd.int .i64)) w A l.length l) (hc:l.length ≤ c)
  (hp:∀ (W:World) (x:List Int) (b:Bool) (E0:Option Addr) (e0:Nat),Below w.heap.size w W → Kd.C (Kd.int .i64) W E0 x.length x → x.length ≤ e0 → f x = some b → Calls Try.prog g (#[.slice E0 x.length e0] ++ lb) W fun e w'=>e = .returned (.bool b) ∧ Below W.heap.size W w')
  (h:anyO f l = some r) :
  Calls Try.prog 109 #[.slice A l.length c,.func (.func g) #[] lb] w fun e w'=>e = .returned (.bool r) ∧ Below w.heap.size w w':=by
 obtain ⟨j,hj,hr2⟩:=idxO_any f l 0 r (Int.le_refl _) h
 have HR:=Aside0.mk hr2
 have HC:=Aside0.mk (fun W hW=>idx122 g lb eg f A c l j W (Kd.C_below hr hW) hc (fun W' x b E0 e0 h1=>hp W' x b E0 e0 (hW.trans (h1.mono hW.size))) hj)
 clear hr hp h hc hj hr2 eg
 go_enter Try.func109,Try.ntmps109
 go_wp2_with fail
 refine (HC.out _ (Below.refl _ _)).mono ?_
 rintro e w' ⟨rfl,hb⟩
 have HB:=Aside0.mk hb
 clear hb HC
 go_wp2
 go_ret
 exact ⟨by rw [HR.out];rfl,HB.out⟩

/-! ### impl_Sign_isSubst_1_any: function 1000001 -/
def impl_Sign_isSubst_1_any.f (k:Nat) (l0:List (List Int)) (l1_0:List Int):Option (Bool):=anyO (fun x=>impl_Sign_isSubst_1.f k x l1_0) l0
theorem impl_Sign_isSubst_1_any.mono:∀ a0 a1 k,LeO (impl_Sign_isSubst_1_any.f k a0 a1) (impl_Sign_isSubst_1_any.f (k + 1) a0 a1):=by
 intro a0 a1 k
 unfold impl_Sign_isSubst_1_any.f
 exact anyO_mono (fun x=>impl_Sign_isSubst_1.mono _ _ k) _
theorem impl_Sign_isSubst_1_any.calls (k:Nat) (A0:Option Addr) (c0:Nat) (l0:List (List Int)) (A1_0:Option Addr) (c1_0:Nat) (l1_0:List Int) (g1_:Nat) (r:Bool) (w:World) (hr0:Kd.C (Kd.slice 3 (Kd.int .i64)) w A0 l0.length l0) (hc0:l0.length ≤ c0) (hr1_0:Kd.C (Kd.int .i64) w A1_0 l1_0.length l1_0) (hc1_0:l1_0.length ≤ c1_0) (hg1:w.heap[g1_]? = some (.cells #[.slice A1_0 l1_0.length c1_0] 26 (0,0))) (h:impl_Sign_isSubst_1_any.f k l0 l1_0 = some r) :
  Calls Try.prog 109 #[.slice A0 l0.length c0,.func (.func 115) #[] #[.pointer (some ⟨g1_,0,none⟩)]] w fun e w'=>e = .returned (.bool r) ∧ Below w.heap.size w w':=by
 exact any109 115 #[.pointer (some ⟨g1_,0,none⟩)] (enters_of Try.func115 (by kernel_rfl) rfl) (fun x=>impl_Sign_isSubst_1.f k x l1_0) A0 c0 l0 r w hr0 hc0 (fun W x b E0 e0 hW hE0 he0 hx=>(impl_Sign_isSubst_1.calls k E0 e0 x g1_ A1_0 c1_0 l1_0 b W hE0 he0 (Kd.C_below hr1_0 hW) hc1_0 ((hW.block _ (Array.getElem?_eq_some_iff.1 hg1).1).trans hg1) hx).mono fun _ _ h_=>⟨h_.1,h_.2⟩) h

/-! ### impl_Sign_isSubst: function 77 -/
def impl_Sign_isSubst.f (k:Nat) (l0_0:List Int) (l1:List (List Int)):Option (Bool):=if (l1.length:Int) = 12 then ((impl_Sign_isSubst_1_any.f k l1 l0_0).bind fun t235=>(some (!t235))) else (some false)
theorem impl_Sign_isSubst.mono:∀ a0 a1 k,LeO (impl_Sign_isSubst.f k a0 a1) (impl_Sign_isSubst.f (k + 1) a0 a1):=by
 intro a0 a1 k
 unfold impl_Sign_isSubst.f
 have m0:=@impl_Sign_isSubst_1_any.mono
 exact mO
set_option maxHeartbeats 8000000 in
set_option maxRecDepth 100000 in
theorem impl_Sign_isSubst.calls (k:Nat) (A0_0:Option Addr) (c0_0:Nat) (l0_0:List Int) (A1:Option Addr) (c1:Nat) (l1:List (List Int)) (r:Bool) (w:World) (hr0_0:Kd.C (Kd.int .i64) w A0_0 l0_0.length l0_0) (hc0_0:l0_0.length ≤ c0_0) (hr1:Kd.C (Kd.slice 3 (Kd.int .i64)) w A1 l1.length l1) (hc1:l1.length ≤ c1) (h:impl_Sign_isSubst.f k l0_0 l1 = some r) :
  Calls Try.prog 77 #[.agg #[.slice A0_0 l0_0.length c0_0],.slice A1 l1.length c1] w fun e w'=>e = .returned (.bool r) ∧ Below w.heap.size w w':=by
 have hu26:=Try.underlying26
 have HR0_0:=Aside0.mk hr0_0
 have HC0_0:=Aside0.mk hc0_0
 clear hr0_0 hc0_0
 have HR1:=Aside0.mk hr1
 have HC1:=Aside0.mk hc1
 clear hr1 hc1
 have HB:=Aside0.mk (Below.refl w.heap.size w)
 have H:(if (l1.length:Int) = 12 then ((impl_Sign_isSubst_1_any.f k l1 l0_0).bind fun t235=>(some (!t235))) else (some false)) = some r:=h
 clear h
 by_cases c3:(l1.length:Int) = 12
 ·rw [if_pos c3] at H
  have c3b0:((l1.length:Int) == 12) = true:=beq_iff_eq.mpr c3
  have c3b1:((l1.length:Int) != 12) = false:=bne_eq_false_iff_eq.mpr c3
  clear c3
  replace H:=Option.bind_eq_some_iff.mp H
  obtain ⟨t235,A40,H⟩:=H
  replace H:(some (!t235)) = some r:=H
  have A4:=Aside0.mk A40
  clear A40
  obtain rfl:=Option.some.inj H
  go_enter Try.func77,Try.ntmps77
  go_wp2_with (first|((with_reducible refine gate_dst (N:=2) rfl ?_);refine box_event ?hg (N:=2) ?hd (cs:=#[.slice A0_0 l0_0.length c0_0]) (t:=26) ?hr ?_;(case hd=>rfl);(case hg=>rfl);(case hr=>exact Yd);intro gb234 hg w5 hbox hb;have BK234:=Aside0.mk (hbox);have GW234:=Aside0.mk ((hZ:w.heap.size ≤ gb234));have GE234:=Aside0.mk ((hZ:w.heap.size ≤ gb234));replace HB:=Aside0.mk (below_step bH hb);clear hb hbox hg)|(go_at_call 109;(with_reducible refine (impl_Sign_isSubst_1_any.calls k _ _ l1 A0_0 c0_0 l0_0 gb234 t235 _ ?side1 ?side2 ?side3 ?side4 ?side5 A4.out).mono ?_);(case side1=>exact sC HR1);(case side2=>exact HC1.out);(case side3=>exact Yv);(case side4=>exact Yu);(case side5=>(with_reducible repeat (first|refine blk_drewN ?_ _|refine blk_drew ?_|refine blk_alloc ?_ _));exact BK234.out);rintro e w6 ⟨rfl,hb⟩;replace BK234:=Aside0.mk (blk_below (bB BK234) hb);replace HB:=Aside0.mk (below_step bH hb);(try clear hb);(try clear hb2);(try clear hk);(try clear hi)))
  go_ret
  exact ⟨Yb,bH⟩
 ·rw [if_neg c3] at H
  have c3b0:((l1.length:Int) == 12) = false:=beq_eq_false_iff_ne.mpr c3
  have c3b1:((l1.length:Int) != 12) = true:=bne_iff_ne.mpr c3
  obtain rfl:=Option.some.inj H
  go_enter Try.func77,Try.ntmps77
  go_wp2_with (first|((with_reducible refine gate_dst (N:=2) rfl ?_);refine box_event ?hg (N:=2) ?hd (cs:=#[.slice A0_0 l0_0.length c0_0]) (t:=26) ?hr ?_;(case hd=>rfl);(case hg=>rfl);(case hr=>exact Yd);intro gb234 hg w7 hbox hb;have BK234:=Aside0.mk (hbox);have GW234:=Aside0.mk ((hZ:w.heap.size ≤ gb234));have GE234:=Aside0.mk ((hZ:w.heap.size ≤ gb234));replace HB:=Aside0.mk (below_step bH hb);clear hb hbox hg))
  go_ret
  exact ⟨Yb,bH⟩

/-! ### impl_GoodSubst: function 39 -/
def impl_GoodSubst.f (k:Nat) (l0_0:List Int) (l1:List (List Int)):Option (Bool):=(impl_GoodSign.f l0_0).bind fun t237=>(if t237 = true then ((impl_Sign_isSubst.f k l0_0 l1).bind fun t238=>(some t238)) else (some false))
theorem impl_GoodSubst.mono:∀ a0 a1 k,LeO (impl_GoodSubst.f k a0 a1) (impl_GoodSubst.f (k + 1) a0 a1):=by
 intro a0 a1 k
 unfold impl_GoodSubst.f
 have m0:=@impl_Sign_isSubst.mono
 exact mO
set_option maxHeartbeats 8000000 in
set_option maxRecDepth 100000 in
theorem impl_GoodSubst.calls (k:Nat) (A0_0:Option Addr) (c0_0:Nat) (l0_0:List Int) (A1:Option Addr) (c1:Nat) (l1:List (List Int)) (r:Bool) (w:World) (hr0_0:Kd.C (Kd.int .i64) w A0_0 l0_0.length l0_0) (hc0_0:l0_0.length ≤ c0_0) (hr1:Kd.C (Kd.slice 3 (Kd.int .i64)) w A1 l1.length l1) (hc1:l1.length ≤ c1) (h:impl_GoodSubst.f k l0_0 l1 = some r) :
  Calls Try.prog 39 #[.agg #[.slice A0_0 l0_0.length c0_0],.slice A1 l1.length c1] w fun e w'=>e = .returned (.bool r) ∧ Below w.heap.size w w':=by
 have hu26:=Try.underlying26
 have HR0_0:=Aside0.mk hr0_0
 have HC0_0:=Aside0.mk hc0_0
 clear hr0_0 hc0_0
 have HR1:=Aside0.mk hr1
 have HC1:=Aside0.mk hc1
 clear hr1 hc1
 have HB:=Aside0.mk (Below.refl w.heap.size w)
 have H:((impl_GoodSign.f l0_0).bind fun t237=>(if t237 = true then ((impl_Sign_isSubst.f k l0_0 l1).bind fun t238=>(some t238)) else (some false))) = some r:=h
 clear h
 replace H:=Option.bind_eq_some_iff.mp H
 obtain ⟨t237,A30,H⟩:=H
 replace H:(if t237 = true then ((impl_Sign_isSubst.f k l0_0 l1).bind fun t238=>(some t238)) else (some false)) = some r:=H
 have A3:=Aside0.mk A30
 clear A30
 by_cases c4:t237 = true
 ·subst c4
  have H1:((impl_Sign_isSubst.f k l0_0 l1).bind fun t238=>(some t238)) = some r:=by rw [if_pos rfl] at H;exact H
  clear H
  have H:=H1
  clear H1
  replace H:=Option.bind_eq_some_iff.mp H
  obtain ⟨t238,A50,H⟩:=H
  replace H:(some t238) = some r:=H
  have A5:=Aside0.mk A50
  clear A50
  obtain rfl:=Option.some.inj H
  go_enter Try.func39,Try.ntmps39
  go_wp2_with (first|((with_reducible refine gate_dst (N:=2) rfl ?_);refine box_event ?hg (N:=2) ?hd (cs:=#[.slice A0_0 l0_0.length c0_0]) (t:=26) ?hr ?_;(case hd=>rfl);(case hg=>rfl);(case hr=>exact Yd);intro gb236 hg w6 hbox hb;have BK236:=Aside0.mk (hbox);have GW236:=Aside0.mk ((hZ:w.heap.size ≤ gb236));have GE236:=Aside0.mk ((hZ:w.heap.size ≤ gb236));replace HB:=Aside0.mk (below_step bH hb);clear hb hbox hg;have hcz7_0:w6.cell? ⟨gb236,0,none⟩ = some (.slice A0_0 l0_0.length c0_0):=(blk_cell BK236.out 0).trans rfl;have hfz7_0:=blk_frozen BK236.out 0)|((with_reducible refine gate_callee (f:=54) rfl ?_);refine goesL_ (some 6) rfl rfl Try.func54 (by kernel_rfl) rfl #[.agg #[.slice A0_0 l0_0.length c0_0]] rfl Ya ?_;(with_reducible refine (impl_GoodSign.calls _ _ l0_0 true _ ?side1 ?side2 A3.out).mono ?_);(case side1=>exact Yv);(case side2=>exact Yu);rintro e w8 ⟨rfl,hb⟩;refine ⟨_,rfl,?_⟩;replace BK236:=Aside0.mk (blk_below (bB BK236) hb);replace HB:=Aside0.mk (below_step bH hb);(try clear hb);(try clear hb2);(try clear hk);(try clear hi);have hcz9_0:w8.cell? ⟨gb236,0,none⟩ = some (.slice A0_0 l0_0.length c0_0):=(blk_cell BK236.out 0).trans rfl;have hfz9_0:=blk_frozen BK236.out 0)|(go_at_call 77;(with_reducible refine (impl_Sign_isSubst.calls k _ _ l0_0 _ _ l1 t238 _ ?side1 ?side2 ?side3 ?side4 A5.out).mono ?_);(case side1=>exact Yv);(case side2=>exact Yu);(case side3=>exact sC HR1);(case side4=>exact HC1.out);rintro e w10 ⟨rfl,hb⟩;replace BK236:=Aside0.mk (blk_below (bB BK236) hb);replace HB:=Aside0.mk (below_step bH hb);(try clear hb);(try clear hb2);(try clear hk);(try clear hi)))
  go_ret
  exact ⟨Yb,bH⟩
 ·replace c4:=Bool.eq_false_iff.mpr c4
  subst c4
  have H1:(some false) = some r:=by rw [if_neg (show ¬ (false = true) by decide)] at H;exact H
  clear H
  have H:=H1
  clear H1
  obtain rfl:=Option.some.inj H
  go_enter Try.func39,Try.ntmps39
  go_wp2_with (first|((with_reducible refine gate_dst (N:=2) rfl ?_);refine box_event ?hg (N:=2) ?hd (cs:=#[.slice A0_0 l0_0.length c0_0]) (t:=26) ?hr ?_;(case hd=>rfl);(case hg=>rfl);(case hr=>exact Yd);intro gb236 hg w11 hbox hb;have BK236:=Aside0.mk (hbox);have GW236:=Aside0.mk ((hZ:w.heap.size ≤ gb236));have GE236:=Aside0.mk ((hZ:w.heap.size ≤ gb236));replace HB:=Aside0.mk (below_step bH hb);clear hb hbox hg;have hcz12_0:w11.cell? ⟨gb236,0,none⟩ = some (.slice A0_0 l0_0.length c0_0):=(blk_cell BK236.out 0).trans rfl;have hfz12_0:=blk_frozen BK236.out 0)|((with_reducible refine gate_callee (f:=54) rfl ?_);refine goesL_ (some 6) rfl rfl Try.func54 (by kernel_rfl) rfl #[.agg #[.slice A0_0 l0_0.length c0_0]] rfl Ya ?_;(with_reducible refine (impl_GoodSign.calls _ _ l0_0 false _ ?side1 ?side2 A3.out).mono ?_);(case side1=>exact Yv);(case side2=>exact Yu);rintro e w13 ⟨rfl,hb⟩;refine ⟨_,rfl,?_⟩;replace BK236:=Aside0.mk (blk_below (bB BK236) hb);replace HB:=Aside0.mk (below_step bH hb);(try clear hb);(try clear hb2);(try clear hk);(try clear hi)))
  go_ret
  exact ⟨Yb,bH⟩

/-! ### impl_apply: function 41 -/
mutual
def impl_apply.l0:Nat → List (List Int) → List Int → List Int → Int → Int → Option (List Int × Bool)
 | 0,_,_,_,_,_=>none
 | k + 1,x0,x6,x9,x10,x11=>if x11 < x10 then (if 0 ≤ x11 then (if x11 < (x9.length:Int) then (if (rd x9 x11) < 0 then (if 0 ≤ (wrap64 ((-1) - (rd x9 x11))) then (if (wrap64 ((-1) - (rd x9 x11))) < (x0.length:Int) then (impl_apply.j1 k x0 x6 (rd x9 x11) x9 x10 x11 (decide (((rd_L2 x0 (wrap64 ((-1) - (rd x9 x11)))).length:Int) > 0))) else (none)) else (none)) else (impl_apply.j1 k x0 x6 (rd x9 x11) x9 x10 x11 false)) else (none)) else (none)) else (some (x6,true))
def impl_apply.j1:Nat → List (List Int) → List Int → Int → List Int → Int → Int → Bool → Option (List Int × Bool)
 | 0,_,_,_,_,_,_,_=>none
 | k + 1,x0,x6,x8,x9,x10,x11,x25=>if x25 = true then (if 0 ≤ (wrap64 ((-1) - x8)) then (if (wrap64 ((-1) - x8)) < (x0.length:Int) then (if x6.length + (rd_L2 x0 (wrap64 ((-1) - x8))).length < 17592186044416 then ((some (x6 ++ (rd_L2 x0 (wrap64 ((-1) - x8))):List Int)).bind fun y242=>(if (y242.length:Int) > 40 then (some (([]:List Int),false)) else (impl_apply.l0 k x0 y242 x9 x10 (wrap64 (x11 + 1))))) else (none)) else (none)) else (none)) else (if x6.length < 17592186044416 then ((some (x6 ++ [x8]:List Int)).bind fun y245=>(if (y245.length:Int) > 40 then (some (([]:List Int),false)) else (impl_apply.l0 k x0 y245 x9 x10 (wrap64 (x11 + 1))))) else (none))
end
def impl_apply.f (k:Nat) (l0:List (List Int)) (l1:List Int):Option (List Int × Bool):=impl_apply.l0 k l0 ([]:List Int) l1 (l1.length:Int) 0
theorem impl_apply.mono_l:∀ k,(∀ y0 y1 y2 y3 y4,LeO (impl_apply.l0 k y0 y1 y2 y3 y4) (impl_apply.l0 (k + 1) y0 y1 y2 y3 y4)) ∧ (∀ y0 y1 y2 y3 y4 y5 y6,LeO (impl_apply.j1 k y0 y1 y2 y3 y4 y5 y6) (impl_apply.j1 (k + 1) y0 y1 y2 y3 y4 y5 y6))
 | 0=>⟨fun _ _ _ _ _ r h=>by simp [impl_apply.l0] at h,fun _ _ _ _ _ _ _ r h=>by simp [impl_apply.j1] at h⟩
 | k + 1=>by
  obtain ⟨ih0,ih1⟩:=impl_apply.mono_l k
  refine ⟨?_,?_⟩
  ·intro y0 y1 y2 y3 y4
   unfold impl_apply.l0
   exact mO
  ·intro y0 y1 y2 y3 y4 y5 y6
   unfold impl_apply.j1
   exact mO
theorem impl_apply.mono:∀ a0 a1 k,LeO (impl_apply.f k a0 a1) (impl_apply.f (k + 1) a0 a1):=by
 intro a0 a1 k
 obtain ⟨ih0,ih1⟩:=impl_apply.mono_l k
 unfold impl_apply.f
 exact mO
set_option maxHeartbeats 8000000 in
set_option maxRecDepth 100000 in
theorem impl_apply.calls (k:Nat) (A0:Option Addr) (c0:Nat) (l0:List (List Int)) (A1:Option Addr) (c1:Nat) (l1:List Int) (r1:List Int) (r2:Bool) (w:World) (hr0:Kd.C (Kd.slice 3 (Kd.int .i64)) w A0 l0.length l0) (hc0:l0.length ≤ c0) (hr1:Kd.C (Kd.int .i64) w A1 l1.length l1) (hc1:l1.length ≤ c1) (h:impl_apply.f k l0 l1 = some (r1,r2)) :
  Calls Try.prog 41 #[.slice A0 l0.length c0,.slice A1 l1.length c1] w fun e w'=>∃ v0_:Value,e = .returned (.tuple #[v0_,.bool r2]) ∧ Kd.R (Kd.int .i64) 3 w' w.heap.size (fun _=>True) v0_ r1 ∧ Below w.heap.size w w':=by
 have HR0:=Aside0.mk hr0
 have HC0:=Aside0.mk hc0
 clear hr0 hc0
 have HR1:=Aside0.mk hr1
 have HC1:=Aside0.mk hc1
 clear hr1 hc1
 have HB:=Aside0.mk (Below.refl w.heap.size w)
 have H:(impl_apply.l0 k l0 ([]:List Int) l1 (l1.length:Int) 0) = some (r1,r2):=h
 clear h
 have H':=Aside0.mk H
 clear H
 go_enter Try.func41,Try.ntmps41
 go_wp2
 go_loopg [6,11] k (fun kq v6 v11 w'=>∃ (x6_1:List Int) (x11_1:Int),v11 = .int .i64 x11_1 ∧ Aside0 (impl_apply.l0 kq l0 x6_1 l1 (l1.length:Int) x11_1 = some (r1,r2)) ∧ Aside0 (kq ≤ k) ∧ Aside0 (Kd.R (Kd.int .i64) 3 w' w.heap.size (fun _=>True) v6 x6_1) ∧ Aside0 (Below w.heap.size w w'))
 case atStart=>exact ⟨(([]:List Int)),(0),Ye,H',⟨Nat.le_refl _⟩,⟨Yg⟩,⟨bH⟩⟩
 case round =>
  clear H'
  try clear c1
  try clear p2
  obtain ⟨x6_1,x11_1,rfl,HA,HK1,HO_6,HB⟩:=hrel
  cases gk with
  | zero=>exact absurd HA.out (by simp [impl_apply.l0])
  | succ k1 =>
   have H:=HA.out
   clear HA
   simp only [impl_apply.l0] at H
   by_cases c3:x11_1 < (l1.length:Int)
   ·rw [if_pos c3] at H
    have c3b0:=decide_eq_true c3
    clear c3
    by_cases c4:0 ≤ x11_1
    ·rw [if_pos c4] at H
     have c4b0:=decide_eq_true c4
     clear c4
     by_cases c5:x11_1 < (l1.length:Int)
     ·rw [if_pos c5] at H
      have c5b0:=decide_eq_true c5
      clear c5
      have HC6:=Aside0.mk H
      clear H
      have p239:0 ≤ (x11_1:Int):=oD
      have q239:x11_1 < (l1.length:Int):=oD
      obtain ⟨ad239,e239,hx239_0⟩:=Kd.at_int HR1.out x11_1 p239 q239
      cases e239
      replace hx239_0:=(HB.out.cell (World.block_lt_of_cell? w _ hx239_0)).trans hx239_0
      replace p239:=eq_true p239
      replace q239:=eq_true q239
      go_upto_region 5 with (fail)
      go_cut [25] (fun v25 wc=>∃ (kq:Nat) (x25_5:Bool),v25 = .bool x25_5 ∧ Aside0 (impl_apply.j1 kq l0 x6_1 (rd l1 x11_1) l1 (l1.length:Int) x11_1 x25_5 = some (r1,r2)) ∧ Aside0 (kq ≤ k1) ∧ Aside0 (Kd.R (Kd.int .i64) 3 wc w.heap.size (fun _=>True) u6 x6_1) ∧ Aside0 (Below w.heap.size w wc))
      case first =>
       have H:=HC6.out
       clear HC6
       by_cases c7:(rd l1 x11_1) < 0
       ·rw [if_pos c7] at H
        have c7b0:=decide_eq_true c7
        clear c7
        (first|rw [c7b0]|(simp only [i64_w,i32_w];rw [c7b0])|skip)
        obtain ⟨ji8,hji8⟩:∃ j_:Int,(wrap64 ((-1) - (rd l1 x11_1))) = j_:=⟨_,rfl⟩
        replace H:(if 0 ≤ (ji8) then (if (ji8) < (l0.length:Int) then (impl_apply.j1 k1 l0 x6_1 (rd l1 x11_1) l1 (l1.length:Int) x11_1 (decide (((rd_L2 l0 (ji8)).length:Int) > 0))) else (none)) else (none)) = some (r1,r2):=by first|(rw [hji8] at H;exact H)|(simp only [hji8] at H ⊢;exact H)
        have hji8w:(IntKind.i64.wrap ((-1) - (rd l1 x11_1))) = ji8:=(i64_w _).trans hji8
        by_cases c9:0 ≤ (ji8)
        ·rw [if_pos c9] at H
         have c9b0:=decide_eq_true c9
         clear c9
         by_cases c10:(ji8) < (l0.length:Int)
         ·rw [if_pos c10] at H
          have c10b0:=decide_eq_true c10
          clear c10
          have H':=Aside0.mk H
          clear H
          have p240:0 ≤ ((ji8):Int):=oD
          have q240:(ji8) < (l0.length:Int):=oD
          obtain ⟨ad240,A240_0,c240_0,e240,hx240_0,hl240_0,hi240_0⟩:=at_L2 HR0.out (ji8) p240 q240
          cases e240
          replace hx240_0:=(HB.out.cell (World.block_lt_of_cell? w _ hx240_0)).trans hx240_0
          have HR240_0:=Aside0.mk hi240_0
          have HC240_0:=Aside0.mk hl240_0
          clear hi240_0 hl240_0
          replace p240:=eq_true p240
          replace q240:=eq_true q240
          go_wp2
          go_meet
          case rel=>exact ⟨_,(decide (((rd_L2 l0 (ji8)).length:Int) > 0)),(by first|rfl|(simp;done)|(simp only [← hji8] <;> (first|rfl|simp))|(simp [*];done)),H',⟨Zd⟩,⟨rR HO_6⟩,⟨bH⟩⟩
         ·rw [if_neg c10] at H
          exact absurd H (by simp)
        ·rw [if_neg c9] at H
         exact absurd H (by simp)
       ·rw [if_neg c7] at H
        have c7b0:decide ((rd l1 x11_1) < 0) = false:=decide_eq_false c7
        clear c7
        (first|rw [c7b0]|(simp only [i64_w,i32_w];rw [c7b0])|skip)
        have H':=Aside0.mk H
        clear H
        go_wp2
        go_meet
        case rel=>exact ⟨_,(false),Ye,H',⟨Zd⟩,⟨rR HO_6⟩,⟨bH⟩⟩
      case rest =>
       clear HC6
       try clear c1
       try clear c2
       try clear p2
       try clear q2
       try clear hx2
       try clear c3
       try clear c3b0
       try clear c4
       try clear c4b0
       try clear c5
       try clear c5b0
       try clear p6
       try clear c7
       try clear c7b0
       try clear c9
       try clear c9b0
       try clear c10
       try clear c10b0
       try clear hx239_0
       try clear hx240_0
       try clear p2
       try clear p239
       try clear p240
       try clear q239
       try clear q240
       obtain ⟨kq,x25_5,rfl,HA,HJ5,HO_6,HB⟩:=hcut
       cases kq with
       | zero=>exact absurd HA.out (by simp [impl_apply.j1])
       | succ kj5 =>
        have H:=HA.out
        clear HA
        simp only [impl_apply.j1] at H
        by_cases c11:x25_5 = true
        ·subst c11
         have H1:(if 0 ≤ (wrap64 ((-1) - (rd l1 x11_1))) then (if (wrap64 ((-1) - (rd l1 x11_1))) < (l0.length:Int) then (if x6_1.length + (rd_L2 l0 (wrap64 ((-1) - (rd l1 x11_1)))).length < 17592186044416 then ((some (x6_1 ++ (rd_L2 l0 (wrap64 ((-1) - (rd l1 x11_1)))):List Int)).bind fun y242=>(if (y242.length:Int) > 40 then (some (([]:List Int),false)) else (impl_apply.l0 kj5 l0 y242 l1 (l1.length:Int) (wrap64 (x11_1 + 1))))) else (none)) else (none)) else (none)) = some (r1,r2):=by rw [if_pos rfl] at H;exact H
         clear H
         have H:=H1
         clear H1
         obtain ⟨ji12,hji12⟩:∃ j_:Int,(wrap64 ((-1) - (rd l1 x11_1))) = j_:=⟨_,rfl⟩
         replace H:(if 0 ≤ (ji12) then (if (ji12) < (l0.length:Int) then (if x6_1.length + (rd_L2 l0 (ji12)).length < 17592186044416 then ((some (x6_1 ++ (rd_L2 l0 (ji12)):List Int)).bind fun y242=>(if (y242.length:Int) > 40 then (some (([]:List Int),false)) else (impl_apply.l0 kj5 l0 y242 l1 (l1.length:Int) (wrap64 (x11_1 + 1))))) else (none)) else (none)) else (none)) = some (r1,r2):=by first|(rw [hji12] at H;exact H)|(simp only [hji12] at H ⊢;exact H)
         have hji12w:(IntKind.i64.wrap ((-1) - (rd l1 x11_1))) = ji12:=(i64_w _).trans hji12
         by_cases c13:0 ≤ (ji12)
         ·rw [if_pos c13] at H
          have c13b0:=decide_eq_true c13
          clear c13
          by_cases c14:(ji12) < (l0.length:Int)
          ·rw [if_pos c14] at H
           have c14b0:=decide_eq_true c14
           clear c14
           by_cases c15:x6_1.length + (rd_L2 l0 (ji12)).length < 17592186044416
           ·rw [if_pos c15] at H
            have LMc15:=Aside0.mk c15
            clear c15
            obtain ⟨y242,hy242⟩:∃ y_:List Int,y_ = (x6_1 ++ (rd_L2 l0 (ji12))):=⟨_,rfl⟩
            replace H:(if (y242.length:Int) > 40 then (some (([]:List Int),false)) else (impl_apply.l0 kj5 l0 y242 l1 (l1.length:Int) (wrap64 (x11_1 + 1)))) = some (r1,r2):=by first|(rw [hy242];with_reducible exact H)|(have H2_:=(Option.bind_some _ _).symm.trans H;rw [hy242];with_reducible exact H2_)|(have H2_:=(Option.bind_some _ _).symm.trans H;with_reducible exact H2_)|with_reducible exact H|(rw [hy242];exact H)|exact H
            have Ny242:=Aside0.mk hy242
            clear hy242
            by_cases c16:(y242.length:Int) > 40
            ·rw [if_pos c16] at H
             have c16b0:decide (40 < (y242.length:Int)) = true:=decide_eq_true c16
             have c16b1:decide (40 < y242.length) = true:=decide_eq_true (by omega)
             clear c16
             simp only [Option.some.injEq,Prod.mk.injEq] at H
             obtain ⟨rfl,rfl⟩:=H
             have p241:0 ≤ ((ji12):Int):=oD
             have q241:(ji12) < (l0.length:Int):=oD
             obtain ⟨ad241,A241_0,c241_0,e241,hx241_0,hl241_0,hi241_0⟩:=at_L2 HR0.out (ji12) p241 q241
             cases e241
             replace hx241_0:=(HB.out.cell (World.block_lt_of_cell? w _ hx241_0)).trans hx241_0
             have HR241_0:=Aside0.mk hi241_0
             have HC241_0:=Aside0.mk hl241_0
             clear hi241_0 hl241_0
             replace p241:=eq_true p241
             replace q241:=eq_true q241
             go_wp2_with (first|((with_reducible refine gate_builtin (b:=.append) (xs:=#[.tmp 26,.tmp 31]) rfl ?_);(try (refine gate_guard (by rfl) ?_;dsimp only));at_builtin;refine Kd.R_append_rows (Kd.int .i64) (w0:=w) w.heap.size rfl (.tmp 26) (.tmp 31) 24 3 (.int .i64 0) 8 rfl Try.underlying24 info3 rfl (by decide) Zc u6 x6_1 (rd_L2 l0 (ji12)) _ _ _ (fun _=>True) (fun _=>False) rfl rfl ?aO ?aR (fun _ _ h=>h) (fun _ h=>h.elim) ?aF ?aB ?aS ?aL ?_;(case aR=>exact sC HR241_0);(case aB=>exact bH);(case aF=>exact YW);(case aO=>exact (rR HO_6));(case aS=>exact (below_size bH));(case aL=>have:=LMc15.out;omega);intro v243 w17 ho hb hg hat;rw [← Ny242.out] at ho;have n0_:=Aside0.mk (hb);have n1_:=Aside0.mk (ho);clear HB;clear HO_6;have HB:=n0_;have HO244:=n1_;clear n0_ n1_;clear ho hb hg hat;obtain ⟨Ao18,co18,eo18⟩:=Kd.R_slice HO244.out;subst eo18))
             go_ret2
             exact ⟨_,by first|rfl|(simp [errW_none,errW_some] <;> rfl)|(simp only [← hji12];first|rfl|(simp [errW_none,errW_some] <;> rfl))|(simp [*,errW_none,errW_some] <;> rfl),Yg,bH⟩
            ·rw [if_neg c16] at H
             have c16b0:decide (40 < (y242.length:Int)) = false:=decide_eq_false c16
             have c16b1:decide (40 < y242.length) = false:=decide_eq_false (by omega)
             clear c16
             have H':=Aside0.mk H
             clear H
             have p241:0 ≤ ((ji12):Int):=oD
             have q241:(ji12) < (l0.length:Int):=oD
             obtain ⟨ad241,A241_0,c241_0,e241,hx241_0,hl241_0,hi241_0⟩:=at_L2 HR0.out (ji12) p241 q241
             cases e241
             replace hx241_0:=(HB.out.cell (World.block_lt_of_cell? w _ hx241_0)).trans hx241_0
             have HR241_0:=Aside0.mk hi241_0
             have HC241_0:=Aside0.mk hl241_0
             clear hi241_0 hl241_0
             replace p241:=eq_true p241
             replace q241:=eq_true q241
             go_wp2_with (first|((with_reducible refine gate_builtin (b:=.append) (xs:=#[.tmp 26,.tmp 31]) rfl ?_);(try (refine gate_guard (by rfl) ?_;dsimp only));at_builtin;refine Kd.R_append_rows (Kd.int .i64) (w0:=w) w.heap.size rfl (.tmp 26) (.tmp 31) 24 3 (.int .i64 0) 8 rfl Try.underlying24 info3 rfl (by decide) Zc u6 x6_1 (rd_L2 l0 (ji12)) _ _ _ (fun _=>True) (fun _=>False) rfl rfl ?aO ?aR (fun _ _ h=>h) (fun _ h=>h.elim) ?aF ?aB ?aS ?aL ?_;(case aR=>exact sC HR241_0);(case aB=>exact bH);(case aF=>exact YW);(case aO=>exact (rR HO_6));(case aS=>exact (below_size bH));(case aL=>have:=LMc15.out;omega);intro v243 w19 ho hb hg hat;rw [← Ny242.out] at ho;have n0_:=Aside0.mk (hb);have n1_:=Aside0.mk (ho);clear HB;clear HO_6;have HB:=n0_;have HO244:=n1_;clear n0_ n1_;clear ho hb hg hat;obtain ⟨Ao20,co20,eo20⟩:=Kd.R_slice HO244.out;subst eo20))
             go_roundg kj5
             case measure=>have:=HK1.out;have:=HJ5.out;omega
             case rel=>exact ⟨(y242),(wrap64 (x11_1 + 1)),Ye,H',⟨by have:=HK1.out;have:=HJ5.out;omega⟩,⟨rR HO244⟩,⟨bH⟩⟩
           ·rw [if_neg c15] at H
            exact absurd H (by simp)
          ·rw [if_neg c14] at H
           exact absurd H (by simp)
         ·rw [if_neg c13] at H
          exact absurd H (by simp)
        ·replace c11:=Bool.eq_false_iff.mpr c11
         subst c11
         have H1:(if x6_1.length < 17592186044416 then ((some (x6_1 ++ [(rd l1 x11_1)]:List Int)).bind fun y245=>(if (y245.length:Int) > 40 then (some (([]:List Int),false)) else (impl_apply.l0 kj5 l0 y245 l1 (l1.length:Int) (wrap64 (x11_1 + 1))))) else (none)) = some (r1,r2):=by rw [if_neg (show ¬ (false = true) by decide)] at H;exact H
         clear H
         have H:=H1
         clear H1
         by_cases c21:x6_1.length < 17592186044416
         ·rw [if_pos c21] at H
          have LMc21:=Aside0.mk c21
          clear c21
          obtain ⟨y245,hy245⟩:∃ y_:List Int,y_ = (x6_1 ++ [(rd l1 x11_1)]):=⟨_,rfl⟩
          replace H:(if (y245.length:Int) > 40 then (some (([]:List Int),false)) else (impl_apply.l0 kj5 l0 y245 l1 (l1.length:Int) (wrap64 (x11_1 + 1)))) = some (r1,r2):=by first|(rw [hy245];with_reducible exact H)|(have H2_:=(Option.bind_some _ _).symm.trans H;rw [hy245];with_reducible exact H2_)|(have H2_:=(Option.bind_some _ _).symm.trans H;with_reducible exact H2_)|with_reducible exact H|(rw [hy245];exact H)|exact H
          have Ny245:=Aside0.mk hy245
          clear hy245
          by_cases c22:(y245.length:Int) > 40
          ·rw [if_pos c22] at H
           have c22b0:decide (40 < (y245.length:Int)) = true:=decide_eq_true c22
           have c22b1:decide (40 < y245.length) = true:=decide_eq_true (by omega)
           clear c22
           simp only [Option.some.injEq,Prod.mk.injEq] at H
           obtain ⟨rfl,rfl⟩:=H
           go_wp2_with (first|((with_reducible refine gate_builtin (b:=.append) (xs:=#[.tmp 33,.tmp 35]) rfl ?_);(try (refine gate_guard (by rfl) ?_;dsimp only));at_builtin;refine Kd.R_append (Kd.int .i64) (w0:=w) w.heap.size rfl (.tmp 33) (.tmp 35) 24 3 (.int .i64 0) 8 rfl Try.underlying24 info3 rfl (by decide) Zc u6 x6_1 (rd l1 x11_1) [.int .i64 (rd l1 x11_1)] (fun _=>True) (fun _=>False) rfl rfl ?aP (fun _ hk=>hk.elim) ?aF ?aO ?aB ?aS ?aL ?_;(case aP=>exact rfl);(case aB=>exact bH);(case aF=>exact YW);(case aO=>exact (rR HO_6));(case aS=>exact (below_size bH));(case aL=>have:=LMc21.out;omega);intro v246 w23 ho hb hg hat;rw [← Ny245.out] at ho;have n0_:=Aside0.mk (hb);have n1_:=Aside0.mk (ho);clear HB;clear HO_6;have HB:=n0_;have HO247:=n1_;clear n0_ n1_;clear ho hb hg hat;obtain ⟨Ao24,co24,eo24⟩:=Kd.R_slice HO247.out;subst eo24))
           go_ret2
           exact ⟨_,Yb,Yg,bH⟩
          ·rw [if_neg c22] at H
           have c22b0:decide (40 < (y245.length:Int)) = false:=decide_eq_false c22
           have c22b1:decide (40 < y245.length) = false:=decide_eq_false (by omega)
           clear c22
           have H':=Aside0.mk H
           clear H
           go_wp2_with (first|((with_reducible refine gate_builtin (b:=.append) (xs:=#[.tmp 33,.tmp 35]) rfl ?_);(try (refine gate_guard (by rfl) ?_;dsimp only));at_builtin;refine Kd.R_append (Kd.int .i64) (w0:=w) w.heap.size rfl (.tmp 33) (.tmp 35) 24 3 (.int .i64 0) 8 rfl Try.underlying24 info3 rfl (by decide) Zc u6 x6_1 (rd l1 x11_1) [.int .i64 (rd l1 x11_1)] (fun _=>True) (fun _=>False) rfl rfl ?aP (fun _ hk=>hk.elim) ?aF ?aO ?aB ?aS ?aL ?_;(case aP=>exact rfl);(case aB=>exact bH);(case aF=>exact YW);(case aO=>exact (rR HO_6));(case aS=>exact (below_size bH));(case aL=>have:=LMc21.out;omega);intro v246 w25 ho hb hg hat;rw [← Ny245.out] at ho;have n0_:=Aside0.mk (hb);have n1_:=Aside0.mk (ho);clear HB;clear HO_6;have HB:=n0_;have HO247:=n1_;clear n0_ n1_;clear ho hb hg hat;obtain ⟨Ao26,co26,eo26⟩:=Kd.R_slice HO247.out;subst eo26))
           go_roundg kj5
           case measure=>have:=HK1.out;have:=HJ5.out;omega
           case rel=>exact ⟨(y245),(wrap64 (x11_1 + 1)),Ye,H',⟨by have:=HK1.out;have:=HJ5.out;omega⟩,⟨rR HO247⟩,⟨bH⟩⟩
         ·rw [if_neg c21] at H
          exact absurd H (by simp)
     ·rw [if_neg c5] at H
      exact absurd H (by simp)
    ·rw [if_neg c4] at H
     exact absurd H (by simp)
   ·rw [if_neg c3] at H
    have c3b0:decide (x11_1 < (l1.length:Int)) = false:=decide_eq_false c3
    clear c3
    simp only [Option.some.injEq,Prod.mk.injEq] at H
    obtain ⟨rfl,rfl⟩:=H
    go_wp2
    go_ret2
    exact ⟨_,Yb,rR HO_6,bH⟩

/-! ### impl_Apply: function 9 -/
def impl_Apply.f (k:Nat) (l0_0:List Int) (l1:List (List Int)) (l2:List Int):Option (List Int × Bool):=(impl_GoodSubst.f k l0_0 l1).bind fun t249=>(if t249 = true then ((impl_Sign_isTerm.f k l0_0 l2).bind fun t250=>(if t250 = true then ((impl_apply.f k l1 l2).bind fun bt251=>(some (bt251.1,bt251.2))) else (some (([]:List Int),false)))) else (some (([]:List Int),false)))
theorem impl_Apply.mono:∀ a0 a1 a2 k,LeO (impl_Apply.f k a0 a1 a2) (impl_Apply.f (k + 1) a0 a1 a2):=by
 intro a0 a1 a2 k
 unfold impl_Apply.f
 have m0:=@impl_GoodSubst.mono
 have m1:=@impl_Sign_isTerm.mono
 have m2:=@impl_apply.mono
 exact mO
set_option maxHeartbeats 8000000 in
set_option maxRecDepth 100000 in
theorem impl_Apply.calls (k:Nat) (A0_0:Option Addr) (c0_0:Nat) (l0_0:List Int) (A1:Option Addr) (c1:Nat) (l1:List (List Int)) (A2:Option Addr) (c2:Nat) (l2:List Int) (r1:List Int) (r2:Bool) (w:World) (hr0_0:Kd.C (Kd.int .i64) w A0_0 l0_0.length l0_0) (hc0_0:l0_0.length ≤ c0_0) (hr1:Kd.C (Kd.slice 3 (Kd.int .i64)) w A1 l1.length l1) (hc1:l1.length ≤ c1) (hr2:Kd.C (Kd.int .i64) w A2 l2.length l2) (hc2:l2.length ≤ c2) (h:impl_Apply.f k l0_0 l1 l2 = some (r1,r2)) :
  Calls Try.prog 9 #[.agg #[.slice A0_0 l0_0.length c0_0],.slice A1 l1.length c1,.slice A2 l2.length c2] w fun e w'=>∃ v0_:Value,e = .returned (.tuple #[v0_,.bool r2]) ∧ Kd.R (Kd.int .i64) 3 w' w.heap.size (fun _=>True) v0_ r1 ∧ Below w.heap.size w w':=by
 have hu26:=Try.underlying26
 have HR0_0:=Aside0.mk hr0_0
 have HC0_0:=Aside0.mk hc0_0
 clear hr0_0 hc0_0
 have HR1:=Aside0.mk hr1
 have HC1:=Aside0.mk hc1
 clear hr1 hc1
 have HR2:=Aside0.mk hr2
 have HC2:=Aside0.mk hc2
 clear hr2 hc2
 have HB:=Aside0.mk (Below.refl w.heap.size w)
 have H:((impl_GoodSubst.f k l0_0 l1).bind fun t249=>(if t249 = true then ((impl_Sign_isTerm.f k l0_0 l2).bind fun t250=>(if t250 = true then ((impl_apply.f k l1 l2).bind fun bt251=>(some (bt251.1,bt251.2))) else (some (([]:List Int),false)))) else (some (([]:List Int),false)))) = some (r1,r2):=h
 clear h
 replace H:=Option.bind_eq_some_iff.mp H
 obtain ⟨t249,A40,H⟩:=H
 replace H:(if t249 = true then ((impl_Sign_isTerm.f k l0_0 l2).bind fun t250=>(if t250 = true then ((impl_apply.f k l1 l2).bind fun bt251=>(some (bt251.1,bt251.2))) else (some (([]:List Int),false)))) else (some (([]:List Int),false))) = some (r1,r2):=H
 have A4:=Aside0.mk A40
 clear A40
 by_cases c5:t249 = true
 ·subst c5
  have H1:((impl_Sign_isTerm.f k l0_0 l2).bind fun t250=>(if t250 = true then ((impl_apply.f k l1 l2).bind fun bt251=>(some (bt251.1,bt251.2))) else (some (([]:List Int),false)))) = some (r1,r2):=by rw [if_pos rfl] at H;exact H
  clear H
  have H:=H1
  clear H1
  replace H:=Option.bind_eq_some_iff.mp H
  obtain ⟨t250,A60,H⟩:=H
  replace H:(if t250 = true then ((impl_apply.f k l1 l2).bind fun bt251=>(some (bt251.1,bt251.2))) else (some (([]:List Int),false))) = some (r1,r2):=H
  have A6:=Aside0.mk A60
  clear A60
  by_cases c7:t250 = true
  ·subst c7
   have H1:((impl_apply.f k l1 l2).bind fun bt251=>(some (bt251.1,bt251.2))) = some (r1,r2):=by rw [if_pos rfl] at H;exact H
   clear H
   have H:=H1
   clear H1
   replace H:=Option.bind_eq_some_iff.mp H
   obtain ⟨⟨t251,t252⟩,A80,H⟩:=H
   replace H:(some (t251,t252)) = some (r1,r2):=H
   have A8:=Aside0.mk A80
   clear A80
   simp only [Option.some.injEq,Prod.mk.injEq] at H
   obtain ⟨rfl,rfl⟩:=H
   go_enter Try.func9,Try.ntmps9
   go_wp2_with (first|((with_reducible refine gate_dst (N:=3) rfl ?_);refine box_event ?hg (N:=3) ?hd (cs:=#[.slice A0_0 l0_0.length c0_0]) (t:=26) ?hr ?_;(case hd=>rfl);(case hg=>rfl);(case hr=>exact Yd);intro gb248 hg w9 hbox hb;have BK248:=Aside0.mk (hbox);have GW248:=Aside0.mk ((hZ:w.heap.size ≤ gb248));have GE248:=Aside0.mk ((hZ:w.heap.size ≤ gb248));replace HB:=Aside0.mk (below_step bH hb);clear hb hbox hg;have hcz10_0:w9.cell? ⟨gb248,0,none⟩ = some (.slice A0_0 l0_0.length c0_0):=(blk_cell BK248.out 0).trans rfl;have hfz10_0:=blk_frozen BK248.out 0)|((with_reducible refine gate_callee (f:=39) rfl ?_);refine goesL_ (some 10) rfl rfl Try.func39 (by kernel_rfl) rfl #[.agg #[.slice A0_0 l0_0.length c0_0],.slice A1 l1.length c1] rfl Ya ?_;(with_reducible refine (impl_GoodSubst.calls k _ _ l0_0 _ _ l1 true _ ?side1 ?side2 ?side3 ?side4 A4.out).mono ?_);(case side1=>exact Yv);(case side2=>exact Yu);(case side3=>exact sC HR1);(case side4=>exact HC1.out);rintro e w11 ⟨rfl,hb⟩;refine ⟨_,rfl,?_⟩;replace BK248:=Aside0.mk (blk_below (bB BK248) hb);replace HB:=Aside0.mk (below_step bH hb);(try clear hb);(try clear hb2);(try clear hk);(try clear hi);have hcz12_0:w11.cell? ⟨gb248,0,none⟩ = some (.slice A0_0 l0_0.length c0_0):=(blk_cell BK248.out 0).trans rfl;have hfz12_0:=blk_frozen BK248.out 0)|(go_at_call 40;(with_reducible refine (impl_Sign_isTerm.calls k _ _ l0_0 _ _ l2 true _ ?side1 ?side2 ?side3 ?side4 A6.out).mono ?_);(case side1=>exact Yv);(case side2=>exact Yu);(case side3=>exact sC HR2);(case side4=>exact HC2.out);rintro e w13 ⟨rfl,hb⟩;replace BK248:=Aside0.mk (blk_below (bB BK248) hb);replace HB:=Aside0.mk (below_step bH hb);(try clear hb);(try clear hb2);(try clear hk);(try clear hi))|((with_reducible refine gate_callee (f:=41) rfl ?_);refine goesL_ (some 20) rfl rfl Try.func41 (by kernel_rfl) rfl #[.slice A1 l1.length c1,.slice A2 l2.length c2] rfl Ya ?_;(with_reducible refine (impl_apply.calls k _ _ l1 _ _ l2 t251 t252 _ ?side1 ?side2 ?side3 ?side4 A8.out).mono ?_);(case side1=>exact sC HR1);(case side2=>exact HC1.out);(case side3=>exact sC HR2);(case side4=>exact HC2.out);rintro e w14 ⟨v253,rfl,ho0,hb⟩;refine ⟨_,rfl,?_⟩;have HO254:=Aside0.mk (Kd.R_lower ho0 (below_size bH));replace BK248:=Aside0.mk (blk_below (bB BK248) hb);replace HB:=Aside0.mk (below_step bH hb);(try clear hb);(try clear hb2);(try clear hk);(try clear hi);(try clear ho0)))
   go_ret2
   exact ⟨_,Yb,rR HO254,bH⟩
  ·replace c7:=Bool.eq_false_iff.mpr c7
   subst c7
   have H1:(some (([]:List Int),false)) = some (r1,r2):=by rw [if_neg (show ¬ (false = true) by decide)] at H;exact H
   clear H
   have H:=H1
   clear H1
   simp only [Option.some.injEq,Prod.mk.injEq] at H
   obtain ⟨rfl,rfl⟩:=H
   go_enter Try.func9,Try.ntmps9
   go_wp2_with (first|((with_reducible refine gate_dst (N:=3) rfl ?_);refine box_event ?hg (N:=3) ?hd (cs:=#[.slice A0_0 l0_0.length c0_0]) (t:=26) ?hr ?_;(case hd=>rfl);(case hg=>rfl);(case hr=>exact Yd);intro gb248 hg w15 hbox hb;have BK248:=Aside0.mk (hbox);have GW248:=Aside0.mk ((hZ:w.heap.size ≤ gb248));have GE248:=Aside0.mk ((hZ:w.heap.size ≤ gb248));replace HB:=Aside0.mk (below_step bH hb);clear hb hbox hg;have hcz16_0:w15.cell? ⟨gb248,0,none⟩ = some (.slice A0_0 l0_0.length c0_0):=(blk_cell BK248.out 0).trans rfl;have hfz16_0:=blk_frozen BK248.out 0)|((with_reducible refine gate_callee (f:=39) rfl ?_);refine goesL_ (some 10) rfl rfl Try.func39 (by kernel_rfl) rfl #[.agg #[.slice A0_0 l0_0.length c0_0],.slice A1 l1.length c1] rfl Ya ?_;(with_reducible refine (impl_GoodSubst.calls k _ _ l0_0 _ _ l1 true _ ?side1 ?side2 ?side3 ?side4 A4.out).mono ?_);(case side1=>exact Yv);(case side2=>exact Yu);(case side3=>exact sC HR1);(case side4=>exact HC1.out);rintro e w17 ⟨rfl,hb⟩;refine ⟨_,rfl,?_⟩;replace BK248:=Aside0.mk (blk_below (bB BK248) hb);replace HB:=Aside0.mk (below_step bH hb);(try clear hb);(try clear hb2);(try clear hk);(try clear hi);have hcz18_0:w17.cell? ⟨gb248,0,none⟩ = some (.slice A0_0 l0_0.length c0_0):=(blk_cell BK248.out 0).trans rfl;have hfz18_0:=blk_frozen BK248.out 0)|(go_at_call 40;(with_reducible refine (impl_Sign_isTerm.calls k _ _ l0_0 _ _ l2 false _ ?side1 ?side2 ?side3 ?side4 A6.out).mono ?_);(case side1=>exact Yv);(case side2=>exact Yu);(case side3=>exact sC HR2);(case side4=>exact HC2.out);rintro e w19 ⟨rfl,hb⟩;replace BK248:=Aside0.mk (blk_below (bB BK248) hb);replace HB:=Aside0.mk (below_step bH hb);(try clear hb);(try clear hb2);(try clear hk);(try clear hi)))
   go_ret2
   exact ⟨_,Yb,Yg,bH⟩
 ·replace c5:=Bool.eq_false_iff.mpr c5
  subst c5
  have H1:(some (([]:List Int),false)) = some (r1,r2):=by rw [if_neg (show ¬ (false = true) by decide)] at H;exact H
  clear H
  have H:=H1
  clear H1
  simp only [Option.some.injEq,Prod.mk.injEq] at H
  obtain ⟨rfl,rfl⟩:=H
  go_enter Try.func9,Try.ntmps9
  go_wp2_with (first|((with_reducible refine gate_dst (N:=3) rfl ?_);refine box_event ?hg (N:=3) ?hd (cs:=#[.slice A0_0 l0_0.length c0_0]) (t:=26) ?hr ?_;(case hd=>rfl);(case hg=>rfl);(case hr=>exact Yd);intro gb248 hg w20 hbox hb;have BK248:=Aside0.mk (hbox);have GW248:=Aside0.mk ((hZ:w.heap.size ≤ gb248));have GE248:=Aside0.mk ((hZ:w.heap.size ≤ gb248));replace HB:=Aside0.mk (below_step bH hb);clear hb hbox hg;have hcz21_0:w20.cell? ⟨gb248,0,none⟩ = some (.slice A0_0 l0_0.length c0_0):=(blk_cell BK248.out 0).trans rfl;have hfz21_0:=blk_frozen BK248.out 0)|((with_reducible refine gate_callee (f:=39) rfl ?_);refine goesL_ (some 10) rfl rfl Try.func39 (by kernel_rfl) rfl #[.agg #[.slice A0_0 l0_0.length c0_0],.slice A1 l1.length c1] rfl Ya ?_;(with_reducible refine (impl_GoodSubst.calls k _ _ l0_0 _ _ l1 false _ ?side1 ?side2 ?side3 ?side4 A4.out).mono ?_);(case side1=>exact Yv);(case side2=>exact Yu);(case side3=>exact sC HR1);(case side4=>exact HC1.out);rintro e w22 ⟨rfl,hb⟩;refine ⟨_,rfl,?_⟩;replace BK248:=Aside0.mk (blk_below (bB BK248) hb);replace HB:=Aside0.mk (below_step bH hb);(try clear hb);(try clear hb2);(try clear hk);(try clear hi)))
  go_ret2
  exact ⟨_,Yb,Yg,bH⟩

/-! ### impl_areElements_1: function 116 -/
def impl_areElements_1.f (a0:Int) (a1:Int):Option (Bool):=if a0 < 0 then (some true) else (some (decide (a0 ≥ a1)))
set_option maxHeartbeats 8000000 in
set_option maxRecDepth 100000 in
theorem impl_areElements_1.calls (a0:Int) (g1_:Nat) (a1:Int) (r:Bool) (w:World) (hg1:w.heap[g1_]? = some (.cells #[.int .i64 a1] 3 (0,0))) (h:impl_areElements_1.f a0 a1 = some r) :
  Calls Try.prog 116 #[.int .i64 a0,.pointer (some ⟨g1_,0,none⟩)] w fun e w'=>e = .returned (.bool r) ∧ Below w.heap.size w w':=by
 have BK1:=Aside0.mk hg1
 clear hg1
 have HB:=Aside0.mk (Below.refl w.heap.size w)
 have H:(if a0 < 0 then (some true) else (some (decide (a0 ≥ a1)))) = some r:=h
 clear h
 by_cases c3:a0 < 0
 ·rw [if_pos c3] at H
  have c3b0:=decide_eq_true c3
  clear c3
  obtain rfl:=Option.some.inj H
  go_enter Try.func116,Try.ntmps116
  go_wp2
  go_ret
  exact ⟨Yb,bH⟩
 ·rw [if_neg c3] at H
  have c3b0:decide (a0 < 0) = false:=decide_eq_false c3
  clear c3
  obtain rfl:=Option.some.inj H
  have hcz4_0:w.cell? ⟨g1_,0,none⟩ = some (.int .i64 a1):=(blk_cell BK1.out 0).trans rfl
  have hfz4_0:=blk_frozen BK1.out 0
  go_enter Try.func116,Try.ntmps116
  go_wp2
  go_ret
  exact ⟨Yb,bH⟩

end Go.Proofs.Ytmgkflkfoccgkaa.QFnPutFor
