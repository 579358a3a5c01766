-- Written by this session's own program (wip/x/xprint.py, over the kit's printer); Lean checks it.
import Derived.Test.YtmgkflkfoccgkaaQFnTidiedx0
import Derived.Test.YtmgkflkfoccgkaaQFnTidiedx2
namespace Go.Proofs.Ytmgkflkfoccgkaa.QFnTidied
open Go.RowKit Go.Proofs.YtmgkflkfoccgkaaW.PrintWords Go.Proofs.YtmgkflkfoccgkaaW.PrintLast Go.Proofs.YtmgkflkfoccgkaaW.PrintMore
attribute [local go_sem] max2_int min2_int max_two min_two max_three min_three max_four min_four   -- for this text's walks alone
set_option linter.unusedVariables false
set_option linter.unusedSimpArgs false

/-! ### impl_Sign_isWorld: function 55 -/
mutual
def impl_Sign_isWorld.j0:Nat → Bool → List Int → Int → List (List Int) → Option (Bool)
 | 0,_,_,_,_=>none
 | k + 1,x19,x124000,x125000,x125001=>if x19 = true then (some false) else (impl_Sign_isWorld.l0 k x125001 (x125001.length:Int) 0 x124000 x125000 x125001)
def impl_Sign_isWorld.l0:Nat → List (List Int) → Int → Int → List Int → Int → List (List Int) → Option (Bool)
 | 0,_,_,_,_,_,_=>none
 | k + 1,x21,x22,x23,x124000,x125000,x125001=>if x23 < x22 then (if 0 ≤ x23 then (if x23 < (x21.length:Int) then (if x23 < (x124000.length:Int) then ((impl_entries.f k x125000 (rd x124000 x23)).bind fun t128=>(if ((rd_L2 x21 x23).length:Int) = t128 then ((impl_areElements.f x125000 (rd_L2 x21 x23)).bind fun t129=>(if t129 = true then (impl_Sign_isWorld.l0 k x21 x22 (wrap64 (x23 + 1)) x124000 x125000 x125001) else (some false))) else (some false))) else (none)) else (none)) else (none)) else (some true)
end
def impl_Sign_isWorld.f (k:Nat) (l0_0:List Int) (a1_0:Int) (l1_1:List (List Int)):Option (Bool):=(impl_isSize.f a1_0).bind fun t125=>(if t125 = true then (impl_Sign_isWorld.j0 k ((l1_1.length:Int) != (l0_0.length:Int)) l0_0 a1_0 l1_1) else (impl_Sign_isWorld.j0 k true l0_0 a1_0 l1_1))
theorem impl_Sign_isWorld.mono_l:∀ k,(∀ y0 y1 y2 y3,LeO (impl_Sign_isWorld.j0 k y0 y1 y2 y3) (impl_Sign_isWorld.j0 (k + 1) y0 y1 y2 y3)) ∧ (∀ y0 y1 y2 y3 y4 y5,LeO (impl_Sign_isWorld.l0 k y0 y1 y2 y3 y4 y5) (impl_Sign_isWorld.l0 (k + 1) y0 y1 y2 y3 y4 y5))
 | 0=>⟨fun _ _ _ _ r h=>by simp [impl_Sign_isWorld.j0] at h,fun _ _ _ _ _ _ r h=>by simp [impl_Sign_isWorld.l0] at h⟩
 | k + 1=>by
  obtain ⟨ih0,ih1⟩:=impl_Sign_isWorld.mono_l k
  refine ⟨?_,?_⟩
  ·intro y0 y1 y2 y3
   unfold impl_Sign_isWorld.j0
   have m0:=@impl_entries.mono
   exact mO
  ·intro y0 y1 y2 y3 y4 y5
   unfold impl_Sign_isWorld.l0
   have m0:=@impl_entries.mono
   exact mO
theorem impl_Sign_isWorld.mono:∀ a0 a1 a2 k,LeO (impl_Sign_isWorld.f k a0 a1 a2) (impl_Sign_isWorld.f (k + 1) a0 a1 a2):=by
 intro a0 a1 a2 k
 obtain ⟨ih0,ih1⟩:=impl_Sign_isWorld.mono_l k
 unfold impl_Sign_isWorld.f
 have m0:=@impl_entries.mono
 exact mO
def impl_Sign_isWorld.T6:Bool × List (List Nat × List Nat):=(true,[([],[]),([0],[0]),([],[]),([2],[2]),([],[]),([4],[4]),([],[]),([5,6],[5,6]),([7],[7]),([3,8],[3,8]),([1,9],[1,9]),([10,9],[10]),([11],[11]),([12,11],[11,12]),([11],[11]),([13,14,11,11],[11,13,14]),([15,11],[11,15]),([11,16],[11,16])])
def impl_Sign_isWorld.B6:List Nat:=[0,1,0,4,0,16,0,112,240,508,1023,2047,4095,8191,4095,32767,65535,131071]
theorem impl_Sign_isWorld.tab6:rtab .any (opsOf Try.f55 6) = impl_Sign_isWorld.T6:=by kernel_rfl
theorem impl_Sign_isWorld.bits6:waitsOk impl_Sign_isWorld.T6.2 impl_Sign_isWorld.B6 = true:=by kernel_rfl
set_option maxHeartbeats 8000000 in
set_option maxRecDepth 100000 in
theorem impl_Sign_isWorld.calls (k:Nat) (A0_0:Option Addr) (c0_0:Nat) (l0_0:List Int) (a1_0:Int) (A1_1:Option Addr) (c1_1:Nat) (l1_1:List (List Int)) (r:Bool) (w:World) (hr0_0:Kd.C (Kd.int .i64) w A0_0 l0_0.length l0_0) (hc0_0:l0_0.length ≤ c0_0) (hr1_1:Kd.C (Kd.slice 3 (Kd.int .i64)) w A1_1 l1_1.length l1_1) (hc1_1:l1_1.length ≤ c1_1) (h:impl_Sign_isWorld.f k l0_0 a1_0 l1_1 = some r) :
  Calls Try.prog 55 #[.agg #[.slice A0_0 l0_0.length c0_0],.agg #[.int .i64 a1_0,.slice A1_1 l1_1.length c1_1]] w fun e w'=>e = .returned (.bool r) ∧ Below w.heap.size w w':=by
 have hu26:=Try.underlying26
 have hu31:=Try.underlying31
 have HR0_0:=Aside0.mk hr0_0
 have HC0_0:=Aside0.mk hc0_0
 clear hr0_0 hc0_0
 have HR1_1:=Aside0.mk hr1_1
 have HC1_1:=Aside0.mk hc1_1
 clear hr1_1 hc1_1
 have HB:=Aside0.mk (Below.refl w.heap.size w)
 have H:((impl_isSize.f a1_0).bind fun t125=>(if t125 = true then (impl_Sign_isWorld.j0 k ((l1_1.length:Int) != (l0_0.length:Int)) l0_0 a1_0 l1_1) else (impl_Sign_isWorld.j0 k true l0_0 a1_0 l1_1))) = some r:=h
 clear h
 have HC3:=Aside0.mk H
 clear H
 go_enter Try.func55,Try.ntmps55
 go_upto_region 1 with (first|((with_reducible refine gate_dst (N:=2) rfl ?_);(try (refine gate_guard (by rfl) ?_;dsimp only));refine box_event ?hg (N:=2) ?hd (cs:=#[.slice A0_0 l0_0.length c0_0]) (t:=26) ?hr ?_;(case hd=>rfl);(case hg=>rfl);(case hr=>exact Yc);intro gb123 hg w4 hbox hb;have BK123:=Aside0.mk (hbox);have GW123:=gZ w gb123;have GE123:=GW123;replace HB:=bS hb;clear hb hbox hg)|((with_reducible refine gate_dst (N:=3) rfl ?_);(try (refine gate_guard (by rfl) ?_;dsimp only));refine box_event ?hg (N:=3) ?hd (cs:=#[.int .i64 a1_0,.slice A1_1 l1_1.length c1_1]) (t:=31) ?hr ?_;(case hd=>rfl);(case hg=>rfl);(case hr=>exact Yc);intro gb124 hg w5 hbox hb;have BK124:=Aside0.mk (hbox);have GW124:=gZ w gb124;have GE124:=GW124;replace HB:=bS hb;have NB123_124:=nl BK123 gb123 gb124;have NB124_123:=nr NB123_124;replace BK123:=bb BK123 hb;clear hb hbox hg))
 (try simp only [Act.put,List.setIfInBounds_toArray,List.set_cons_zero,List.set_cons_succ])
 go_cut [19] (fun v19 wc=>∃ (kq:Nat) (x19_2:Bool),v19 = .bool x19_2 ∧ Aside0 (impl_Sign_isWorld.j0 kq x19_2 l0_0 a1_0 l1_1 = some r) ∧ Aside0 (kq ≤ k) ∧ Aside0 (wc.heap[gb123]? = some (.cells #[(.slice A0_0 l0_0.length c0_0)] 26 (0,0))) ∧ Aside0 (wc.heap[gb124]? = some (.cells #[.int .i64 a1_0,(.slice A1_1 l1_1.length c1_1)] 31 (0,0))) ∧ Aside0 (Below w.heap.size w wc))
 case first =>
  have H:=HC3.out
  clear HC3
  replace H:=bI H;obtain ⟨t125,A6,H⟩:=H
  by_cases c7:t125 = true
  ·subst c7
   replace H:=pT H
   have H':=Aside0.mk H
   clear H
   have hnb8:=NB124_123.out
   have hnc8:=NB123_124.out
   have hcz9_0:=qc2_0 BK124
   have hcz9_1:=qc2_1 BK124
   have hfz9_0:=fz BK124 0
   have hfz9_1:=fz BK124 1
   go_wp2_with (first|((with_reducible refine gate_callee (f:=95) rfl ?_);refine goesL_ (some 9) rfl rfl Try.func95 (by kernel_rfl) rfl #[.int .i64 a1_0] rfl Ya ?_;(with_reducible refine (impl_isSize.calls a1_0 true _ A6.out).mono ?_);rintro e w' ⟨rfl,⟨nd,rfl⟩⟩;refine ⟨_,rfl,?_⟩;have hcz10_0:=qc1_0 BK123;have hfz10_0:=fz BK123 0))
   go_meet
   case rel=>exact ⟨_,(((l1_1.length:Int) != (l0_0.length:Int))),Yd,H',⟨by first|omega|exact Nat.le_refl _⟩,⟨YJ⟩,⟨YI⟩,⟨bH⟩⟩
  ·replace c7:=Bool.eq_false_iff.mpr c7
   subst c7
   replace H:=pF H
   have H':=Aside0.mk H
   clear H
   have hnb11:=NB124_123.out
   have hnc11:=NB123_124.out
   have hcz12_0:=qc2_0 BK124
   have hcz12_1:=qc2_1 BK124
   have hfz12_0:=fz BK124 0
   have hfz12_1:=fz BK124 1
   go_wp2_with (first|((with_reducible refine gate_callee (f:=95) rfl ?_);refine goesL_ (some 9) rfl rfl Try.func95 (by kernel_rfl) rfl #[.int .i64 a1_0] rfl Ya ?_;(with_reducible refine (impl_isSize.calls a1_0 false _ A6.out).mono ?_);rintro e w' ⟨rfl,⟨nd,rfl⟩⟩;refine ⟨_,rfl,?_⟩))
   go_meet
   case rel=>exact ⟨_,(true),Yd,H',⟨by first|omega|exact Nat.le_refl _⟩,⟨YJ⟩,⟨YI⟩,⟨bH⟩⟩
 case rest =>
  clear HC3
  (try clear c7);(try clear hcz10_0);(try clear hcz12_0);(try clear hcz12_1);(try clear hcz9_0);(try clear hcz9_1);(try clear hfz10_0);(try clear hfz12_0);(try clear hfz12_1);(try clear hfz9_0);(try clear hfz9_1)
  obtain ⟨kq,x19_2,rfl,HA,HJ2,BK123,BK124,HB⟩:=hcut
  cases kq with
  | zero=>exact absurd HA.out (by simp [impl_Sign_isWorld.j0])
  | succ kj2 =>
   have H:=HA.out
   clear HA
   simp only [impl_Sign_isWorld.j0] at H
   by_cases c13:x19_2 = true
   ·subst c13
    replace H:=pT H
    obtain rfl:=Option.some.inj H
    go_wp2
    go_ret
    exact ⟨Yb,bH⟩
   ·replace c13:=Bool.eq_false_iff.mpr c13
    subst c13
    replace H:=pF H
    have H':=Aside0.mk H
    clear H
    have hnb14:=NB124_123.out
    have hnc14:=NB123_124.out
    have hcz15_0:=qc2_0 BK124
    have hcz15_1:=qc2_1 BK124
    have hfz15_0:=fz BK124 0
    have hfz15_1:=fz BK124 1
    go_wp2
    go_loopg [23] kj2 (fun kq v23 w'=>∃ (x23_2:Int),v23 = .int .i64 x23_2 ∧ Aside0 (impl_Sign_isWorld.l0 kq l1_1 (l1_1.length:Int) x23_2 l0_0 a1_0 l1_1 = some r) ∧ Aside0 (kq ≤ kj2) ∧ Aside0 (w'.heap[gb123]? = some (.cells #[(.slice A0_0 l0_0.length c0_0)] 26 (0,0))) ∧ Aside0 (w'.heap[gb124]? = some (.cells #[.int .i64 a1_0,(.slice A1_1 l1_1.length c1_1)] 31 (0,0))) ∧ Aside0 (Below w.heap.size w w'))
    case atStart=>exact ⟨(0),Yd,H',⟨Nat.le_refl _⟩,⟨YJ⟩,⟨YI⟩,⟨bH⟩⟩
    case round =>
     clear H'
     (try clear c7);(try clear c13);(try clear hcz10_0);(try clear hcz12_0);(try clear hcz12_1);(try clear hcz15_0);(try clear hcz15_1);(try clear hcz9_0);(try clear hcz9_1);(try clear hfz10_0);(try clear hfz12_0);(try clear hfz12_1);(try clear hfz15_0);(try clear hfz15_1);(try clear hfz9_0);(try clear hfz9_1)
     obtain ⟨x23_2,rfl,HA,HK2,BK123,BK124,HB⟩:=hrel
     cases gk with
     | zero=>exact absurd HA.out (by simp [impl_Sign_isWorld.l0])
     | succ k2 =>
      have H:=HA.out
      clear HA
      simp only [impl_Sign_isWorld.l0] at H
      by_cases c16:x23_2 < (l1_1.length:Int)
      ·rw [if_pos c16] at H
       have c16b0:=decide_eq_true c16
       clear c16
       replace H:=gI H;obtain ⟨c17b0,H⟩:=H
       replace H:=gI H;obtain ⟨c18b0,H⟩:=H
       replace H:=gI H;obtain ⟨c19b0,H⟩:=H
       replace H:=bI H;obtain ⟨t128,A20,H⟩:=H
       by_cases c21:((rd_L2 l1_1 x23_2).length:Int) = t128
       ·rw [if_pos c21] at H
        have c21b0:(((rd_L2 l1_1 x23_2).length:Int) == t128) = true:=beq_iff_eq.mpr c21
        have c21b1:(((rd_L2 l1_1 x23_2).length:Int) != t128) = false:=bne_eq_false_iff_eq.mpr c21
        clear c21
        replace H:=bI H;obtain ⟨t129,A22,H⟩:=H
        by_cases c23:t129 = true
        ·subst c23
         replace H:=pT H
         have H':=Aside0.mk H
         clear H
         have p126:0 ≤ (x23_2:Int):=oD
         have q126:x23_2 < (l1_1.length:Int):=oD
         obtain ⟨ad126,A126_0,c126_0,e126,hx126_0,hl126_0,hi126_0⟩:=at_L2 HR1_1.out x23_2 p126 q126
         cases e126
         replace hx126_0:=(HB.out.cell (World.block_lt_of_cell? w _ hx126_0)).trans hx126_0
         have HR126_0:=Aside0.mk hi126_0
         have HC126_0:=Aside0.mk hl126_0
         clear hi126_0 hl126_0
         replace p126:=eq_true p126
         replace q126:=eq_true q126
         try go_wp2
         replace BK123:=Aside0.mk (blk_drew BK123.out);replace BK124:=Aside0.mk (blk_drew BK124.out);replace HB:=Aside0.mk (below_drew1 HB.out)
         have p127:0 ≤ (x23_2:Int):=oD
         have q127:x23_2 < (l0_0.length:Int):=oD
         obtain ⟨ad127,e127,hx127_0⟩:=Kd.at_int HR0_0.out x23_2 p127 q127
         have hw127_0:=hx127_0
         cases e127
         replace hx127_0:=(HB.out.cell (World.block_lt_of_cell? w _ hx127_0)).trans hx127_0
         replace p127:=eq_true p127
         replace q127:=eq_true q127
         refine start_ (n:=18) (S:=fun w'=>w'.cell? ⟨gb124,0,none⟩ = some (.int .i64 a1_0) ∧ w'.cell? ⟨gb124,1,none⟩ = some (.slice (some ad126) l1_1.length c1_1) ∧ w'.cell? ⟨gb123,0,none⟩ = some (.slice (some ad127) l0_0.length c0_0) ∧ w'.cell? (ad127.add (x23_2).toNat) = some (.int .i64 (rd l0_0 x23_2))) (ds:=[]) #[false,false,false,false,false,false,false,false,false,false,false,false,false,false,false,false,false,false] (by kernel_rfl) rfl rfl ⟨(blk_cell BK124.out 0).trans rfl,(blk_cell BK124.out 1).trans rfl,(blk_cell BK123.out 0).trans rfl,((HB.out.cell (World.block_lt_of_cell? w _ hw127_0)).trans hw127_0)⟩ (fun hHeld=>?_);refine with_tabW impl_Sign_isWorld.tab6 impl_Sign_isWorld.bits6 (fun HT_ HW_=>?_)
         generalize wr.drew = w24 at BK123 BK124 HB hx127_0 hHeld ⊢
         refine pV 0 (some 28) (bs 18 1) HT_ ?_
         refine pV 1 (some 29) (bs 18 3) HT_ ?_
         refine pV 2 (some 30) (bs 18 7) HT_ ?_
         refine pV 4 (some 32) (bs 18 23) HT_ ?_
         refine pV 6 (some 34) (bs 18 87) HT_ ?_
         refine tV4 3 (some 31) (bs 18 95) HT_ HW_ hHeld ?_
         refine tV4 5 (some 33) (bs 18 127) HT_ HW_ hHeld ?_
         refine pV 7 (some 35) (bs 18 255) HT_ ?_
         refine tV4 8 (some 36) (bs 18 511) HT_ HW_ hHeld ?_
         refine oN 9 (some 37) (bs 18 1023) HT_ fun K hK=>?_
         refine goes_ Try.func96 (by kernel_rfl) rfl #[.int .i64 a1_0,.int .i64 (rd l0_0 x23_2)] (by rfl) rfl rfl Ya ?_
         with_reducible refine (impl_entries.calls k2 a1_0 (rd l0_0 x23_2) t128 _ A20.out).mono ?_
         rintro e w' ⟨rfl,⟨nd,rfl⟩⟩
         refine ⟨_,rfl,?_⟩
         refine hK.out _ _ ⟨(blk_cell BK124.out 0).trans rfl,(blk_cell BK124.out 1).trans rfl,(blk_cell BK123.out 0).trans rfl,((HB.out.cell (World.block_lt_of_cell? w _ hw127_0)).trans hw127_0)⟩ (fun hHeld=>?_)
         clear hK K
         refine nM (N:=some 37) ?_
         refine pV 10 (some 38) (bs 18 2047) HT_ ?_
         refine pV 11 (some 39) (bs 18 4095) HT_ ?_
         refine pV 12 (some 40) (bs 18 8191) HT_ ?_
         refine pV 14 (some 42) (bs 18 24575) HT_ ?_
         refine tV4 13 (some 41) (bs 18 32767) HT_ HW_ hHeld ?_
         refine oN 15 (some 43) (bs 18 65535) HT_ fun K hK=>?_
         refine goes_ Try.func79 (by kernel_rfl) rfl #[.int .i64 a1_0,.slice A126_0 (rd_L2 l1_1 x23_2).length c126_0] (by rfl) rfl rfl Ya ?_
         with_reducible refine (impl_areElements.calls a1_0 _ _ (rd_L2 l1_1 x23_2) true _ ?side1 ?side2 A22.out).mono ?_
         (case side1=>repeat (first|exact (Kd.C_below HR126_0.out bH)|(with_reducible refine Kd.C_alloc ?_ _)|(with_reducible refine Kd.C_drewN ?_ _)|(with_reducible refine Kd.C_drew ?_)))
         (case side2=>exact HC126_0.out)
         rintro e w25 ⟨rfl,hb⟩
         refine ⟨_,rfl,?_⟩
         replace BK123:=bb BK123 hb;replace BK124:=bb BK124 hb;replace HB:=bS hb
         (try clear hb)
         refine hK.out _ _ ⟨(blk_cell BK124.out 0).trans rfl,(blk_cell BK124.out 1).trans rfl,(blk_cell BK123.out 0).trans rfl,((HB.out.cell (World.block_lt_of_cell? w _ hw127_0)).trans hw127_0)⟩ (fun hHeld=>?_)
         clear hK K
         refine nM (N:=some 43) ?_
         refine pV 16 (some 44) (bs 18 131071) HT_ ?_
         refine pV 17 (some 45) (bs 18 262143) HT_ ?_
         refine done_ (done_of HT_.out (by kernel_rfl)) ?_
         try go_wp2
         go_roundg k2
         case measure=>have:=HJ2.out;have:=HK2.out;omega
         case rel=>exact ⟨(wrap64 (x23_2 + 1)),Yd,H',⟨by have:=HJ2.out;have:=HK2.out;omega⟩,⟨YJ⟩,⟨YI⟩,⟨bH⟩⟩
        ·replace c23:=Bool.eq_false_iff.mpr c23
         subst c23
         replace H:=pF H
         obtain rfl:=Option.some.inj H
         have p126:0 ≤ (x23_2:Int):=oD
         have q126:x23_2 < (l1_1.length:Int):=oD
         obtain ⟨ad126,A126_0,c126_0,e126,hx126_0,hl126_0,hi126_0⟩:=at_L2 HR1_1.out x23_2 p126 q126
         cases e126
         replace hx126_0:=(HB.out.cell (World.block_lt_of_cell? w _ hx126_0)).trans hx126_0
         have HR126_0:=Aside0.mk hi126_0
         have HC126_0:=Aside0.mk hl126_0
         clear hi126_0 hl126_0
         replace p126:=eq_true p126
         replace q126:=eq_true q126
         try go_wp2
         replace BK123:=Aside0.mk (blk_drew BK123.out);replace BK124:=Aside0.mk (blk_drew BK124.out);replace HB:=Aside0.mk (below_drew1 HB.out)
         have p127:0 ≤ (x23_2:Int):=oD
         have q127:x23_2 < (l0_0.length:Int):=oD
         obtain ⟨ad127,e127,hx127_0⟩:=Kd.at_int HR0_0.out x23_2 p127 q127
         have hw127_0:=hx127_0
         cases e127
         replace hx127_0:=(HB.out.cell (World.block_lt_of_cell? w _ hx127_0)).trans hx127_0
         replace p127:=eq_true p127
         replace q127:=eq_true q127
         refine start_ (n:=18) (S:=fun w'=>w'.cell? ⟨gb124,0,none⟩ = some (.int .i64 a1_0) ∧ w'.cell? ⟨gb124,1,none⟩ = some (.slice (some ad126) l1_1.length c1_1) ∧ w'.cell? ⟨gb123,0,none⟩ = some (.slice (some ad127) l0_0.length c0_0) ∧ w'.cell? (ad127.add (x23_2).toNat) = some (.int .i64 (rd l0_0 x23_2))) (ds:=[]) #[false,false,false,false,false,false,false,false,false,false,false,false,false,false,false,false,false,false] (by kernel_rfl) rfl rfl ⟨(blk_cell BK124.out 0).trans rfl,(blk_cell BK124.out 1).trans rfl,(blk_cell BK123.out 0).trans rfl,((HB.out.cell (World.block_lt_of_cell? w _ hw127_0)).trans hw127_0)⟩ (fun hHeld=>?_);refine with_tabW impl_Sign_isWorld.tab6 impl_Sign_isWorld.bits6 (fun HT_ HW_=>?_)
         generalize wr.drew = w26 at BK123 BK124 HB hx127_0 hHeld ⊢
         refine pV 0 (some 28) (bs 18 1) HT_ ?_
         refine pV 1 (some 29) (bs 18 3) HT_ ?_
         refine pV 2 (some 30) (bs 18 7) HT_ ?_
         refine pV 4 (some 32) (bs 18 23) HT_ ?_
         refine pV 6 (some 34) (bs 18 87) HT_ ?_
         refine tV4 3 (some 31) (bs 18 95) HT_ HW_ hHeld ?_
         refine tV4 5 (some 33) (bs 18 127) HT_ HW_ hHeld ?_
         refine pV 7 (some 35) (bs 18 255) HT_ ?_
         refine tV4 8 (some 36) (bs 18 511) HT_ HW_ hHeld ?_
         refine oN 9 (some 37) (bs 18 1023) HT_ fun K hK=>?_
         refine goes_ Try.func96 (by kernel_rfl) rfl #[.int .i64 a1_0,.int .i64 (rd l0_0 x23_2)] (by rfl) rfl rfl Ya ?_
         with_reducible refine (impl_entries.calls k2 a1_0 (rd l0_0 x23_2) t128 _ A20.out).mono ?_
         rintro e w' ⟨rfl,⟨nd,rfl⟩⟩
         refine ⟨_,rfl,?_⟩
         refine hK.out _ _ ⟨(blk_cell BK124.out 0).trans rfl,(blk_cell BK124.out 1).trans rfl,(blk_cell BK123.out 0).trans rfl,((HB.out.cell (World.block_lt_of_cell? w _ hw127_0)).trans hw127_0)⟩ (fun hHeld=>?_)
         clear hK K
         refine nM (N:=some 37) ?_
         refine pV 10 (some 38) (bs 18 2047) HT_ ?_
         refine pV 11 (some 39) (bs 18 4095) HT_ ?_
         refine pV 12 (some 40) (bs 18 8191) HT_ ?_
         refine pV 14 (some 42) (bs 18 24575) HT_ ?_
         refine tV4 13 (some 41) (bs 18 32767) HT_ HW_ hHeld ?_
         refine oN 15 (some 43) (bs 18 65535) HT_ fun K hK=>?_
         refine goes_ Try.func79 (by kernel_rfl) rfl #[.int .i64 a1_0,.slice A126_0 (rd_L2 l1_1 x23_2).length c126_0] (by rfl) rfl rfl Ya ?_
         with_reducible refine (impl_areElements.calls a1_0 _ _ (rd_L2 l1_1 x23_2) false _ ?side1 ?side2 A22.out).mono ?_
         (case side1=>repeat (first|exact (Kd.C_below HR126_0.out bH)|(with_reducible refine Kd.C_alloc ?_ _)|(with_reducible refine Kd.C_drewN ?_ _)|(with_reducible refine Kd.C_drew ?_)))
         (case side2=>exact HC126_0.out)
         rintro e w27 ⟨rfl,hb⟩
         refine ⟨_,rfl,?_⟩
         replace BK123:=bb BK123 hb;replace BK124:=bb BK124 hb;replace HB:=bS hb
         (try clear hb)
         refine hK.out _ _ ⟨(blk_cell BK124.out 0).trans rfl,(blk_cell BK124.out 1).trans rfl,(blk_cell BK123.out 0).trans rfl,((HB.out.cell (World.block_lt_of_cell? w _ hw127_0)).trans hw127_0)⟩ (fun hHeld=>?_)
         clear hK K
         refine nM (N:=some 43) ?_
         refine pV 16 (some 44) (bs 18 131071) HT_ ?_
         refine pV 17 (some 45) (bs 18 262143) HT_ ?_
         refine done_ (done_of HT_.out (by kernel_rfl)) ?_
         try go_wp2
         go_ret
         exact ⟨Yb,bH⟩
       ·rw [if_neg c21] at H
        have c21b0:(((rd_L2 l1_1 x23_2).length:Int) == t128) = false:=beq_eq_false_iff_ne.mpr c21
        have c21b1:(((rd_L2 l1_1 x23_2).length:Int) != t128) = true:=bne_iff_ne.mpr c21
        obtain rfl:=Option.some.inj H
        have p126:0 ≤ (x23_2:Int):=oD
        have q126:x23_2 < (l1_1.length:Int):=oD
        obtain ⟨ad126,A126_0,c126_0,e126,hx126_0,hl126_0,hi126_0⟩:=at_L2 HR1_1.out x23_2 p126 q126
        cases e126
        replace hx126_0:=(HB.out.cell (World.block_lt_of_cell? w _ hx126_0)).trans hx126_0
        have HR126_0:=Aside0.mk hi126_0
        have HC126_0:=Aside0.mk hl126_0
        clear hi126_0 hl126_0
        replace p126:=eq_true p126
        replace q126:=eq_true q126
        try go_wp2
        replace BK123:=Aside0.mk (blk_drew BK123.out);replace BK124:=Aside0.mk (blk_drew BK124.out);replace HB:=Aside0.mk (below_drew1 HB.out)
        have p127:0 ≤ (x23_2:Int):=oD
        have q127:x23_2 < (l0_0.length:Int):=oD
        obtain ⟨ad127,e127,hx127_0⟩:=Kd.at_int HR0_0.out x23_2 p127 q127
        have hw127_0:=hx127_0
        cases e127
        replace hx127_0:=(HB.out.cell (World.block_lt_of_cell? w _ hx127_0)).trans hx127_0
        replace p127:=eq_true p127
        replace q127:=eq_true q127
        refine start_ (n:=18) (S:=fun w'=>w'.cell? ⟨gb124,0,none⟩ = some (.int .i64 a1_0) ∧ w'.cell? ⟨gb124,1,none⟩ = some (.slice (some ad126) l1_1.length c1_1) ∧ w'.cell? ⟨gb123,0,none⟩ = some (.slice (some ad127) l0_0.length c0_0) ∧ w'.cell? (ad127.add (x23_2).toNat) = some (.int .i64 (rd l0_0 x23_2))) (ds:=[]) #[false,false,false,false,false,false,false,false,false,false,false,false,false,false,false,false,false,false] (by kernel_rfl) rfl rfl ⟨(blk_cell BK124.out 0).trans rfl,(blk_cell BK124.out 1).trans rfl,(blk_cell BK123.out 0).trans rfl,((HB.out.cell (World.block_lt_of_cell? w _ hw127_0)).trans hw127_0)⟩ (fun hHeld=>?_);refine with_tabW impl_Sign_isWorld.tab6 impl_Sign_isWorld.bits6 (fun HT_ HW_=>?_)
        generalize wr.drew = w28 at BK123 BK124 HB hx127_0 hHeld ⊢
        refine pV 0 (some 28) (bs 18 1) HT_ ?_
        refine pV 1 (some 29) (bs 18 3) HT_ ?_
        refine pV 2 (some 30) (bs 18 7) HT_ ?_
        refine pV 4 (some 32) (bs 18 23) HT_ ?_
        refine pV 6 (some 34) (bs 18 87) HT_ ?_
        refine tV4 3 (some 31) (bs 18 95) HT_ HW_ hHeld ?_
        refine tV4 5 (some 33) (bs 18 127) HT_ HW_ hHeld ?_
        refine pV 7 (some 35) (bs 18 255) HT_ ?_
        refine tV4 8 (some 36) (bs 18 511) HT_ HW_ hHeld ?_
        refine oN 9 (some 37) (bs 18 1023) HT_ fun K hK=>?_
        refine goes_ Try.func96 (by kernel_rfl) rfl #[.int .i64 a1_0,.int .i64 (rd l0_0 x23_2)] (by rfl) rfl rfl Ya ?_
        with_reducible refine (impl_entries.calls k2 a1_0 (rd l0_0 x23_2) t128 _ A20.out).mono ?_
        rintro e w' ⟨rfl,⟨nd,rfl⟩⟩
        refine ⟨_,rfl,?_⟩
        refine hK.out _ _ ⟨(blk_cell BK124.out 0).trans rfl,(blk_cell BK124.out 1).trans rfl,(blk_cell BK123.out 0).trans rfl,((HB.out.cell (World.block_lt_of_cell? w _ hw127_0)).trans hw127_0)⟩ (fun hHeld=>?_)
        clear hK K
        refine nM (N:=some 37) ?_
        refine pV 10 (some 38) (bs 18 2047) HT_ ?_
        refine pV 11 (some 39) (bs 18 4095) HT_ ?_
        refine pure_ (i:=12) (N:=some 40) (v:=undef) (a':=?_) #[true,true,true,true,true,true,true,true,true,true,true,true,true,false,false,false,false,false] rfl rfl (any_of HT_.out (by kernel_rfl)) (fun _ _ _ h=>h) (Or.inr ⟨by rfl,rfl⟩) ?_ ?_
        rotate_left
        ·simp only [Act.put,List.setIfInBounds_toArray,List.set_cons_zero,List.set_cons_succ,i64_w,i32_w]
         rfl
        refine pure_ (i:=13) (N:=some 41) (v:=undef) (a':=?_) #[true,true,true,true,true,true,true,true,true,true,true,true,true,true,false,false,false,false] rfl rfl (any_of HT_.out (by kernel_rfl)) (fun _ _ _ h=>h) (Or.inr ⟨by rfl,rfl⟩) ?_ ?_
        rotate_left
        ·simp only [Act.put,List.setIfInBounds_toArray,List.set_cons_zero,List.set_cons_succ,i64_w,i32_w]
         rfl
        refine pure_ (i:=14) (N:=some 42) (v:=undef) (a':=?_) #[true,true,true,true,true,true,true,true,true,true,true,true,true,true,true,false,false,false] rfl rfl (any_of HT_.out (by kernel_rfl)) (fun _ _ _ h=>h) (Or.inr ⟨by rfl,rfl⟩) ?_ ?_
        rotate_left
        ·simp only [Act.put,List.setIfInBounds_toArray,List.set_cons_zero,List.set_cons_succ,i64_w,i32_w]
         rfl
        refine pure_ (i:=15) (N:=some 43) (v:=undef) (a':=?_) #[true,true,true,true,true,true,true,true,true,true,true,true,true,true,true,true,false,false] rfl rfl (any_of HT_.out (by kernel_rfl)) (fun _ _ _ h=>h) (Or.inr ⟨by rfl,rfl⟩) ?_ ?_
        rotate_left
        ·simp only [Act.put,List.setIfInBounds_toArray,List.set_cons_zero,List.set_cons_succ,i64_w,i32_w]
         rfl
        refine pure_ (i:=16) (N:=some 44) (v:=undef) (a':=?_) #[true,true,true,true,true,true,true,true,true,true,true,true,true,true,true,true,true,false] rfl rfl (any_of HT_.out (by kernel_rfl)) (fun _ _ _ h=>h) (Or.inr ⟨by rfl,rfl⟩) ?_ ?_
        rotate_left
        ·simp only [Act.put,List.setIfInBounds_toArray,List.set_cons_zero,List.set_cons_succ,i64_w,i32_w]
         rfl
        refine pV 17 (some 45) (bs 18 262143) HT_ ?_
        refine done_ (done_of HT_.out (by kernel_rfl)) ?_
        try go_wp2
        go_ret
        exact ⟨Yb,bH⟩
      ·rw [if_neg c16] at H
       have c16b0:decide (x23_2 < (l1_1.length:Int)) = false:=decide_eq_false c16
       clear c16
       obtain rfl:=Option.some.inj H
       go_wp2
       go_ret
       exact ⟨Yb,bH⟩

end Go.Proofs.Ytmgkflkfoccgkaa.QFnTidied
