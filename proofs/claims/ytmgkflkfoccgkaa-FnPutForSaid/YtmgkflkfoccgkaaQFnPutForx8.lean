-- Written by this session's own program (wip/x/xprint.py, over the kit's printer); Lean checks it.
import Derived.Test.YtmgkflkfoccgkaaQFnPutForx0
import Derived.Test.YtmgkflkfoccgkaaQFnPutForx7
namespace Go.Proofs.Ytmgkflkfoccgkaa.QFnPutFor
open Go.RowKit Go.Proofs.YtmgkflkfoccgkaaW.PrintWords Go.Proofs.YtmgkflkfoccgkaaW.PrintLast Go.Proofs.YtmgkflkfoccgkaaW.PrintMore
attribute [local go_sem] max2_int min2_int max_two min_two max_three min_three max_four min_four   -- for this text's walks alone
set_option linter.unusedVariables false
set_option linter.unusedSimpArgs false

/-! ### impl_Sign_isWorld: function 55 -/
mutual
def impl_Sign_isWorld.j0:Nat → Bool → List Int → Int → List (List Int) → Option (Bool)
 | 0,_,_,_,_=>none
 | k + 1,x19,x258000,x259000,x259001=>if x19 = true then (some false) else (impl_Sign_isWorld.l0 k x259001 (x259001.length:Int) 0 x258000 x259000 x259001)
def impl_Sign_isWorld.l0:Nat → List (List Int) → Int → Int → List Int → Int → List (List Int) → Option (Bool)
 | 0,_,_,_,_,_,_=>none
 | k + 1,x21,x22,x23,x258000,x259000,x259001=>if x23 < x22 then (if 0 ≤ x23 then (if x23 < (x21.length:Int) then (if x23 < (x258000.length:Int) then ((impl_entries.f k x259000 (rd x258000 x23)).bind fun t262=>(if ((rd_L2 x21 x23).length:Int) = t262 then ((impl_areElements.f x259000 (rd_L2 x21 x23)).bind fun t263=>(if t263 = true then (impl_Sign_isWorld.l0 k x21 x22 (wrap64 (x23 + 1)) x258000 x259000 x259001) else (some false))) else (some false))) else (none)) else (none)) else (none)) else (some true)
end
def impl_Sign_isWorld.f (k:Nat) (l0_0:List Int) (a1_0:Int) (l1_1:List (List Int)):Option (Bool):=(impl_isSize.f a1_0).bind fun t259=>(if t259 = true then (impl_Sign_isWorld.j0 k ((l1_1.length:Int) != (l0_0.length:Int)) l0_0 a1_0 l1_1) else (impl_Sign_isWorld.j0 k true l0_0 a1_0 l1_1))
theorem impl_Sign_isWorld.mono_l:∀ k,(∀ y0 y1 y2 y3,LeO (impl_Sign_isWorld.j0 k y0 y1 y2 y3) (impl_Sign_isWorld.j0 (k + 1) y0 y1 y2 y3)) ∧ (∀ y0 y1 y2 y3 y4 y5,LeO (impl_Sign_isWorld.l0 k y0 y1 y2 y3 y4 y5) (impl_Sign_isWorld.l0 (k + 1) y0 y1 y2 y3 y4 y5))
 | 0=>⟨fun _ _ _ _ r h=>by simp [impl_Sign_isWorld.j0] at h,fun _ _ _ _ _ _ r h=>by simp [impl_Sign_isWorld.l0] at h⟩
 | k + 1=>by
  obtain ⟨ih0,ih1⟩:=impl_Sign_isWorld.mono_l k
  refine ⟨?_,?_⟩
  ·intro y0 y1 y2 y3
   unfold impl_Sign_isWorld.j0
   have m0:=@impl_entries.mono
   exact mO
  ·intro y0 y1 y2 y3 y4 y5
   unfold impl_Sign_isWorld.l0
   have m0:=@impl_entries.mono
   exact mO
theorem impl_Sign_isWorld.mono:∀ a0 a1 a2 k,LeO (impl_Sign_isWorld.f k a0 a1 a2) (impl_Sign_isWorld.f (k + 1) a0 a1 a2):=by
 intro a0 a1 a2 k
 obtain ⟨ih0,ih1⟩:=impl_Sign_isWorld.mono_l k
 unfold impl_Sign_isWorld.f
 have m0:=@impl_entries.mono
 exact mO
def impl_Sign_isWorld.T6:Bool × List (List Nat × List Nat):=(true,[([],[]),([0],[0]),([],[]),([2],[2]),([],[]),([4],[4]),([],[]),([5,6],[5,6]),([7],[7]),([3,8],[3,8]),([1,9],[1,9]),([10,9],[10]),([11],[11]),([12,11],[11,12]),([11],[11]),([13,14,11,11],[11,13,14]),([15,11],[11,15]),([11,16],[11,16])])
def impl_Sign_isWorld.B6:List Nat:=[0,1,0,4,0,16,0,112,240,508,1023,2047,4095,8191,4095,32767,65535,131071]
theorem impl_Sign_isWorld.tab6:rtab .any (opsOf Try.f55 6) = impl_Sign_isWorld.T6:=by kernel_rfl
theorem impl_Sign_isWorld.bits6:waitsOk impl_Sign_isWorld.T6.2 impl_Sign_isWorld.B6 = true:=by kernel_rfl
set_option maxHeartbeats 8000000 in
set_option maxRecDepth 100000 in
theorem impl_Sign_isWorld.calls (k:Nat) (A0_0:Option Addr) (c0_0:Nat) (l0_0:List Int) (a1_0:Int) (A1_1:Option Addr) (c1_1:Nat) (l1_1:List (List Int)) (r:Bool) (w:World) (hr0_0:Kd.C (Kd.int .i64) w A0_0 l0_0.length l0_0) (hc0_0:l0_0.length ≤ c0_0) (hr1_1:Kd.C (Kd.slice 3 (Kd.int .i64)) w A1_1 l1_1.length l1_1) (hc1_1:l1_1.length ≤ c1_1) (h:impl_Sign_isWorld.f k l0_0 a1_0 l1_1 = some r) :
  Calls Try.prog 55 #[.agg #[.slice A0_0 l0_0.length c0_0],.agg #[.int .i64 a1_0,.slice A1_1 l1_1.length c1_1]] w fun e w'=>e = .returned (.bool r) ∧ Below w.heap.size w w':=by
 have hu26:=Try.underlying26
 have hu31:=Try.underlying31
 have HR0_0:=Aside0.mk hr0_0
 have HC0_0:=Aside0.mk hc0_0
 clear hr0_0 hc0_0
 have HR1_1:=Aside0.mk hr1_1
 have HC1_1:=Aside0.mk hc1_1
 clear hr1_1 hc1_1
 have HB:=Aside0.mk (Below.refl w.heap.size w)
 have H:((impl_isSize.f a1_0).bind fun t259=>(if t259 = true then (impl_Sign_isWorld.j0 k ((l1_1.length:Int) != (l0_0.length:Int)) l0_0 a1_0 l1_1) else (impl_Sign_isWorld.j0 k true l0_0 a1_0 l1_1))) = some r:=h
 clear h
 have HC3:=Aside0.mk H
 clear H
 go_enter Try.func55,Try.ntmps55
 go_upto_region 1 with (first|((with_reducible refine gate_dst (N:=2) rfl ?_);(try (refine gate_guard (by rfl) ?_;dsimp only));refine box_event ?hg (N:=2) ?hd (cs:=#[.slice A0_0 l0_0.length c0_0]) (t:=26) ?hr ?_;(case hd=>rfl);(case hg=>rfl);(case hr=>exact Yd);intro gb257 hg w4 hbox hb;have BK257:=Aside0.mk (hbox);have GW257:=Aside0.mk ((hZ:w.heap.size ≤ gb257));have GE257:=Aside0.mk ((hZ:w.heap.size ≤ gb257));replace HB:=Aside0.mk (below_step bH hb);clear hb hbox hg)|((with_reducible refine gate_dst (N:=3) rfl ?_);(try (refine gate_guard (by rfl) ?_;dsimp only));refine box_event ?hg (N:=3) ?hd (cs:=#[.int .i64 a1_0,.slice A1_1 l1_1.length c1_1]) (t:=31) ?hr ?_;(case hd=>rfl);(case hg=>rfl);(case hr=>exact Yd);intro gb258 hg w5 hbox hb;have BK258:=Aside0.mk (hbox);have GW258:=Aside0.mk ((hZ:w.heap.size ≤ gb258));have GE258:=Aside0.mk ((hZ:w.heap.size ≤ gb258));replace HB:=Aside0.mk (below_step bH hb);have NB257_258:=Aside0.mk ((nL BK257:gb257 ≠ gb258));have NB258_257:=Aside0.mk ((nG BK257:gb258 ≠ gb257));replace BK257:=Aside0.mk (blk_below (bB BK257) hb);clear hb hbox hg))
 (try simp only [Act.put,List.setIfInBounds_toArray,List.set_cons_zero,List.set_cons_succ])
 go_cut [19] (fun v19 wc=>∃ (kq:Nat) (x19_2:Bool),v19 = .bool x19_2 ∧ Aside0 (impl_Sign_isWorld.j0 kq x19_2 l0_0 a1_0 l1_1 = some r) ∧ Aside0 (kq ≤ k) ∧ Aside0 (wc.heap[gb257]? = some (.cells #[(.slice A0_0 l0_0.length c0_0)] 26 (0,0))) ∧ Aside0 (wc.heap[gb258]? = some (.cells #[.int .i64 a1_0,(.slice A1_1 l1_1.length c1_1)] 31 (0,0))) ∧ Aside0 (Below w.heap.size w wc))
 case first =>
  have H:=HC3.out
  clear HC3
  replace H:=Option.bind_eq_some_iff.mp H
  obtain ⟨t259,A60,H⟩:=H
  replace H:(if t259 = true then (impl_Sign_isWorld.j0 k ((l1_1.length:Int) != (l0_0.length:Int)) l0_0 a1_0 l1_1) else (impl_Sign_isWorld.j0 k true l0_0 a1_0 l1_1)) = some r:=H
  have A6:=Aside0.mk A60
  clear A60
  by_cases c7:t259 = true
  ·subst c7
   have H1:(impl_Sign_isWorld.j0 k ((l1_1.length:Int) != (l0_0.length:Int)) l0_0 a1_0 l1_1) = some r:=by rw [if_pos rfl] at H;exact H
   clear H
   have H:=H1
   clear H1
   have H':=Aside0.mk H
   clear H
   have hnb8:=NB258_257.out
   have hnc8:=NB257_258.out
   have hcz9_0:w5.cell? ⟨gb258,0,none⟩ = some (.int .i64 a1_0):=(blk_cell BK258.out 0).trans rfl
   have hcz9_1:w5.cell? ⟨gb258,1,none⟩ = some (.slice A1_1 l1_1.length c1_1):=(blk_cell BK258.out 1).trans rfl
   have hfz9_0:=blk_frozen BK258.out 0
   have hfz9_1:=blk_frozen BK258.out 1
   go_wp2_with (first|((with_reducible refine gate_callee (f:=95) rfl ?_);refine goesL_ (some 9) rfl rfl Try.func95 (by kernel_rfl) rfl #[.int .i64 a1_0] rfl Ya ?_;(with_reducible refine (impl_isSize.calls a1_0 true _ A6.out).mono ?_);rintro e w' ⟨rfl,⟨nd,rfl⟩⟩;refine ⟨_,rfl,?_⟩;have hcz10_0:w5.cell? ⟨gb257,0,none⟩ = some (.slice A0_0 l0_0.length c0_0):=(blk_cell BK257.out 0).trans rfl;have hfz10_0:=blk_frozen BK257.out 0))
   go_meet
   case rel=>exact ⟨_,(((l1_1.length:Int) != (l0_0.length:Int))),Ye,H',⟨by first|omega|exact Nat.le_refl _⟩,⟨YS⟩,⟨YR⟩,⟨bH⟩⟩
  ·replace c7:=Bool.eq_false_iff.mpr c7
   subst c7
   have H1:(impl_Sign_isWorld.j0 k true l0_0 a1_0 l1_1) = some r:=by rw [if_neg (show ¬ (false = true) by decide)] at H;exact H
   clear H
   have H:=H1
   clear H1
   have H':=Aside0.mk H
   clear H
   have hnb11:=NB258_257.out
   have hnc11:=NB257_258.out
   have hcz12_0:w5.cell? ⟨gb258,0,none⟩ = some (.int .i64 a1_0):=(blk_cell BK258.out 0).trans rfl
   have hcz12_1:w5.cell? ⟨gb258,1,none⟩ = some (.slice A1_1 l1_1.length c1_1):=(blk_cell BK258.out 1).trans rfl
   have hfz12_0:=blk_frozen BK258.out 0
   have hfz12_1:=blk_frozen BK258.out 1
   go_wp2_with (first|((with_reducible refine gate_callee (f:=95) rfl ?_);refine goesL_ (some 9) rfl rfl Try.func95 (by kernel_rfl) rfl #[.int .i64 a1_0] rfl Ya ?_;(with_reducible refine (impl_isSize.calls a1_0 false _ A6.out).mono ?_);rintro e w' ⟨rfl,⟨nd,rfl⟩⟩;refine ⟨_,rfl,?_⟩))
   go_meet
   case rel=>exact ⟨_,(true),Ye,H',⟨by first|omega|exact Nat.le_refl _⟩,⟨YS⟩,⟨YR⟩,⟨bH⟩⟩
 case rest =>
  clear HC3
  try clear c1
  try clear p2
  try clear c5
  try clear c7
  try clear c8
  try clear c9
  try clear c11
  try clear hcz10_0
  try clear hcz12_0
  try clear hcz12_1
  try clear hcz9_0
  try clear hcz9_1
  try clear hfz10_0
  try clear hfz12_0
  try clear hfz12_1
  try clear hfz9_0
  try clear hfz9_1
  obtain ⟨kq,x19_2,rfl,HA,HJ2,BK257,BK258,HB⟩:=hcut
  cases kq with
  | zero=>exact absurd HA.out (by simp [impl_Sign_isWorld.j0])
  | succ kj2 =>
   have H:=HA.out
   clear HA
   simp only [impl_Sign_isWorld.j0] at H
   by_cases c13:x19_2 = true
   ·subst c13
    have H1:(some false) = some r:=by rw [if_pos rfl] at H;exact H
    clear H
    have H:=H1
    clear H1
    obtain rfl:=Option.some.inj H
    go_wp2
    go_ret
    exact ⟨Yb,bH⟩
   ·replace c13:=Bool.eq_false_iff.mpr c13
    subst c13
    have H1:(impl_Sign_isWorld.l0 kj2 l1_1 (l1_1.length:Int) 0 l0_0 a1_0 l1_1) = some r:=by rw [if_neg (show ¬ (false = true) by decide)] at H;exact H
    clear H
    have H:=H1
    clear H1
    have H':=Aside0.mk H
    clear H
    have hnb14:=NB258_257.out
    have hnc14:=NB257_258.out
    have hcz15_0:wc.cell? ⟨gb258,0,none⟩ = some (.int .i64 a1_0):=(blk_cell BK258.out 0).trans rfl
    have hcz15_1:wc.cell? ⟨gb258,1,none⟩ = some (.slice A1_1 l1_1.length c1_1):=(blk_cell BK258.out 1).trans rfl
    have hfz15_0:=blk_frozen BK258.out 0
    have hfz15_1:=blk_frozen BK258.out 1
    go_wp2
    go_loopg [23] kj2 (fun kq v23 w'=>∃ (x23_2:Int),v23 = .int .i64 x23_2 ∧ Aside0 (impl_Sign_isWorld.l0 kq l1_1 (l1_1.length:Int) x23_2 l0_0 a1_0 l1_1 = some r) ∧ Aside0 (kq ≤ kj2) ∧ Aside0 (w'.heap[gb257]? = some (.cells #[(.slice A0_0 l0_0.length c0_0)] 26 (0,0))) ∧ Aside0 (w'.heap[gb258]? = some (.cells #[.int .i64 a1_0,(.slice A1_1 l1_1.length c1_1)] 31 (0,0))) ∧ Aside0 (Below w.heap.size w w'))
    case atStart=>exact ⟨(0),Ye,H',⟨Nat.le_refl _⟩,⟨YS⟩,⟨YR⟩,⟨bH⟩⟩
    case round =>
     clear H'
     try clear c1
     try clear p2
     try clear c5
     try clear c7
     try clear c8
     try clear c9
     try clear c11
     try clear c13
     try clear c14
     try clear hcz10_0
     try clear hcz12_0
     try clear hcz12_1
     try clear hcz15_0
     try clear hcz15_1
     try clear hcz9_0
     try clear hcz9_1
     try clear hfz10_0
     try clear hfz12_0
     try clear hfz12_1
     try clear hfz15_0
     try clear hfz15_1
     try clear hfz9_0
     try clear hfz9_1
     try clear p2
     obtain ⟨x23_2,rfl,HA,HK2,BK257,BK258,HB⟩:=hrel
     cases gk with
     | zero=>exact absurd HA.out (by simp [impl_Sign_isWorld.l0])
     | succ k2 =>
      have H:=HA.out
      clear HA
      simp only [impl_Sign_isWorld.l0] at H
      by_cases c16:x23_2 < (l1_1.length:Int)
      ·rw [if_pos c16] at H
       have c16b0:=decide_eq_true c16
       clear c16
       by_cases c17:0 ≤ x23_2
       ·rw [if_pos c17] at H
        have c17b0:=decide_eq_true c17
        clear c17
        by_cases c18:x23_2 < (l1_1.length:Int)
        ·rw [if_pos c18] at H
         have c18b0:=decide_eq_true c18
         clear c18
         by_cases c19:x23_2 < (l0_0.length:Int)
         ·rw [if_pos c19] at H
          have c19b0:=decide_eq_true c19
          clear c19
          replace H:=Option.bind_eq_some_iff.mp H
          obtain ⟨t262,A200,H⟩:=H
          replace H:(if ((rd_L2 l1_1 x23_2).length:Int) = t262 then ((impl_areElements.f a1_0 (rd_L2 l1_1 x23_2)).bind fun t263=>(if t263 = true then (impl_Sign_isWorld.l0 k2 l1_1 (l1_1.length:Int) (wrap64 (x23_2 + 1)) l0_0 a1_0 l1_1) else (some false))) else (some false)) = some r:=H
          have A20:=Aside0.mk A200
          clear A200
          by_cases c21:((rd_L2 l1_1 x23_2).length:Int) = t262
          ·rw [if_pos c21] at H
           have c21b0:(((rd_L2 l1_1 x23_2).length:Int) == t262) = true:=beq_iff_eq.mpr c21
           have c21b1:(((rd_L2 l1_1 x23_2).length:Int) != t262) = false:=bne_eq_false_iff_eq.mpr c21
           clear c21
           replace H:=Option.bind_eq_some_iff.mp H
           obtain ⟨t263,A220,H⟩:=H
           replace H:(if t263 = true then (impl_Sign_isWorld.l0 k2 l1_1 (l1_1.length:Int) (wrap64 (x23_2 + 1)) l0_0 a1_0 l1_1) else (some false)) = some r:=H
           have A22:=Aside0.mk A220
           clear A220
           by_cases c23:t263 = true
           ·subst c23
            have H1:(impl_Sign_isWorld.l0 k2 l1_1 (l1_1.length:Int) (wrap64 (x23_2 + 1)) l0_0 a1_0 l1_1) = some r:=by rw [if_pos rfl] at H;exact H
            clear H
            have H:=H1
            clear H1
            have H':=Aside0.mk H
            clear H
            have p260:0 ≤ (x23_2:Int):=oD
            have q260:x23_2 < (l1_1.length:Int):=oD
            obtain ⟨ad260,A260_0,c260_0,e260,hx260_0,hl260_0,hi260_0⟩:=at_L2 HR1_1.out x23_2 p260 q260
            cases e260
            replace hx260_0:=(HB.out.cell (World.block_lt_of_cell? w _ hx260_0)).trans hx260_0
            have HR260_0:=Aside0.mk hi260_0
            have HC260_0:=Aside0.mk hl260_0
            clear hi260_0 hl260_0
            replace p260:=eq_true p260
            replace q260:=eq_true q260
            try go_wp2
            replace BK257:=Aside0.mk (blk_drew BK257.out);replace BK258:=Aside0.mk (blk_drew BK258.out);replace HB:=Aside0.mk (below_drew1 HB.out)
            have p261:0 ≤ (x23_2:Int):=oD
            have q261:x23_2 < (l0_0.length:Int):=oD
            obtain ⟨ad261,e261,hx261_0⟩:=Kd.at_int HR0_0.out x23_2 p261 q261
            have hw261_0:=hx261_0
            cases e261
            replace hx261_0:=(HB.out.cell (World.block_lt_of_cell? w _ hx261_0)).trans hx261_0
            replace p261:=eq_true p261
            replace q261:=eq_true q261
            refine start_ (n:=18) (S:=fun w'=>w'.cell? ⟨gb258,0,none⟩ = some (.int .i64 a1_0) ∧ w'.cell? ⟨gb258,1,none⟩ = some (.slice (some ad260) l1_1.length c1_1) ∧ w'.cell? ⟨gb257,0,none⟩ = some (.slice (some ad261) l0_0.length c0_0) ∧ w'.cell? (ad261.add (x23_2).toNat) = some (.int .i64 (rd l0_0 x23_2))) (ds:=[]) #[false,false,false,false,false,false,false,false,false,false,false,false,false,false,false,false,false,false] (by kernel_rfl) rfl rfl ⟨(blk_cell BK258.out 0).trans rfl,(blk_cell BK258.out 1).trans rfl,(blk_cell BK257.out 0).trans rfl,((HB.out.cell (World.block_lt_of_cell? w _ hw261_0)).trans hw261_0)⟩ (fun hHeld=>?_);refine with_tabW impl_Sign_isWorld.tab6 impl_Sign_isWorld.bits6 (fun HT_ HW_=>?_)
            generalize wr.drew = w24 at BK257 BK258 HB hx261_0 hHeld ⊢
            refine pU (i:=0) (N:=some 28) #[true,false,false,false,false,false,false,false,false,false,false,false,false,false,false,false,false,false] (any_of HT_.out (by kernel_rfl)) ?_
            refine pU (i:=1) (N:=some 29) #[true,true,false,false,false,false,false,false,false,false,false,false,false,false,false,false,false,false] (any_of HT_.out (by kernel_rfl)) ?_
            refine pU (i:=2) (N:=some 30) #[true,true,true,false,false,false,false,false,false,false,false,false,false,false,false,false,false,false] (any_of HT_.out (by kernel_rfl)) ?_
            refine pU (i:=4) (N:=some 32) #[true,true,true,false,true,false,false,false,false,false,false,false,false,false,false,false,false,false] (any_of HT_.out (by kernel_rfl)) ?_
            refine pU (i:=6) (N:=some 34) #[true,true,true,false,true,false,true,false,false,false,false,false,false,false,false,false,false,false] (any_of HT_.out (by kernel_rfl)) ?_
            refine take_ (i:=3) (N:=some 31) (v:=?_) (a':=?_) #[true,true,true,true,true,false,true,false,false,false,false,false,false,false,false,false,false,false] rfl rfl (take_ofW HT_.out HW_.out (by kernel_rfl)) (fun _ _ _ h=>h) (Or.inl ⟨by rfl,?_⟩) hHeld ?_ ?_
            rotate_left
            ·rintro w' ⟨s0,s1,s2,s3⟩
             go_simp
             with_reducible rfl
            rotate_left
            ·simp only [Act.put,List.setIfInBounds_toArray,List.set_cons_zero,List.set_cons_succ,i64_w,i32_w]
             rfl
            refine take_ (i:=5) (N:=some 33) (v:=?_) (a':=?_) #[true,true,true,true,true,true,true,false,false,false,false,false,false,false,false,false,false,false] rfl rfl (take_ofW HT_.out HW_.out (by kernel_rfl)) (fun _ _ _ h=>h) (Or.inl ⟨by rfl,?_⟩) hHeld ?_ ?_
            rotate_left
            ·rintro w' ⟨s0,s1,s2,s3⟩
             go_simp
             with_reducible rfl
            rotate_left
            ·simp only [Act.put,List.setIfInBounds_toArray,List.set_cons_zero,List.set_cons_succ,i64_w,i32_w]
             rfl
            refine pU (i:=7) (N:=some 35) #[true,true,true,true,true,true,true,true,false,false,false,false,false,false,false,false,false,false] (any_of HT_.out (by kernel_rfl)) ?_
            refine take_ (i:=8) (N:=some 36) (v:=?_) (a':=?_) #[true,true,true,true,true,true,true,true,true,false,false,false,false,false,false,false,false,false] rfl rfl (take_ofW HT_.out HW_.out (by kernel_rfl)) (fun _ _ _ h=>h) (Or.inl ⟨by rfl,?_⟩) hHeld ?_ ?_
            rotate_left
            ·rintro w' ⟨s0,s1,s2,s3⟩
             go_simp
             with_reducible rfl
            rotate_left
            ·simp only [Act.put,List.setIfInBounds_toArray,List.set_cons_zero,List.set_cons_succ,i64_w,i32_w]
             rfl
            refine one_ (i:=9) (N:=some 37) #[true,true,true,true,true,true,true,true,true,true,false,false,false,false,false,false,false,false] rfl rfl (one_of HT_.out (by kernel_rfl)) (by decide) (fun K hK=>?_)
            refine goes_ Try.func96 (by kernel_rfl) rfl #[.int .i64 a1_0,.int .i64 (rd l0_0 x23_2)] (by rfl) rfl rfl Ya ?_
            with_reducible refine (impl_entries.calls k2 a1_0 (rd l0_0 x23_2) t262 _ A20.out).mono ?_
            rintro e w' ⟨rfl,⟨nd,rfl⟩⟩
            refine ⟨_,rfl,?_⟩
            refine hK.out _ _ ⟨(blk_cell BK258.out 0).trans rfl,(blk_cell BK258.out 1).trans rfl,(blk_cell BK257.out 0).trans rfl,((HB.out.cell (World.block_lt_of_cell? w _ hw261_0)).trans hw261_0)⟩ (fun hHeld=>?_)
            clear hK K
            refine nM (N:=some 37) ?_
            refine pU (i:=10) (N:=some 38) #[true,true,true,true,true,true,true,true,true,true,true,false,false,false,false,false,false,false] (any_of HT_.out (by kernel_rfl)) ?_
            refine pU (i:=11) (N:=some 39) #[true,true,true,true,true,true,true,true,true,true,true,true,false,false,false,false,false,false] (any_of HT_.out (by kernel_rfl)) ?_
            refine pU (i:=12) (N:=some 40) #[true,true,true,true,true,true,true,true,true,true,true,true,true,false,false,false,false,false] (any_of HT_.out (by kernel_rfl)) ?_
            refine pU (i:=14) (N:=some 42) #[true,true,true,true,true,true,true,true,true,true,true,true,true,false,true,false,false,false] (any_of HT_.out (by kernel_rfl)) ?_
            refine take_ (i:=13) (N:=some 41) (v:=?_) (a':=?_) #[true,true,true,true,true,true,true,true,true,true,true,true,true,true,true,false,false,false] rfl rfl (take_ofW HT_.out HW_.out (by kernel_rfl)) (fun _ _ _ h=>h) (Or.inl ⟨by rfl,?_⟩) hHeld ?_ ?_
            rotate_left
            ·rintro w' ⟨s0,s1,s2,s3⟩
             go_simp
             with_reducible rfl
            rotate_left
            ·simp only [Act.put,List.setIfInBounds_toArray,List.set_cons_zero,List.set_cons_succ,i64_w,i32_w]
             rfl
            refine one_ (i:=15) (N:=some 43) #[true,true,true,true,true,true,true,true,true,true,true,true,true,true,true,true,false,false] rfl rfl (one_of HT_.out (by kernel_rfl)) (by decide) (fun K hK=>?_)
            refine goes_ Try.func79 (by kernel_rfl) rfl #[.int .i64 a1_0,.slice A260_0 (rd_L2 l1_1 x23_2).length c260_0] (by rfl) rfl rfl Ya ?_
            with_reducible refine (impl_areElements.calls a1_0 _ _ (rd_L2 l1_1 x23_2) true _ ?side1 ?side2 A22.out).mono ?_
            (case side1=>repeat (first|exact (Kd.C_below HR260_0.out bH)|(with_reducible refine Kd.C_alloc ?_ _)|(with_reducible refine Kd.C_drewN ?_ _)|(with_reducible refine Kd.C_drew ?_)))
            (case side2=>exact HC260_0.out)
            rintro e w25 ⟨rfl,hb⟩
            refine ⟨_,rfl,?_⟩
            replace BK257:=Aside0.mk (blk_below (bB BK257) hb);replace BK258:=Aside0.mk (blk_below (bB BK258) hb);replace HB:=Aside0.mk (below_step bH hb)
            (try clear hb)
            (try clear hb2)
            (try clear hk)
            (try clear hi)
            refine hK.out _ _ ⟨(blk_cell BK258.out 0).trans rfl,(blk_cell BK258.out 1).trans rfl,(blk_cell BK257.out 0).trans rfl,((HB.out.cell (World.block_lt_of_cell? w _ hw261_0)).trans hw261_0)⟩ (fun hHeld=>?_)
            clear hK K
            refine nM (N:=some 43) ?_
            refine pU (i:=16) (N:=some 44) #[true,true,true,true,true,true,true,true,true,true,true,true,true,true,true,true,true,false] (any_of HT_.out (by kernel_rfl)) ?_
            refine pU (i:=17) (N:=some 45) #[true,true,true,true,true,true,true,true,true,true,true,true,true,true,true,true,true,true] (any_of HT_.out (by kernel_rfl)) ?_
            refine done_ (done_of HT_.out (by kernel_rfl)) ?_
            try go_wp2
            go_roundg k2
            case measure=>have:=HJ2.out;have:=HK2.out;omega
            case rel=>exact ⟨(wrap64 (x23_2 + 1)),Ye,H',⟨by have:=HJ2.out;have:=HK2.out;omega⟩,⟨YS⟩,⟨YR⟩,⟨bH⟩⟩
           ·replace c23:=Bool.eq_false_iff.mpr c23
            subst c23
            have H1:(some false) = some r:=by rw [if_neg (show ¬ (false = true) by decide)] at H;exact H
            clear H
            have H:=H1
            clear H1
            obtain rfl:=Option.some.inj H
            have p260:0 ≤ (x23_2:Int):=oD
            have q260:x23_2 < (l1_1.length:Int):=oD
            obtain ⟨ad260,A260_0,c260_0,e260,hx260_0,hl260_0,hi260_0⟩:=at_L2 HR1_1.out x23_2 p260 q260
            cases e260
            replace hx260_0:=(HB.out.cell (World.block_lt_of_cell? w _ hx260_0)).trans hx260_0
            have HR260_0:=Aside0.mk hi260_0
            have HC260_0:=Aside0.mk hl260_0
            clear hi260_0 hl260_0
            replace p260:=eq_true p260
            replace q260:=eq_true q260
            try go_wp2
            replace BK257:=Aside0.mk (blk_drew BK257.out);replace BK258:=Aside0.mk (blk_drew BK258.out);replace HB:=Aside0.mk (below_drew1 HB.out)
            have p261:0 ≤ (x23_2:Int):=oD
            have q261:x23_2 < (l0_0.length:Int):=oD
            obtain ⟨ad261,e261,hx261_0⟩:=Kd.at_int HR0_0.out x23_2 p261 q261
            have hw261_0:=hx261_0
            cases e261
            replace hx261_0:=(HB.out.cell (World.block_lt_of_cell? w _ hx261_0)).trans hx261_0
            replace p261:=eq_true p261
            replace q261:=eq_true q261
            refine start_ (n:=18) (S:=fun w'=>w'.cell? ⟨gb258,0,none⟩ = some (.int .i64 a1_0) ∧ w'.cell? ⟨gb258,1,none⟩ = some (.slice (some ad260) l1_1.length c1_1) ∧ w'.cell? ⟨gb257,0,none⟩ = some (.slice (some ad261) l0_0.length c0_0) ∧ w'.cell? (ad261.add (x23_2).toNat) = some (.int .i64 (rd l0_0 x23_2))) (ds:=[]) #[false,false,false,false,false,false,false,false,false,false,false,false,false,false,false,false,false,false] (by kernel_rfl) rfl rfl ⟨(blk_cell BK258.out 0).trans rfl,(blk_cell BK258.out 1).trans rfl,(blk_cell BK257.out 0).trans rfl,((HB.out.cell (World.block_lt_of_cell? w _ hw261_0)).trans hw261_0)⟩ (fun hHeld=>?_);refine with_tabW impl_Sign_isWorld.tab6 impl_Sign_isWorld.bits6 (fun HT_ HW_=>?_)
            generalize wr.drew = w26 at BK257 BK258 HB hx261_0 hHeld ⊢
            refine pU (i:=0) (N:=some 28) #[true,false,false,false,false,false,false,false,false,false,false,false,false,false,false,false,false,false] (any_of HT_.out (by kernel_rfl)) ?_
            refine pU (i:=1) (N:=some 29) #[true,true,false,false,false,false,false,false,false,false,false,false,false,false,false,false,false,false] (any_of HT_.out (by kernel_rfl)) ?_
            refine pU (i:=2) (N:=some 30) #[true,true,true,false,false,false,false,false,false,false,false,false,false,false,false,false,false,false] (any_of HT_.out (by kernel_rfl)) ?_
            refine pU (i:=4) (N:=some 32) #[true,true,true,false,true,false,false,false,false,false,false,false,false,false,false,false,false,false] (any_of HT_.out (by kernel_rfl)) ?_
            refine pU (i:=6) (N:=some 34) #[true,true,true,false,true,false,true,false,false,false,false,false,false,false,false,false,false,false] (any_of HT_.out (by kernel_rfl)) ?_
            refine take_ (i:=3) (N:=some 31) (v:=?_) (a':=?_) #[true,true,true,true,true,false,true,false,false,false,false,false,false,false,false,false,false,false] rfl rfl (take_ofW HT_.out HW_.out (by kernel_rfl)) (fun _ _ _ h=>h) (Or.inl ⟨by rfl,?_⟩) hHeld ?_ ?_
            rotate_left
            ·rintro w' ⟨s0,s1,s2,s3⟩
             go_simp
             with_reducible rfl
            rotate_left
            ·simp only [Act.put,List.setIfInBounds_toArray,List.set_cons_zero,List.set_cons_succ,i64_w,i32_w]
             rfl
            refine take_ (i:=5) (N:=some 33) (v:=?_) (a':=?_) #[true,true,true,true,true,true,true,false,false,false,false,false,false,false,false,false,false,false] rfl rfl (take_ofW HT_.out HW_.out (by kernel_rfl)) (fun _ _ _ h=>h) (Or.inl ⟨by rfl,?_⟩) hHeld ?_ ?_
            rotate_left
            ·rintro w' ⟨s0,s1,s2,s3⟩
             go_simp
             with_reducible rfl
            rotate_left
            ·simp only [Act.put,List.setIfInBounds_toArray,List.set_cons_zero,List.set_cons_succ,i64_w,i32_w]
             rfl
            refine pU (i:=7) (N:=some 35) #[true,true,true,true,true,true,true,true,false,false,false,false,false,false,false,false,false,false] (any_of HT_.out (by kernel_rfl)) ?_
            refine take_ (i:=8) (N:=some 36) (v:=?_) (a':=?_) #[true,true,true,true,true,true,true,true,true,false,false,false,false,false,false,false,false,false] rfl rfl (take_ofW HT_.out HW_.out (by kernel_rfl)) (fun _ _ _ h=>h) (Or.inl ⟨by rfl,?_⟩) hHeld ?_ ?_
            rotate_left
            ·rintro w' ⟨s0,s1,s2,s3⟩
             go_simp
             with_reducible rfl
            rotate_left
            ·simp only [Act.put,List.setIfInBounds_toArray,List.set_cons_zero,List.set_cons_succ,i64_w,i32_w]
             rfl
            refine one_ (i:=9) (N:=some 37) #[true,true,true,true,true,true,true,true,true,true,false,false,false,false,false,false,false,false] rfl rfl (one_of HT_.out (by kernel_rfl)) (by decide) (fun K hK=>?_)
            refine goes_ Try.func96 (by kernel_rfl) rfl #[.int .i64 a1_0,.int .i64 (rd l0_0 x23_2)] (by rfl) rfl rfl Ya ?_
            with_reducible refine (impl_entries.calls k2 a1_0 (rd l0_0 x23_2) t262 _ A20.out).mono ?_
            rintro e w' ⟨rfl,⟨nd,rfl⟩⟩
            refine ⟨_,rfl,?_⟩
            refine hK.out _ _ ⟨(blk_cell BK258.out 0).trans rfl,(blk_cell BK258.out 1).trans rfl,(blk_cell BK257.out 0).trans rfl,((HB.out.cell (World.block_lt_of_cell? w _ hw261_0)).trans hw261_0)⟩ (fun hHeld=>?_)
            clear hK K
            refine nM (N:=some 37) ?_
            refine pU (i:=10) (N:=some 38) #[true,true,true,true,true,true,true,true,true,true,true,false,false,false,false,false,false,false] (any_of HT_.out (by kernel_rfl)) ?_
            refine pU (i:=11) (N:=some 39) #[true,true,true,true,true,true,true,true,true,true,true,true,false,false,false,false,false,false] (any_of HT_.out (by kernel_rfl)) ?_
            refine pU (i:=12) (N:=some 40) #[true,true,true,true,true,true,true,true,true,true,true,true,true,false,false,false,false,false] (any_of HT_.out (by kernel_rfl)) ?_
            refine pU (i:=14) (N:=some 42) #[true,true,true,true,true,true,true,true,true,true,true,true,true,false,true,false,false,false] (any_of HT_.out (by kernel_rfl)) ?_
            refine take_ (i:=13) (N:=some 41) (v:=?_) (a':=?_) #[true,true,true,true,true,true,true,true,true,true,true,true,true,true,true,false,false,false] rfl rfl (take_ofW HT_.out HW_.out (by kernel_rfl)) (fun _ _ _ h=>h) (Or.inl ⟨by rfl,?_⟩) hHeld ?_ ?_
            rotate_left
            ·rintro w' ⟨s0,s1,s2,s3⟩
             go_simp
             with_reducible rfl
            rotate_left
            ·simp only [Act.put,List.setIfInBounds_toArray,List.set_cons_zero,List.set_cons_succ,i64_w,i32_w]
             rfl
            refine one_ (i:=15) (N:=some 43) #[true,true,true,true,true,true,true,true,true,true,true,true,true,true,true,true,false,false] rfl rfl (one_of HT_.out (by kernel_rfl)) (by decide) (fun K hK=>?_)
            refine goes_ Try.func79 (by kernel_rfl) rfl #[.int .i64 a1_0,.slice A260_0 (rd_L2 l1_1 x23_2).length c260_0] (by rfl) rfl rfl Ya ?_
            with_reducible refine (impl_areElements.calls a1_0 _ _ (rd_L2 l1_1 x23_2) false _ ?side1 ?side2 A22.out).mono ?_
            (case side1=>repeat (first|exact (Kd.C_below HR260_0.out bH)|(with_reducible refine Kd.C_alloc ?_ _)|(with_reducible refine Kd.C_drewN ?_ _)|(with_reducible refine Kd.C_drew ?_)))
            (case side2=>exact HC260_0.out)
            rintro e w27 ⟨rfl,hb⟩
            refine ⟨_,rfl,?_⟩
            replace BK257:=Aside0.mk (blk_below (bB BK257) hb);replace BK258:=Aside0.mk (blk_below (bB BK258) hb);replace HB:=Aside0.mk (below_step bH hb)
            (try clear hb)
            (try clear hb2)
            (try clear hk)
            (try clear hi)
            refine hK.out _ _ ⟨(blk_cell BK258.out 0).trans rfl,(blk_cell BK258.out 1).trans rfl,(blk_cell BK257.out 0).trans rfl,((HB.out.cell (World.block_lt_of_cell? w _ hw261_0)).trans hw261_0)⟩ (fun hHeld=>?_)
            clear hK K
            refine nM (N:=some 43) ?_
            refine pU (i:=16) (N:=some 44) #[true,true,true,true,true,true,true,true,true,true,true,true,true,true,true,true,true,false] (any_of HT_.out (by kernel_rfl)) ?_
            refine pU (i:=17) (N:=some 45) #[true,true,true,true,true,true,true,true,true,true,true,true,true,true,true,true,true,true] (any_of HT_.out (by kernel_rfl)) ?_
            refine done_ (done_of HT_.out (by kernel_rfl)) ?_
            try go_wp2
            go_ret
            exact ⟨Yb,bH⟩
          ·rw [if_neg c21] at H
           have c21b0:(((rd_L2 l1_1 x23_2).length:Int) == t262) = false:=beq_eq_false_iff_ne.mpr c21
           have c21b1:(((rd_L2 l1_1 x23_2).length:Int) != t262) = true:=bne_iff_ne.mpr c21
           obtain rfl:=Option.some.inj H
           have p260:0 ≤ (x23_2:Int):=oD
           have q260:x23_2 < (l1_1.length:Int):=oD
           obtain ⟨ad260,A260_0,c260_0,e260,hx260_0,hl260_0,hi260_0⟩:=at_L2 HR1_1.out x23_2 p260 q260
           cases e260
           replace hx260_0:=(HB.out.cell (World.block_lt_of_cell? w _ hx260_0)).trans hx260_0
           have HR260_0:=Aside0.mk hi260_0
           have HC260_0:=Aside0.mk hl260_0
           clear hi260_0 hl260_0
           replace p260:=eq_true p260
           replace q260:=eq_true q260
           try go_wp2
           replace BK257:=Aside0.mk (blk_drew BK257.out);replace BK258:=Aside0.mk (blk_drew BK258.out);replace HB:=Aside0.mk (below_drew1 HB.out)
           have p261:0 ≤ (x23_2:Int):=oD
           have q261:x23_2 < (l0_0.length:Int):=oD
           obtain ⟨ad261,e261,hx261_0⟩:=Kd.at_int HR0_0.out x23_2 p261 q261
           have hw261_0:=hx261_0
           cases e261
           replace hx261_0:=(HB.out.cell (World.block_lt_of_cell? w _ hx261_0)).trans hx261_0
           replace p261:=eq_true p261
           replace q261:=eq_true q261
           refine start_ (n:=18) (S:=fun w'=>w'.cell? ⟨gb258,0,none⟩ = some (.int .i64 a1_0) ∧ w'.cell? ⟨gb258,1,none⟩ = some (.slice (some ad260) l1_1.length c1_1) ∧ w'.cell? ⟨gb257,0,none⟩ = some (.slice (some ad261) l0_0.length c0_0) ∧ w'.cell? (ad261.add (x23_2).toNat) = some (.int .i64 (rd l0_0 x23_2))) (ds:=[]) #[false,false,false,false,false,false,false,false,false,false,false,false,false,false,false,false,false,false] (by kernel_rfl) rfl rfl ⟨(blk_cell BK258.out 0).trans rfl,(blk_cell BK258.out 1).trans rfl,(blk_cell BK257.out 0).trans rfl,((HB.out.cell (World.block_lt_of_cell? w _ hw261_0)).trans hw261_0)⟩ (fun hHeld=>?_);refine with_tabW impl_Sign_isWorld.tab6 impl_Sign_isWorld.bits6 (fun HT_ HW_=>?_)
           generalize wr.drew = w28 at BK257 BK258 HB hx261_0 hHeld ⊢
           refine pU (i:=0) (N:=some 28) #[true,false,false,false,false,false,false,false,false,false,false,false,false,false,false,false,false,false] (any_of HT_.out (by kernel_rfl)) ?_
           refine pU (i:=1) (N:=some 29) #[true,true,false,false,false,false,false,false,false,false,false,false,false,false,false,false,false,false] (any_of HT_.out (by kernel_rfl)) ?_
           refine pU (i:=2) (N:=some 30) #[true,true,true,false,false,false,false,false,false,false,false,false,false,false,false,false,false,false] (any_of HT_.out (by kernel_rfl)) ?_
           refine pU (i:=4) (N:=some 32) #[true,true,true,false,true,false,false,false,false,false,false,false,false,false,false,false,false,false] (any_of HT_.out (by kernel_rfl)) ?_
           refine pU (i:=6) (N:=some 34) #[true,true,true,false,true,false,true,false,false,false,false,false,false,false,false,false,false,false] (any_of HT_.out (by kernel_rfl)) ?_
           refine take_ (i:=3) (N:=some 31) (v:=?_) (a':=?_) #[true,true,true,true,true,false,true,false,false,false,false,false,false,false,false,false,false,false] rfl rfl (take_ofW HT_.out HW_.out (by kernel_rfl)) (fun _ _ _ h=>h) (Or.inl ⟨by rfl,?_⟩) hHeld ?_ ?_
           rotate_left
           ·rintro w' ⟨s0,s1,s2,s3⟩
            go_simp
            with_reducible rfl
           rotate_left
           ·simp only [Act.put,List.setIfInBounds_toArray,List.set_cons_zero,List.set_cons_succ,i64_w,i32_w]
            rfl
           refine take_ (i:=5) (N:=some 33) (v:=?_) (a':=?_) #[true,true,true,true,true,true,true,false,false,false,false,false,false,false,false,false,false,false] rfl rfl (take_ofW HT_.out HW_.out (by kernel_rfl)) (fun _ _ _ h=>h) (Or.inl ⟨by rfl,?_⟩) hHeld ?_ ?_
           rotate_left
           ·rintro w' ⟨s0,s1,s2,s3⟩
            go_simp
            with_reducible rfl
           rotate_left
           ·simp only [Act.put,List.setIfInBounds_toArray,List.set_cons_zero,List.set_cons_succ,i64_w,i32_w]
            rfl
           refine pU (i:=7) (N:=some 35) #[true,true,true,true,true,true,true,true,false,false,false,false,false,false,false,false,false,false] (any_of HT_.out (by kernel_rfl)) ?_
           refine take_ (i:=8) (N:=some 36) (v:=?_) (a':=?_) #[true,true,true,true,true,true,true,true,true,false,false,false,false,false,false,false,false,false] rfl rfl (take_ofW HT_.out HW_.out (by kernel_rfl)) (fun _ _ _ h=>h) (Or.inl ⟨by rfl,?_⟩) hHeld ?_ ?_
           rotate_left
           ·rintro w' ⟨s0,s1,s2,s3⟩
            go_simp
            with_reducible rfl
           rotate_left
           ·simp only [Act.put,List.setIfInBounds_toArray,List.set_cons_zero,List.set_cons_succ,i64_w,i32_w]
            rfl
           refine one_ (i:=9) (N:=some 37) #[true,true,true,true,true,true,true,true,true,true,false,false,false,false,false,false,false,false] rfl rfl (one_of HT_.out (by kernel_rfl)) (by decide) (fun K hK=>?_)
           refine goes_ Try.func96 (by kernel_rfl) rfl #[.int .i64 a1_0,.int .i64 (rd l0_0 x23_2)] (by rfl) rfl rfl Ya ?_
           with_reducible refine (impl_entries.calls k2 a1_0 (rd l0_0 x23_2) t262 _ A20.out).mono ?_
           rintro e w' ⟨rfl,⟨nd,rfl⟩⟩
           refine ⟨_,rfl,?_⟩
           refine hK.out _ _ ⟨(blk_cell BK258.out 0).trans rfl,(blk_cell BK258.out 1).trans rfl,(blk_cell BK257.out 0).trans rfl,((HB.out.cell (World.block_lt_of_cell? w _ hw261_0)).trans hw261_0)⟩ (fun hHeld=>?_)
           clear hK K
           refine nM (N:=some 37) ?_
           refine pU (i:=10) (N:=some 38) #[true,true,true,true,true,true,true,true,true,true,true,false,false,false,false,false,false,false] (any_of HT_.out (by kernel_rfl)) ?_
           refine pU (i:=11) (N:=some 39) #[true,true,true,true,true,true,true,true,true,true,true,true,false,false,false,false,false,false] (any_of HT_.out (by kernel_rfl)) ?_
           refine pure_ (i:=12) (N:=some 40) (v:=undef) (a':=?_) #[true,true,true,true,true,true,true,true,true,true,true,true,true,false,false,false,false,false] rfl rfl (any_of HT_.out (by kernel_rfl)) (fun _ _ _ h=>h) (Or.inr ⟨by rfl,rfl⟩) ?_ ?_
           rotate_left
           ·simp only [Act.put,List.setIfInBounds_toArray,List.set_cons_zero,List.set_cons_succ,i64_w,i32_w]
            rfl
           refine pure_ (i:=13) (N:=some 41) (v:=undef) (a':=?_) #[true,true,true,true,true,true,true,true,true,true,true,true,true,true,false,false,false,false] rfl rfl (any_of HT_.out (by kernel_rfl)) (fun _ _ _ h=>h) (Or.inr ⟨by rfl,rfl⟩) ?_ ?_
           rotate_left
           ·simp only [Act.put,List.setIfInBounds_toArray,List.set_cons_zero,List.set_cons_succ,i64_w,i32_w]
            rfl
           refine pure_ (i:=14) (N:=some 42) (v:=undef) (a':=?_) #[true,true,true,true,true,true,true,true,true,true,true,true,true,true,true,false,false,false] rfl rfl (any_of HT_.out (by kernel_rfl)) (fun _ _ _ h=>h) (Or.inr ⟨by rfl,rfl⟩) ?_ ?_
           rotate_left
           ·simp only [Act.put,List.setIfInBounds_toArray,List.set_cons_zero,List.set_cons_succ,i64_w,i32_w]
            rfl
           refine pure_ (i:=15) (N:=some 43) (v:=undef) (a':=?_) #[true,true,true,true,true,true,true,true,true,true,true,true,true,true,true,true,false,false] rfl rfl (any_of HT_.out (by kernel_rfl)) (fun _ _ _ h=>h) (Or.inr ⟨by rfl,rfl⟩) ?_ ?_
           rotate_left
           ·simp only [Act.put,List.setIfInBounds_toArray,List.set_cons_zero,List.set_cons_succ,i64_w,i32_w]
            rfl
           refine pure_ (i:=16) (N:=some 44) (v:=undef) (a':=?_) #[true,true,true,true,true,true,true,true,true,true,true,true,true,true,true,true,true,false] rfl rfl (any_of HT_.out (by kernel_rfl)) (fun _ _ _ h=>h) (Or.inr ⟨by rfl,rfl⟩) ?_ ?_
           rotate_left
           ·simp only [Act.put,List.setIfInBounds_toArray,List.set_cons_zero,List.set_cons_succ,i64_w,i32_w]
            rfl
           refine pU (i:=17) (N:=some 45) #[true,true,true,true,true,true,true,true,true,true,true,true,true,true,true,true,true,true] (any_of HT_.out (by kernel_rfl)) ?_
           refine done_ (done_of HT_.out (by kernel_rfl)) ?_
           try go_wp2
           go_ret
           exact ⟨Yb,bH⟩
         ·rw [if_neg c19] at H
          exact absurd H (by simp)
        ·rw [if_neg c18] at H
         exact absurd H (by simp)
       ·rw [if_neg c17] at H
        exact absurd H (by simp)
      ·rw [if_neg c16] at H
       have c16b0:decide (x23_2 < (l1_1.length:Int)) = false:=decide_eq_false c16
       clear c16
       obtain rfl:=Option.some.inj H
       go_wp2
       go_ret
       exact ⟨Yb,bH⟩

end Go.Proofs.Ytmgkflkfoccgkaa.QFnPutFor
