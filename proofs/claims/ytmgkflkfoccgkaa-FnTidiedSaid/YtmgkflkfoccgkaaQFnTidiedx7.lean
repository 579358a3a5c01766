-- Written by this session's own program (wip/x/xprint.py, over the kit's printer); Lean checks it.
import Derived.Test.YtmgkflkfoccgkaaQFnTidiedx0
import Derived.Test.YtmgkflkfoccgkaaQFnTidiedx5
import Derived.Test.YtmgkflkfoccgkaaQFnTidiedx6
namespace Go.Proofs.Ytmgkflkfoccgkaa.QFnTidied
open Go.RowKit Go.Proofs.YtmgkflkfoccgkaaW.PrintWords Go.Proofs.YtmgkflkfoccgkaaW.PrintLast Go.Proofs.YtmgkflkfoccgkaaW.PrintMore
attribute [local go_sem] max2_int min2_int max_two min_two max_three min_three max_four min_four   -- for this text's walks alone
set_option linter.unusedVariables false
set_option linter.unusedSimpArgs false

/-! ### spec_l1Cur_lit: function 87 -/
def spec_l1Cur_lit.f (k:Nat) (s0_0:List Int) (s0_1:Int) (s0_2:Int) (l1_0:List Int):Option (Bool × List Int × List Int × Int × Int):=(spec_l1Cur_one.f s0_0 s0_1 s0_2 3).bind fun bt241=>((spec_l1Cur_pick.f s0_0 bt241.2.1 bt241.2.2 3).bind fun bt244=>((spec_l1Cur_term.f k s0_0 bt244.2.1 bt244.2.2 l1_0 (wrap64 (1 + bt244.1)) 3).bind fun bt247=>((spec_l1Cur_pick.f s0_0 bt247.2.1 bt247.2.2 2).bind fun bt252=>((spec_l1Cur_term.f k s0_0 bt252.2.1 bt252.2.2 l1_0 (wrap64 (1 + bt252.1)) 3).bind fun bt255=>((spec_l1Cur_one.f s0_0 bt255.2.1 bt255.2.2 3).bind fun bt261=>(if bt261.1 = true then (some (!bt241.1,bt247.1,(([0]:List Int)),bt261.2.1,bt261.2.2)) else (some (!bt241.1,bt247.1,bt255.1,bt261.2.1,bt261.2.2))))))))
theorem spec_l1Cur_lit.mono:∀ a0 a1 a2 a3 k,LeO (spec_l1Cur_lit.f k a0 a1 a2 a3) (spec_l1Cur_lit.f (k + 1) a0 a1 a2 a3):=by
 intro a0 a1 a2 a3 k
 unfold spec_l1Cur_lit.f
 have m0:=@spec_l1Cur_term.mono
 exact mO
def spec_l1Cur_lit.T1:Bool × List (List Nat × List Nat):=(true,[([],[]),([0],[0]),([1],[1]),([],[]),([],[]),([],[]),([5,1],[5]),([6],[6]),([3,4,7,6],[3,4,7]),([],[]),([],[]),([],[]),([11,8],[11]),([12],[12]),([9,10,13,12],[9,10,13]),([2,8,14],[2,8,14]),([],[]),([16,15,14,0,1,2,3,4,5,6,7,8,9,10,11,12,13,14,15,16],[15,16])])
def spec_l1Cur_lit.B1:List Nat:=[0,1,3,0,0,0,35,99,251,0,0,0,2555,6651,16379,32767,0,131071]
theorem spec_l1Cur_lit.tab1:rtab .any (opsOf Try.f87 1) = spec_l1Cur_lit.T1:=by kernel_rfl
theorem spec_l1Cur_lit.bits1:waitsOk spec_l1Cur_lit.T1.2 spec_l1Cur_lit.B1 = true:=by kernel_rfl
set_option maxHeartbeats 8000000 in
set_option maxRecDepth 100000 in
theorem spec_l1Cur_lit.calls (k:Nat) (g:Nat) (s0_0:List Int) (s0_1:Int) (s0_2:Int) (A1_0:Option Addr) (c1_0:Nat) (l1_0:List Int) (r1:Bool) (r2:List Int) (r3:List Int) (r4:Int) (r5:Int) (w0 w:World) (hI:IsS60 w0 w g s0_0 s0_1 s0_2) (hB:Below w0.heap.size w0 w) (hr1_0:Kd.C (Kd.int .i64) w A1_0 l1_0.length l1_0) (hc1_0:l1_0.length ≤ c1_0) (hf1_0:∀ ad,A1_0 = some ad → 0 < l1_0.length → ad.block ≠ g) (h:spec_l1Cur_lit.f k s0_0 s0_1 s0_2 l1_0 = some (r1,r2,r3,r4,r5)) :
  Calls Try.prog 87 #[.pointer (some ⟨g,0,none⟩),.agg #[.slice A1_0 l1_0.length c1_0]] w fun e w'=>∃ v1_ v2_:Value,e = .returned (.agg #[.bool r1,v1_,v2_]) ∧ Kd.R (Kd.int .i64) 3 w' w.heap.size (fun k_=>some k_ ≠ (v2_:Value).ownBlock) v1_ r2 ∧ Kd.R (Kd.int .i64) 3 w' w.heap.size (fun k_=>some k_ ≠ (v1_:Value).ownBlock) v2_ r3 ∧ IsS60 w0 w' g s0_0 r4 r5 ∧ Below w0.heap.size w0 w' ∧ KeepBut w w' g none:=by
 have hu26:=Try.underlying26
 have hu83:=Try.underlying83
 have HR1_0:=Aside0.mk hr1_0
 have HC1_0:=Aside0.mk hc1_0
 clear hr1_0 hc1_0
 have HI0:=Aside0.mk hI
 have HK:=Aside0.mk (KeepBut.refl w g none)
 have HL:=Aside0.mk hB.size
 clear hI
 have HW0:=Aside0.mk hB.size
 have HB:=Aside0.mk hB
 clear hB
 have H:((spec_l1Cur_one.f s0_0 s0_1 s0_2 3).bind fun bt241=>((spec_l1Cur_pick.f s0_0 bt241.2.1 bt241.2.2 3).bind fun bt244=>((spec_l1Cur_term.f k s0_0 bt244.2.1 bt244.2.2 l1_0 (wrap64 (1 + bt244.1)) 3).bind fun bt247=>((spec_l1Cur_pick.f s0_0 bt247.2.1 bt247.2.2 2).bind fun bt252=>((spec_l1Cur_term.f k s0_0 bt252.2.1 bt252.2.2 l1_0 (wrap64 (1 + bt252.1)) 3).bind fun bt255=>((spec_l1Cur_one.f s0_0 bt255.2.1 bt255.2.2 3).bind fun bt261=>(if bt261.1 = true then (some (!bt241.1,bt247.1,(([0]:List Int)),bt261.2.1,bt261.2.2)) else (some (!bt241.1,bt247.1,bt255.1,bt261.2.1,bt261.2.2))))))))) = some (r1,r2,r3,r4,r5):=h
 clear h
 replace H:=bI H;obtain ⟨⟨t241,t242,t243⟩,A3,H⟩:=H
 dsimp only at H
 replace H:=bI H;obtain ⟨⟨t244,t245,t246⟩,A4,H⟩:=H
 dsimp only at H
 replace H:=bI H;obtain ⟨⟨t247,t250,t251⟩,A5,H⟩:=H
 dsimp only at H
 replace H:=bI H;obtain ⟨⟨t252,t253,t254⟩,A6,H⟩:=H
 dsimp only at H
 replace H:=bI H;obtain ⟨⟨t255,t258,t259⟩,A7,H⟩:=H
 dsimp only at H
 replace H:=bI H;obtain ⟨⟨t261,t262,t263⟩,A8,H⟩:=H
 dsimp only at H
 have HLATE:=Aside0.mk H
 clear H
 go_enter Try.func87,Try.ntmps87
 try go_wp2_with (first|(refine xB 3 #[.slice A1_0 l1_0.length c1_0] 26 ?_;intro gb239 hg w10 hbox hb;replace HB:=bS hb;have BK239:=Aside0.mk (hbox);have GW239:=gY w gb239;have GE239:=gX HW0 GW239;replace HK:=kT w g hb;have NB0_239:=iN60 g gb239;have NB239_0:=nr NB0_239;replace HI0:=iB60 hb;clear hb hbox hg)|(refine xB 4 #[.bool false,.slice none 0 0,.slice none 0 0] 83 ?_;intro gb240 hg w11 hbox hb;replace HB:=bS hb;have BK240:=Aside0.mk (hbox);have GW240:=gY w gb240;have GE240:=gX HW0 GW240;replace HK:=kT w g hb;have NB239_240:=nl BK239 gb239 gb240;have NB240_239:=nr NB239_240;replace BK239:=bb BK239 hb;have NB0_240:=iN60 g gb240;have NB240_0:=nr NB0_240;replace HI0:=iB60 hb;clear hb hbox hg))
 replace BK239:=Aside0.mk (blk_drew BK239.out);replace BK240:=Aside0.mk (blk_drew BK240.out);replace HI0:=Aside0.mk (IsS60.drew HI0.out);replace HK:=Aside0.mk (keep_drew HK.out);replace HB:=Aside0.mk (below_drew1 HB.out)
 refine start_ (n:=18) (S:=fun w'=>w'.cell? ⟨gb239,0,none⟩ = some (.slice A1_0 l1_0.length c1_0)) (ds:=[]) #[false,false,false,false,false,false,false,false,false,false,false,false,false,false,false,false,false,false] (by kernel_rfl) rfl rfl ((blk_cell BK239.out 0).trans rfl) (fun hHeld=>?_);refine with_tabW spec_l1Cur_lit.tab1 spec_l1Cur_lit.bits1 (fun HT_ HW_=>?_)
 generalize w11.drew = w12 at BK239 BK240 HI0 HK HB hHeld ⊢
 refine pV 0 (some 6) (bs 18 1) HT_ ?_
 refine pV 3 (some 9) (bs 18 9) HT_ ?_
 refine pV 5 (some 11) (bs 18 41) HT_ ?_
 refine pV 9 (some 15) (bs 18 553) HT_ ?_
 refine pV 11 (some 17) (bs 18 2601) HT_ ?_
 refine tV1 4 (some 10) (bs 18 2617) HT_ HW_ hHeld ?_
 refine tV1 10 (some 16) (bs 18 3641) HT_ HW_ hHeld ?_
 refine join_ (σ:=Value × Value × Nat) 1 #[true,true,true,true,true,true,true,true,true,true,true,true,true,true,true,true,true,false] (fun s_=>[(7,.bool t241),(12,.int .i64 t244),(14,s_.1),(18,.int .i64 t252),(20,s_.2.1),(5,.pointer (some ⟨s_.2.2,0,none⟩)),(8,.bool (!t241)),(13,.int .i64 (wrap64 (1 + t244))),(19,.int .i64 (wrap64 (1 + t252))),(21,.agg #[.bool (!t241),s_.1,s_.2.1])]) (fun s_ w'=>(w'.cell? ⟨gb239,0,none⟩ = some (.slice A1_0 l1_0.length c1_0)) ∧ (Kd.R (Kd.int .i64) 3 w' w.heap.size (fun k_=>some k_ ≠ (s_.2.1:Value).ownBlock) s_.1 t247) ∧ (Kd.R (Kd.int .i64) 3 w' w.heap.size (fun k_=>some k_ ≠ (s_.1:Value).ownBlock) s_.2.1 t255) ∧ (w'.heap[gb239]? = some (.cells #[.slice A1_0 l1_0.length c1_0] 26 (0,0))) ∧ (w'.heap[gb240]? = some (.cells #[.bool false,.slice none 0 0,.slice none 0 0] 83 (0,0))) ∧ (w'.heap[s_.2.2]? = some (.cells #[.bool false,.slice none 0 0,.slice none 0 0] 83 (0,0))) ∧ (w.heap.size ≤ s_.2.2) ∧ (w0.heap.size ≤ s_.2.2) ∧ (g ≠ s_.2.2) ∧ (s_.2.2 ≠ g) ∧ (gb239 ≠ s_.2.2) ∧ (s_.2.2 ≠ gb239) ∧ (gb240 ≠ s_.2.2) ∧ (s_.2.2 ≠ gb240) ∧ (IsS60 w0 w' g s0_0 t258 t259) ∧ (KeepBut w w' g none) ∧ (Below w0.heap.size w0 w')) ?_ ?_
 rotate_left
 ·intro hJ1_6_8_12_14_16
  refine join_ (σ:=Value × Value) 2 #[true,true,true,true,true,true,true,true,true,true,true,true,true,true,true,true,false,false] (fun s_=>[(7,.bool t241),(12,.int .i64 t244),(14,s_.1),(18,.int .i64 t252),(20,s_.2),(8,.bool (!t241)),(13,.int .i64 (wrap64 (1 + t244))),(19,.int .i64 (wrap64 (1 + t252))),(21,.agg #[.bool (!t241),s_.1,s_.2])]) (fun s_ w'=>(w'.cell? ⟨gb239,0,none⟩ = some (.slice A1_0 l1_0.length c1_0)) ∧ (Kd.R (Kd.int .i64) 3 w' w.heap.size (fun k_=>some k_ ≠ (s_.2:Value).ownBlock) s_.1 t247) ∧ (Kd.R (Kd.int .i64) 3 w' w.heap.size (fun k_=>some k_ ≠ (s_.1:Value).ownBlock) s_.2 t255) ∧ (w'.heap[gb239]? = some (.cells #[.slice A1_0 l1_0.length c1_0] 26 (0,0))) ∧ (w'.heap[gb240]? = some (.cells #[.bool false,.slice none 0 0,.slice none 0 0] 83 (0,0))) ∧ (IsS60 w0 w' g s0_0 t258 t259) ∧ (KeepBut w w' g none) ∧ (Below w0.heap.size w0 w')) ?_ ?_
  rotate_left
  ·intro hJ1_6_8_12_14
   refine join_ (σ:=Value × Nat) 3 #[true,true,true,true,true,true,true,true,true,true,true,true,true,true,false,false,true,false] (fun s_=>[(7,.bool t241),(12,.int .i64 t244),(14,s_.1),(18,.int .i64 t252),(5,.pointer (some ⟨s_.2,0,none⟩)),(8,.bool (!t241)),(13,.int .i64 (wrap64 (1 + t244))),(19,.int .i64 (wrap64 (1 + t252)))]) (fun s_ w'=>(w'.cell? ⟨gb239,0,none⟩ = some (.slice A1_0 l1_0.length c1_0)) ∧ (Kd.R (Kd.int .i64) 3 w' w.heap.size (fun _=>True) s_.1 t247) ∧ (w'.heap[gb239]? = some (.cells #[.slice A1_0 l1_0.length c1_0] 26 (0,0))) ∧ (w'.heap[gb240]? = some (.cells #[.bool false,.slice none 0 0,.slice none 0 0] 83 (0,0))) ∧ (w'.heap[s_.2]? = some (.cells #[.bool false,.slice none 0 0,.slice none 0 0] 83 (0,0))) ∧ (w.heap.size ≤ s_.2) ∧ (w0.heap.size ≤ s_.2) ∧ (g ≠ s_.2) ∧ (s_.2 ≠ g) ∧ (gb239 ≠ s_.2) ∧ (s_.2 ≠ gb239) ∧ (gb240 ≠ s_.2) ∧ (s_.2 ≠ gb240) ∧ (IsS60 w0 w' g s0_0 t253 t254) ∧ (KeepBut w w' g none) ∧ (Below w0.heap.size w0 w')) ?_ ?_
   rotate_left
   ·intro hJ1_6_8_12_16
    refine join_ (σ:=Value) 4 #[true,true,true,true,true,true,true,true,true,true,true,true,true,true,false,false,false,false] (fun s_=>[(7,.bool t241),(12,.int .i64 t244),(14,s_),(18,.int .i64 t252),(8,.bool (!t241)),(13,.int .i64 (wrap64 (1 + t244))),(19,.int .i64 (wrap64 (1 + t252)))]) (fun s_ w'=>(w'.cell? ⟨gb239,0,none⟩ = some (.slice A1_0 l1_0.length c1_0)) ∧ (Kd.R (Kd.int .i64) 3 w' w.heap.size (fun _=>True) s_ t247) ∧ (w'.heap[gb239]? = some (.cells #[.slice A1_0 l1_0.length c1_0] 26 (0,0))) ∧ (w'.heap[gb240]? = some (.cells #[.bool false,.slice none 0 0,.slice none 0 0] 83 (0,0))) ∧ (IsS60 w0 w' g s0_0 t253 t254) ∧ (KeepBut w w' g none) ∧ (Below w0.heap.size w0 w')) ?_ ?_
    rotate_left
    ·intro hJ1_6_8_12
     refine join_ (σ:=Value × Nat) 5 #[true,true,true,true,true,true,true,true,true,true,true,true,false,false,false,false,true,false] (fun s_=>[(7,.bool t241),(12,.int .i64 t244),(14,s_.1),(5,.pointer (some ⟨s_.2,0,none⟩)),(8,.bool (!t241)),(13,.int .i64 (wrap64 (1 + t244)))]) (fun s_ w'=>(w'.cell? ⟨gb239,0,none⟩ = some (.slice A1_0 l1_0.length c1_0)) ∧ (Kd.R (Kd.int .i64) 3 w' w.heap.size (fun _=>True) s_.1 t247) ∧ (w'.heap[gb239]? = some (.cells #[.slice A1_0 l1_0.length c1_0] 26 (0,0))) ∧ (w'.heap[gb240]? = some (.cells #[.bool false,.slice none 0 0,.slice none 0 0] 83 (0,0))) ∧ (w'.heap[s_.2]? = some (.cells #[.bool false,.slice none 0 0,.slice none 0 0] 83 (0,0))) ∧ (w.heap.size ≤ s_.2) ∧ (w0.heap.size ≤ s_.2) ∧ (g ≠ s_.2) ∧ (s_.2 ≠ g) ∧ (gb239 ≠ s_.2) ∧ (s_.2 ≠ gb239) ∧ (gb240 ≠ s_.2) ∧ (s_.2 ≠ gb240) ∧ (IsS60 w0 w' g s0_0 t250 t251) ∧ (KeepBut w w' g none) ∧ (Below w0.heap.size w0 w')) ?_ ?_
     rotate_left
     ·intro hJ1_6_8_16
      refine join_ (σ:=Value) 6 #[true,true,true,true,true,true,true,true,true,true,true,true,false,false,false,false,false,false] (fun s_=>[(7,.bool t241),(12,.int .i64 t244),(14,s_),(8,.bool (!t241)),(13,.int .i64 (wrap64 (1 + t244)))]) (fun s_ w'=>(w'.cell? ⟨gb239,0,none⟩ = some (.slice A1_0 l1_0.length c1_0)) ∧ (Kd.R (Kd.int .i64) 3 w' w.heap.size (fun _=>True) s_ t247) ∧ (w'.heap[gb239]? = some (.cells #[.slice A1_0 l1_0.length c1_0] 26 (0,0))) ∧ (w'.heap[gb240]? = some (.cells #[.bool false,.slice none 0 0,.slice none 0 0] 83 (0,0))) ∧ (IsS60 w0 w' g s0_0 t250 t251) ∧ (KeepBut w w' g none) ∧ (Below w0.heap.size w0 w')) ?_ ?_
      rotate_left
      ·intro hJ1_6_8
       refine join_ (σ:=Nat) 6 #[true,true,true,true,true,true,true,true,false,true,true,true,false,false,false,false,true,false] (fun s_=>[(7,.bool t241),(12,.int .i64 t244),(5,.pointer (some ⟨s_,0,none⟩)),(8,.bool (!t241)),(13,.int .i64 (wrap64 (1 + t244)))]) (fun s_ w'=>(w'.cell? ⟨gb239,0,none⟩ = some (.slice A1_0 l1_0.length c1_0)) ∧ (w'.heap[gb239]? = some (.cells #[.slice A1_0 l1_0.length c1_0] 26 (0,0))) ∧ (w'.heap[gb240]? = some (.cells #[.bool false,.slice none 0 0,.slice none 0 0] 83 (0,0))) ∧ (w'.heap[s_]? = some (.cells #[.bool false,.slice none 0 0,.slice none 0 0] 83 (0,0))) ∧ (w.heap.size ≤ s_) ∧ (w0.heap.size ≤ s_) ∧ (g ≠ s_) ∧ (s_ ≠ g) ∧ (gb239 ≠ s_) ∧ (s_ ≠ gb239) ∧ (gb240 ≠ s_) ∧ (s_ ≠ gb240) ∧ (IsS60 w0 w' g s0_0 t245 t246) ∧ (KeepBut w w' g none) ∧ (Below w0.heap.size w0 w')) ?_ ?_
       rotate_left
       ·intro hJ1_6_16
        refine join_ (σ:=Unit) 7 #[true,true,true,true,true,true,true,true,false,true,true,true,false,false,false,false,false,false] (fun s_=>[(7,.bool t241),(12,.int .i64 t244),(8,.bool (!t241)),(13,.int .i64 (wrap64 (1 + t244)))]) (fun s_ w'=>(w'.cell? ⟨gb239,0,none⟩ = some (.slice A1_0 l1_0.length c1_0)) ∧ (w'.heap[gb239]? = some (.cells #[.slice A1_0 l1_0.length c1_0] 26 (0,0))) ∧ (w'.heap[gb240]? = some (.cells #[.bool false,.slice none 0 0,.slice none 0 0] 83 (0,0))) ∧ (IsS60 w0 w' g s0_0 t245 t246) ∧ (KeepBut w w' g none) ∧ (Below w0.heap.size w0 w')) ?_ ?_
        rotate_left
        ·intro hJ1_6
         refine join_ (σ:=Nat) 8 #[true,true,true,true,true,true,false,false,false,true,true,true,false,false,false,false,true,false] (fun s_=>[(7,.bool t241),(5,.pointer (some ⟨s_,0,none⟩)),(8,.bool (!t241))]) (fun s_ w'=>(w'.cell? ⟨gb239,0,none⟩ = some (.slice A1_0 l1_0.length c1_0)) ∧ (w'.heap[gb239]? = some (.cells #[.slice A1_0 l1_0.length c1_0] 26 (0,0))) ∧ (w'.heap[gb240]? = some (.cells #[.bool false,.slice none 0 0,.slice none 0 0] 83 (0,0))) ∧ (w'.heap[s_]? = some (.cells #[.bool false,.slice none 0 0,.slice none 0 0] 83 (0,0))) ∧ (w.heap.size ≤ s_) ∧ (w0.heap.size ≤ s_) ∧ (g ≠ s_) ∧ (s_ ≠ g) ∧ (gb239 ≠ s_) ∧ (s_ ≠ gb239) ∧ (gb240 ≠ s_) ∧ (s_ ≠ gb240) ∧ (IsS60 w0 w' g s0_0 t242 t243) ∧ (KeepBut w w' g none) ∧ (Below w0.heap.size w0 w')) ?_ ?_
         rotate_left
         ·intro hJ1_16
          refine join_ (σ:=Unit) 9 #[true,true,true,true,true,true,false,false,false,true,true,true,false,false,false,false,false,false] (fun s_=>[(7,.bool t241),(8,.bool (!t241))]) (fun s_ w'=>(w'.cell? ⟨gb239,0,none⟩ = some (.slice A1_0 l1_0.length c1_0)) ∧ (w'.heap[gb239]? = some (.cells #[.slice A1_0 l1_0.length c1_0] 26 (0,0))) ∧ (w'.heap[gb240]? = some (.cells #[.bool false,.slice none 0 0,.slice none 0 0] 83 (0,0))) ∧ (IsS60 w0 w' g s0_0 t242 t243) ∧ (KeepBut w w' g none) ∧ (Below w0.heap.size w0 w')) ?_ ?_
          rotate_left
          ·intro hJ1
           refine join_ (σ:=Nat) 10 #[true,false,false,true,true,true,false,false,false,true,true,true,false,false,false,false,true,false] (fun s_=>[(5,.pointer (some ⟨s_,0,none⟩))]) (fun s_ w'=>(w'.cell? ⟨gb239,0,none⟩ = some (.slice A1_0 l1_0.length c1_0)) ∧ (w'.heap[gb239]? = some (.cells #[.slice A1_0 l1_0.length c1_0] 26 (0,0))) ∧ (w'.heap[gb240]? = some (.cells #[.bool false,.slice none 0 0,.slice none 0 0] 83 (0,0))) ∧ (w'.heap[s_]? = some (.cells #[.bool false,.slice none 0 0,.slice none 0 0] 83 (0,0))) ∧ (w.heap.size ≤ s_) ∧ (w0.heap.size ≤ s_) ∧ (g ≠ s_) ∧ (s_ ≠ g) ∧ (gb239 ≠ s_) ∧ (s_ ≠ gb239) ∧ (gb240 ≠ s_) ∧ (s_ ≠ gb240) ∧ (IsS60 w0 w' g s0_0 s0_1 s0_2) ∧ (KeepBut w w' g none) ∧ (Below w0.heap.size w0 w')) ?_ ?_
           rotate_left
           ·intro hJ16
            refine two_ (i:=1) (j:=16) (Ni:=some 7) (Nj:=some 5) #[true,true,false,true,true,true,false,false,false,true,true,true,false,false,false,false,false,false] #[true,false,false,true,true,true,false,false,false,true,true,true,false,false,false,false,true,false] rfl rfl rfl rfl (two_of HT_.out (by kernel_rfl)) (by decide) (by decide) (fun K hK=>?_) (fun K hK=>?_)
            ·skip
             refine goes_ Try.func75 (by kernel_rfl) rfl #[.pointer (some ⟨g,0,none⟩),.int .i64 3] (by rfl) rfl rfl Ya ?_
             with_reducible refine (spec_l1Cur_one.calls g s0_0 s0_1 s0_2 3 t241 t242 t243 w0 _ ?side1 ?side2 A3.out).mono ?_
             (case side1=>exact iIsS60)
             (case side2=>exact bH)
             rintro e w13 ⟨rfl,hi,hb,hk⟩
             refine ⟨_,rfl,?_⟩
             replace BK239:=kU hk NB239_0 (bB BK239);replace BK240:=kU hk NB240_0 (bB BK240);replace HK:=Aside0.mk (KeepBut.trans kB hk (.inl rfl));replace HB:=Aside0.mk (hb);replace HI0:=Aside0.mk (hi)
             (try clear hb);(try clear hk);(try clear hi)
             refine hK.out _ _ ((blk_cell BK239.out 0).trans rfl) (fun hHeld=>?_)
             clear hK K
             refine nM (N:=some 7) ?_
             refine pV 2 (some 8) (bs 18 3647) HT_ ?_
             exact norm_ Ye (hJ1 () _ ⟨hHeld,(bB BK239),(bB BK240),iIsS60,kB,bH⟩)
            ·skip
             refine box_step ?hg (N:=5) ?hd (cs:=#[.bool false,.slice none 0 0,.slice none 0 0]) (t:=83) ?hr ?_;(case hd=>rfl);(case hg=>rfl);(case hr=>exact Yc)
             intro gb260 hg w13 hbox hb
             replace HB:=bS hb;have BK260:=Aside0.mk (hbox);have GW260:=gY w gb260;have GE260:=gX HW0 GW260;replace HK:=kT w g hb;have NB239_260:=nl BK239 gb239 gb260;have NB260_239:=nr NB239_260;replace BK239:=bb BK239 hb;have NB240_260:=nl BK240 gb240 gb260;have NB260_240:=nr NB240_260;replace BK240:=bb BK240 hb;have NB0_260:=iN60 g gb260;have NB260_0:=nr NB0_260;replace HI0:=iB60 hb
             clear hb hbox hg
             refine hK.out _ _ ((blk_cell BK239.out 0).trans rfl) (fun hHeld=>?_)
             clear hK K
             refine nM (N:=some 5) ?_
             exact norm_ Ye (hJ16 (gb260) _ ⟨hHeld,(bB BK239),(bB BK240),(bB BK260),GW260.out,GE260.out,NB0_260.out,NB260_0.out,NB239_260.out,NB260_239.out,NB240_260.out,NB260_240.out,iIsS60,kB,bH⟩)
           ·skip
            rintro gb260 w14 ⟨hS_,h0_,h1_,h2_,h3_,h4_,h5_,h6_,h7_,h8_,h9_,h10_,h11_,h12_,h13_⟩
            have n0_:Aside0 (w14.heap[gb239]? = some (.cells #[.slice A1_0 l1_0.length c1_0] 26 (0,0))):=⟨h0_⟩
            have n1_:Aside0 (w14.heap[gb240]? = some (.cells #[.bool false,.slice none 0 0,.slice none 0 0] 83 (0,0))):=⟨h1_⟩
            have n2_:Aside0 (w14.heap[gb260]? = some (.cells #[.bool false,.slice none 0 0,.slice none 0 0] 83 (0,0))):=⟨h2_⟩
            have n3_:Aside0 (w.heap.size ≤ gb260):=⟨h3_⟩
            have n4_:Aside0 (w0.heap.size ≤ gb260):=⟨h4_⟩
            have n5_:Aside0 (g ≠ gb260):=⟨h5_⟩
            have n6_:Aside0 (gb260 ≠ g):=⟨h6_⟩
            have n7_:Aside0 (gb239 ≠ gb260):=⟨h7_⟩
            have n8_:Aside0 (gb260 ≠ gb239):=⟨h8_⟩
            have n9_:Aside0 (gb240 ≠ gb260):=⟨h9_⟩
            have n10_:Aside0 (gb260 ≠ gb240):=⟨h10_⟩
            have n11_:Aside0 (IsS60 w0 w14 g s0_0 s0_1 s0_2):=⟨h11_⟩
            have n12_:Aside0 (KeepBut w w14 g none):=⟨h12_⟩
            have n13_:Aside0 (Below w0.heap.size w0 w14):=⟨h13_⟩
            clear BK239
            clear BK240
            clear HI0
            clear HK
            clear HB
            clear h0_ h1_ h2_ h3_ h4_ h5_ h6_ h7_ h8_ h9_ h10_ h11_ h12_ h13_
            have BK239:=n0_
            have BK240:=n1_
            have BK260:=n2_
            have GW260:=n3_
            have GE260:=n4_
            have NB0_260:=n5_
            have NB260_0:=n6_
            have NB239_260:=n7_
            have NB260_239:=n8_
            have NB240_260:=n9_
            have NB260_240:=n10_
            have HI0:=n11_
            have HK:=n12_
            have HB:=n13_
            clear n0_ n1_ n2_ n3_ n4_ n5_ n6_ n7_ n8_ n9_ n10_ n11_ n12_ n13_
            have hHeld:w14.cell? ⟨gb239,0,none⟩ = some (.slice A1_0 l1_0.length c1_0):=hS_
            refine norm_ (a':=?_) ?_ ?_
            rotate_left
            ·simp only [putAll,Act.put,List.setIfInBounds_toArray,List.set_cons_zero,List.set_cons_succ]
             rfl
            refine oN 1 (some 7) (bs 18 69179) HT_ fun K hK=>?_
            refine goes_ Try.func75 (by kernel_rfl) rfl #[.pointer (some ⟨g,0,none⟩),.int .i64 3] (by rfl) rfl rfl Ya ?_
            with_reducible refine (spec_l1Cur_one.calls g s0_0 s0_1 s0_2 3 t241 t242 t243 w0 _ ?side1 ?side2 A3.out).mono ?_
            (case side1=>exact iIsS60)
            (case side2=>exact bH)
            rintro e w15 ⟨rfl,hi,hb,hk⟩
            refine ⟨_,rfl,?_⟩
            replace BK239:=kU hk NB239_0 (bB BK239);replace BK240:=kU hk NB240_0 (bB BK240);replace BK260:=kU hk NB260_0 (bB BK260);replace HK:=Aside0.mk (KeepBut.trans kB hk (.inl rfl));replace HB:=Aside0.mk (hb);replace HI0:=Aside0.mk (hi)
            (try clear hb);(try clear hk);(try clear hi)
            refine hK.out _ _ ((blk_cell BK239.out 0).trans rfl) (fun hHeld=>?_)
            clear hK K
            refine nM (N:=some 7) ?_
            refine pV 2 (some 8) (bs 18 69183) HT_ ?_
            exact norm_ Ye (hJ1_16 (gb260) _ ⟨hHeld,(bB BK239),(bB BK240),(bB BK260),GW260.out,GE260.out,NB0_260.out,NB260_0.out,NB239_260.out,NB260_239.out,NB240_260.out,NB260_240.out,iIsS60,kB,bH⟩)
          ·skip
           rintro _ w14 ⟨hS_,h0_,h1_,h2_,h3_,h4_⟩
           have n0_:Aside0 (w14.heap[gb239]? = some (.cells #[.slice A1_0 l1_0.length c1_0] 26 (0,0))):=⟨h0_⟩
           have n1_:Aside0 (w14.heap[gb240]? = some (.cells #[.bool false,.slice none 0 0,.slice none 0 0] 83 (0,0))):=⟨h1_⟩
           have n2_:Aside0 (IsS60 w0 w14 g s0_0 t242 t243):=⟨h2_⟩
           have n3_:Aside0 (KeepBut w w14 g none):=⟨h3_⟩
           have n4_:Aside0 (Below w0.heap.size w0 w14):=⟨h4_⟩
           clear BK239
           clear BK240
           clear HI0
           clear HK
           clear HB
           clear h0_ h1_ h2_ h3_ h4_
           have BK239:=n0_
           have BK240:=n1_
           have HI0:=n2_
           have HK:=n3_
           have HB:=n4_
           clear n0_ n1_ n2_ n3_ n4_
           have hHeld:w14.cell? ⟨gb239,0,none⟩ = some (.slice A1_0 l1_0.length c1_0):=hS_
           refine norm_ (a':=?_) ?_ ?_
           rotate_left
           ·simp only [putAll,Act.put,List.setIfInBounds_toArray,List.set_cons_zero,List.set_cons_succ]
            rfl
           refine two_ (i:=6) (j:=16) (Ni:=some 12) (Nj:=some 5) #[true,true,true,true,true,true,true,false,false,true,true,true,false,false,false,false,false,false] #[true,true,true,true,true,true,false,false,false,true,true,true,false,false,false,false,true,false] rfl rfl rfl rfl (two_of HT_.out (by kernel_rfl)) (by decide) (by decide) (fun K hK=>?_) (fun K hK=>?_)
           ·skip
            refine goes_ Try.func73 (by kernel_rfl) rfl #[.pointer (some ⟨g,0,none⟩),.int .i64 3] (by rfl) rfl rfl Ya ?_
            with_reducible refine (spec_l1Cur_pick.calls g s0_0 t242 t243 3 t244 t245 t246 w0 _ ?side1 ?side2 A4.out).mono ?_
            (case side1=>exact iIsS60)
            (case side2=>exact bH)
            rintro e w15 ⟨rfl,hi,hb,hk⟩
            refine ⟨_,rfl,?_⟩
            replace BK239:=kU hk NB239_0 (bB BK239);replace BK240:=kU hk NB240_0 (bB BK240);replace HK:=Aside0.mk (KeepBut.trans kB hk (.inl rfl));replace HB:=Aside0.mk (hb);replace HI0:=Aside0.mk (hi)
            (try clear hb);(try clear hk);(try clear hi)
            refine hK.out _ _ ((blk_cell BK239.out 0).trans rfl) (fun hHeld=>?_)
            clear hK K
            refine nM (N:=some 12) ?_
            refine pV 7 (some 13) (bs 18 3839) HT_ ?_
            exact norm_ Ye (hJ1_6 () _ ⟨hHeld,(bB BK239),(bB BK240),iIsS60,kB,bH⟩)
           ·skip
            refine box_step ?hg (N:=5) ?hd (cs:=#[.bool false,.slice none 0 0,.slice none 0 0]) (t:=83) ?hr ?_;(case hd=>rfl);(case hg=>rfl);(case hr=>exact Yc)
            intro gb260 hg w15 hbox hb
            replace HB:=bS hb;have BK260:=Aside0.mk (hbox);have GW260:=gY w gb260;have GE260:=gX HW0 GW260;replace HK:=kT w g hb;have NB239_260:=nl BK239 gb239 gb260;have NB260_239:=nr NB239_260;replace BK239:=bb BK239 hb;have NB240_260:=nl BK240 gb240 gb260;have NB260_240:=nr NB240_260;replace BK240:=bb BK240 hb;have NB0_260:=iN60 g gb260;have NB260_0:=nr NB0_260;replace HI0:=iB60 hb
            clear hb hbox hg
            refine hK.out _ _ ((blk_cell BK239.out 0).trans rfl) (fun hHeld=>?_)
            clear hK K
            refine nM (N:=some 5) ?_
            exact norm_ Ye (hJ1_16 (gb260) _ ⟨hHeld,(bB BK239),(bB BK240),(bB BK260),GW260.out,GE260.out,NB0_260.out,NB260_0.out,NB239_260.out,NB260_239.out,NB240_260.out,NB260_240.out,iIsS60,kB,bH⟩)
         ·skip
          rintro gb260 w15 ⟨hS_,h0_,h1_,h2_,h3_,h4_,h5_,h6_,h7_,h8_,h9_,h10_,h11_,h12_,h13_⟩
          have n0_:Aside0 (w15.heap[gb239]? = some (.cells #[.slice A1_0 l1_0.length c1_0] 26 (0,0))):=⟨h0_⟩
          have n1_:Aside0 (w15.heap[gb240]? = some (.cells #[.bool false,.slice none 0 0,.slice none 0 0] 83 (0,0))):=⟨h1_⟩
          have n2_:Aside0 (w15.heap[gb260]? = some (.cells #[.bool false,.slice none 0 0,.slice none 0 0] 83 (0,0))):=⟨h2_⟩
          have n3_:Aside0 (w.heap.size ≤ gb260):=⟨h3_⟩
          have n4_:Aside0 (w0.heap.size ≤ gb260):=⟨h4_⟩
          have n5_:Aside0 (g ≠ gb260):=⟨h5_⟩
          have n6_:Aside0 (gb260 ≠ g):=⟨h6_⟩
          have n7_:Aside0 (gb239 ≠ gb260):=⟨h7_⟩
          have n8_:Aside0 (gb260 ≠ gb239):=⟨h8_⟩
          have n9_:Aside0 (gb240 ≠ gb260):=⟨h9_⟩
          have n10_:Aside0 (gb260 ≠ gb240):=⟨h10_⟩
          have n11_:Aside0 (IsS60 w0 w15 g s0_0 t242 t243):=⟨h11_⟩
          have n12_:Aside0 (KeepBut w w15 g none):=⟨h12_⟩
          have n13_:Aside0 (Below w0.heap.size w0 w15):=⟨h13_⟩
          clear BK239
          clear BK240
          clear HI0
          clear HK
          clear HB
          clear h0_ h1_ h2_ h3_ h4_ h5_ h6_ h7_ h8_ h9_ h10_ h11_ h12_ h13_
          have BK239:=n0_
          have BK240:=n1_
          have BK260:=n2_
          have GW260:=n3_
          have GE260:=n4_
          have NB0_260:=n5_
          have NB260_0:=n6_
          have NB239_260:=n7_
          have NB260_239:=n8_
          have NB240_260:=n9_
          have NB260_240:=n10_
          have HI0:=n11_
          have HK:=n12_
          have HB:=n13_
          clear n0_ n1_ n2_ n3_ n4_ n5_ n6_ n7_ n8_ n9_ n10_ n11_ n12_ n13_
          have hHeld:w15.cell? ⟨gb239,0,none⟩ = some (.slice A1_0 l1_0.length c1_0):=hS_
          refine norm_ (a':=?_) ?_ ?_
          rotate_left
          ·simp only [putAll,Act.put,List.setIfInBounds_toArray,List.set_cons_zero,List.set_cons_succ]
           rfl
          refine oN 6 (some 12) (bs 18 69247) HT_ fun K hK=>?_
          refine goes_ Try.func73 (by kernel_rfl) rfl #[.pointer (some ⟨g,0,none⟩),.int .i64 3] (by rfl) rfl rfl Ya ?_
          with_reducible refine (spec_l1Cur_pick.calls g s0_0 t242 t243 3 t244 t245 t246 w0 _ ?side1 ?side2 A4.out).mono ?_
          (case side1=>exact iIsS60)
          (case side2=>exact bH)
          rintro e w16 ⟨rfl,hi,hb,hk⟩
          refine ⟨_,rfl,?_⟩
          replace BK239:=kU hk NB239_0 (bB BK239);replace BK240:=kU hk NB240_0 (bB BK240);replace BK260:=kU hk NB260_0 (bB BK260);replace HK:=Aside0.mk (KeepBut.trans kB hk (.inl rfl));replace HB:=Aside0.mk (hb);replace HI0:=Aside0.mk (hi)
          (try clear hb);(try clear hk);(try clear hi)
          refine hK.out _ _ ((blk_cell BK239.out 0).trans rfl) (fun hHeld=>?_)
          clear hK K
          refine nM (N:=some 12) ?_
          refine pV 7 (some 13) (bs 18 69375) HT_ ?_
          exact norm_ Ye (hJ1_6_16 (gb260) _ ⟨hHeld,(bB BK239),(bB BK240),(bB BK260),GW260.out,GE260.out,NB0_260.out,NB260_0.out,NB239_260.out,NB260_239.out,NB240_260.out,NB260_240.out,iIsS60,kB,bH⟩)
        ·skip
         rintro _ w15 ⟨hS_,h0_,h1_,h2_,h3_,h4_⟩
         have n0_:Aside0 (w15.heap[gb239]? = some (.cells #[.slice A1_0 l1_0.length c1_0] 26 (0,0))):=⟨h0_⟩
         have n1_:Aside0 (w15.heap[gb240]? = some (.cells #[.bool false,.slice none 0 0,.slice none 0 0] 83 (0,0))):=⟨h1_⟩
         have n2_:Aside0 (IsS60 w0 w15 g s0_0 t245 t246):=⟨h2_⟩
         have n3_:Aside0 (KeepBut w w15 g none):=⟨h3_⟩
         have n4_:Aside0 (Below w0.heap.size w0 w15):=⟨h4_⟩
         clear BK239
         clear BK240
         clear HI0
         clear HK
         clear HB
         clear h0_ h1_ h2_ h3_ h4_
         have BK239:=n0_
         have BK240:=n1_
         have HI0:=n2_
         have HK:=n3_
         have HB:=n4_
         clear n0_ n1_ n2_ n3_ n4_
         have hHeld:w15.cell? ⟨gb239,0,none⟩ = some (.slice A1_0 l1_0.length c1_0):=hS_
         refine norm_ (a':=?_) ?_ ?_
         rotate_left
         ·simp only [putAll,Act.put,List.setIfInBounds_toArray,List.set_cons_zero,List.set_cons_succ]
          rfl
         refine two_ (i:=8) (j:=16) (Ni:=some 14) (Nj:=some 5) #[true,true,true,true,true,true,true,true,true,true,true,true,false,false,false,false,false,false] #[true,true,true,true,true,true,true,true,false,true,true,true,false,false,false,false,true,false] rfl rfl rfl rfl (two_of HT_.out (by kernel_rfl)) (by decide) (by decide) (fun K hK=>?_) (fun K hK=>?_)
         ·skip
          refine goes_ Try.func74 (by kernel_rfl) rfl #[.pointer (some ⟨g,0,none⟩),.agg #[.slice A1_0 l1_0.length c1_0],.int .i64 (wrap64 (1 + t244)),.int .i64 3] (by rfl) rfl rfl Ya ?_
          with_reducible refine (spec_l1Cur_term.calls k g s0_0 t245 t246 _ _ l1_0 (wrap64 (1 + t244)) 3 t247 t250 t251 w0 _ ?side1 ?side2 ?side3 ?side4 ?side5 A5.out).mono ?_
          (case side1=>exact iIsS60)
          (case side2=>exact bH)
          (case side3=>exact Za)
          (case side4=>exact HC1_0.out)
          (case side5=>exact hf1_0)
          rintro e w16 ⟨v248,rfl,ho0,hi,hb,hk⟩
          refine ⟨_,rfl,?_⟩
          replace BK239:=kU hk NB239_0 (bB BK239);replace BK240:=kU hk NB240_0 (bB BK240);have HO249:=Aside0.mk (Kd.R_lower ho0 (keep_size (w:=w) (g:=g) (row:=none) kB));replace HK:=Aside0.mk (KeepBut.trans kB hk (.inl rfl));replace HB:=Aside0.mk (hb);replace HI0:=Aside0.mk (hi)
          (try clear hb);(try clear hk);(try clear hi);(try clear ho0)
          refine hK.out _ _ ((blk_cell BK239.out 0).trans rfl) (fun hHeld=>?_)
          clear hK K
          refine nM (N:=some 14) ?_
          exact norm_ Ye (hJ1_6_8 (v248) _ ⟨hHeld,(rR HO249),(bB BK239),(bB BK240),iIsS60,kB,bH⟩)
         ·skip
          refine box_step ?hg (N:=5) ?hd (cs:=#[.bool false,.slice none 0 0,.slice none 0 0]) (t:=83) ?hr ?_;(case hd=>rfl);(case hg=>rfl);(case hr=>exact Yc)
          intro gb260 hg w16 hbox hb
          replace HB:=bS hb;have BK260:=Aside0.mk (hbox);have GW260:=gY w gb260;have GE260:=gX HW0 GW260;replace HK:=kT w g hb;have NB239_260:=nl BK239 gb239 gb260;have NB260_239:=nr NB239_260;replace BK239:=bb BK239 hb;have NB240_260:=nl BK240 gb240 gb260;have NB260_240:=nr NB240_260;replace BK240:=bb BK240 hb;have NB0_260:=iN60 g gb260;have NB260_0:=nr NB0_260;replace HI0:=iB60 hb
          clear hb hbox hg
          refine hK.out _ _ ((blk_cell BK239.out 0).trans rfl) (fun hHeld=>?_)
          clear hK K
          refine nM (N:=some 5) ?_
          exact norm_ Ye (hJ1_6_16 (gb260) _ ⟨hHeld,(bB BK239),(bB BK240),(bB BK260),GW260.out,GE260.out,NB0_260.out,NB260_0.out,NB239_260.out,NB260_239.out,NB240_260.out,NB260_240.out,iIsS60,kB,bH⟩)
       ·skip
        rintro gb260 w16 ⟨hS_,h0_,h1_,h2_,h3_,h4_,h5_,h6_,h7_,h8_,h9_,h10_,h11_,h12_,h13_⟩
        have n0_:Aside0 (w16.heap[gb239]? = some (.cells #[.slice A1_0 l1_0.length c1_0] 26 (0,0))):=⟨h0_⟩
        have n1_:Aside0 (w16.heap[gb240]? = some (.cells #[.bool false,.slice none 0 0,.slice none 0 0] 83 (0,0))):=⟨h1_⟩
        have n2_:Aside0 (w16.heap[gb260]? = some (.cells #[.bool false,.slice none 0 0,.slice none 0 0] 83 (0,0))):=⟨h2_⟩
        have n3_:Aside0 (w.heap.size ≤ gb260):=⟨h3_⟩
        have n4_:Aside0 (w0.heap.size ≤ gb260):=⟨h4_⟩
        have n5_:Aside0 (g ≠ gb260):=⟨h5_⟩
        have n6_:Aside0 (gb260 ≠ g):=⟨h6_⟩
        have n7_:Aside0 (gb239 ≠ gb260):=⟨h7_⟩
        have n8_:Aside0 (gb260 ≠ gb239):=⟨h8_⟩
        have n9_:Aside0 (gb240 ≠ gb260):=⟨h9_⟩
        have n10_:Aside0 (gb260 ≠ gb240):=⟨h10_⟩
        have n11_:Aside0 (IsS60 w0 w16 g s0_0 t245 t246):=⟨h11_⟩
        have n12_:Aside0 (KeepBut w w16 g none):=⟨h12_⟩
        have n13_:Aside0 (Below w0.heap.size w0 w16):=⟨h13_⟩
        clear BK239
        clear BK240
        clear HI0
        clear HK
        clear HB
        clear h0_ h1_ h2_ h3_ h4_ h5_ h6_ h7_ h8_ h9_ h10_ h11_ h12_ h13_
        have BK239:=n0_
        have BK240:=n1_
        have BK260:=n2_
        have GW260:=n3_
        have GE260:=n4_
        have NB0_260:=n5_
        have NB260_0:=n6_
        have NB239_260:=n7_
        have NB260_239:=n8_
        have NB240_260:=n9_
        have NB260_240:=n10_
        have HI0:=n11_
        have HK:=n12_
        have HB:=n13_
        clear n0_ n1_ n2_ n3_ n4_ n5_ n6_ n7_ n8_ n9_ n10_ n11_ n12_ n13_
        have hHeld:w16.cell? ⟨gb239,0,none⟩ = some (.slice A1_0 l1_0.length c1_0):=hS_
        refine norm_ (a':=?_) ?_ ?_
        rotate_left
        ·simp only [putAll,Act.put,List.setIfInBounds_toArray,List.set_cons_zero,List.set_cons_succ]
         rfl
        refine oN 8 (some 14) (bs 18 69631) HT_ fun K hK=>?_
        refine goes_ Try.func74 (by kernel_rfl) rfl #[.pointer (some ⟨g,0,none⟩),.agg #[.slice A1_0 l1_0.length c1_0],.int .i64 (wrap64 (1 + t244)),.int .i64 3] (by rfl) rfl rfl Ya ?_
        with_reducible refine (spec_l1Cur_term.calls k g s0_0 t245 t246 _ _ l1_0 (wrap64 (1 + t244)) 3 t247 t250 t251 w0 _ ?side1 ?side2 ?side3 ?side4 ?side5 A5.out).mono ?_
        (case side1=>exact iIsS60)
        (case side2=>exact bH)
        (case side3=>exact Za)
        (case side4=>exact HC1_0.out)
        (case side5=>exact hf1_0)
        rintro e w17 ⟨v248,rfl,ho0,hi,hb,hk⟩
        refine ⟨_,rfl,?_⟩
        replace BK239:=kU hk NB239_0 (bB BK239);replace BK240:=kU hk NB240_0 (bB BK240);replace BK260:=kU hk NB260_0 (bB BK260);have HO249:=Aside0.mk (Kd.R_lower ho0 (keep_size (w:=w) (g:=g) (row:=none) kB));replace HK:=Aside0.mk (KeepBut.trans kB hk (.inl rfl));replace HB:=Aside0.mk (hb);replace HI0:=Aside0.mk (hi)
        (try clear hb);(try clear hk);(try clear hi);(try clear ho0)
        refine hK.out _ _ ((blk_cell BK239.out 0).trans rfl) (fun hHeld=>?_)
        clear hK K
        refine nM (N:=some 14) ?_
        exact norm_ Ye (hJ1_6_8_16 (v248,gb260) _ ⟨hHeld,(rR HO249),(bB BK239),(bB BK240),(bB BK260),GW260.out,GE260.out,NB0_260.out,NB260_0.out,NB239_260.out,NB260_239.out,NB240_260.out,NB260_240.out,iIsS60,kB,bH⟩)
      ·skip
       rintro v248 w16 ⟨hS_,h0_,h1_,h2_,h3_,h4_,h5_⟩
       have n0_:Aside0 (Kd.R (Kd.int .i64) 3 w16 w.heap.size (fun _=>True) v248 t247):=⟨h0_⟩
       have n1_:Aside0 (w16.heap[gb239]? = some (.cells #[.slice A1_0 l1_0.length c1_0] 26 (0,0))):=⟨h1_⟩
       have n2_:Aside0 (w16.heap[gb240]? = some (.cells #[.bool false,.slice none 0 0,.slice none 0 0] 83 (0,0))):=⟨h2_⟩
       have n3_:Aside0 (IsS60 w0 w16 g s0_0 t250 t251):=⟨h3_⟩
       have n4_:Aside0 (KeepBut w w16 g none):=⟨h4_⟩
       have n5_:Aside0 (Below w0.heap.size w0 w16):=⟨h5_⟩
       clear BK239
       clear BK240
       clear HI0
       clear HK
       clear HB
       clear h0_ h1_ h2_ h3_ h4_ h5_
       have HO249:=n0_
       have BK239:=n1_
       have BK240:=n2_
       have HI0:=n3_
       have HK:=n4_
       have HB:=n5_
       clear n0_ n1_ n2_ n3_ n4_ n5_
       have hHeld:w16.cell? ⟨gb239,0,none⟩ = some (.slice A1_0 l1_0.length c1_0):=hS_
       refine norm_ (a':=?_) ?_ ?_
       rotate_left
       ·simp only [putAll,Act.put,List.setIfInBounds_toArray,List.set_cons_zero,List.set_cons_succ]
        rfl
       refine two_ (i:=12) (j:=16) (Ni:=some 18) (Nj:=some 5) #[true,true,true,true,true,true,true,true,true,true,true,true,true,false,false,false,false,false] #[true,true,true,true,true,true,true,true,true,true,true,true,false,false,false,false,true,false] rfl rfl rfl rfl (two_of HT_.out (by kernel_rfl)) (by decide) (by decide) (fun K hK=>?_) (fun K hK=>?_)
       ·skip
        refine goes_ Try.func73 (by kernel_rfl) rfl #[.pointer (some ⟨g,0,none⟩),.int .i64 2] (by rfl) rfl rfl Ya ?_
        with_reducible refine (spec_l1Cur_pick.calls g s0_0 t250 t251 2 t252 t253 t254 w0 _ ?side1 ?side2 A6.out).mono ?_
        (case side1=>exact iIsS60)
        (case side2=>exact bH)
        rintro e w17 ⟨rfl,hi,hb,hk⟩
        refine ⟨_,rfl,?_⟩
        replace BK239:=kU hk NB239_0 (bB BK239);replace BK240:=kU hk NB240_0 (bB BK240);replace HO249:=Aside0.mk (Kd.R_mono (Kd.R_keep (IsS60.apart (show IsS60 w0 _ g s0_0 t250 t251 from iIsS60) (rR HO249) (by decide)) hk (fun _ h=>h.2)) (fun _ h=>h.1));replace HK:=Aside0.mk (KeepBut.trans kB hk (.inl rfl));replace HB:=Aside0.mk (hb);replace HI0:=Aside0.mk (hi)
        (try clear hb);(try clear hk);(try clear hi)
        refine hK.out _ _ ((blk_cell BK239.out 0).trans rfl) (fun hHeld=>?_)
        clear hK K
        refine nM (N:=some 18) ?_
        refine pV 13 (some 19) (bs 18 16383) HT_ ?_
        exact norm_ Ye (hJ1_6_8_12 (v248) _ ⟨hHeld,(rR HO249),(bB BK239),(bB BK240),iIsS60,kB,bH⟩)
       ·skip
        refine box_step ?hg (N:=5) ?hd (cs:=#[.bool false,.slice none 0 0,.slice none 0 0]) (t:=83) ?hr ?_;(case hd=>rfl);(case hg=>rfl);(case hr=>exact Yc)
        intro gb260 hg w17 hbox hb
        replace HO249:=rB HO249 hb;replace HB:=bS hb;have BK260:=Aside0.mk (hbox);have GW260:=gY w gb260;have GE260:=gX HW0 GW260;replace HK:=kT w g hb;have NB239_260:=nl BK239 gb239 gb260;have NB260_239:=nr NB239_260;replace BK239:=bb BK239 hb;have NB240_260:=nl BK240 gb240 gb260;have NB260_240:=nr NB240_260;replace BK240:=bb BK240 hb;have NB0_260:=iN60 g gb260;have NB260_0:=nr NB0_260;replace HI0:=iB60 hb
        clear hb hbox hg
        refine hK.out _ _ ((blk_cell BK239.out 0).trans rfl) (fun hHeld=>?_)
        clear hK K
        refine nM (N:=some 5) ?_
        exact norm_ Ye (hJ1_6_8_16 (v248,gb260) _ ⟨hHeld,(rR HO249),(bB BK239),(bB BK240),(bB BK260),GW260.out,GE260.out,NB0_260.out,NB260_0.out,NB239_260.out,NB260_239.out,NB240_260.out,NB260_240.out,iIsS60,kB,bH⟩)
     ·skip
      rintro ⟨v248,gb260⟩ w17 ⟨hS_,h0_,h1_,h2_,h3_,h4_,h5_,h6_,h7_,h8_,h9_,h10_,h11_,h12_,h13_,h14_⟩
      have n0_:Aside0 (Kd.R (Kd.int .i64) 3 w17 w.heap.size (fun _=>True) v248 t247):=⟨h0_⟩
      have n1_:Aside0 (w17.heap[gb239]? = some (.cells #[.slice A1_0 l1_0.length c1_0] 26 (0,0))):=⟨h1_⟩
      have n2_:Aside0 (w17.heap[gb240]? = some (.cells #[.bool false,.slice none 0 0,.slice none 0 0] 83 (0,0))):=⟨h2_⟩
      have n3_:Aside0 (w17.heap[gb260]? = some (.cells #[.bool false,.slice none 0 0,.slice none 0 0] 83 (0,0))):=⟨h3_⟩
      have n4_:Aside0 (w.heap.size ≤ gb260):=⟨h4_⟩
      have n5_:Aside0 (w0.heap.size ≤ gb260):=⟨h5_⟩
      have n6_:Aside0 (g ≠ gb260):=⟨h6_⟩
      have n7_:Aside0 (gb260 ≠ g):=⟨h7_⟩
      have n8_:Aside0 (gb239 ≠ gb260):=⟨h8_⟩
      have n9_:Aside0 (gb260 ≠ gb239):=⟨h9_⟩
      have n10_:Aside0 (gb240 ≠ gb260):=⟨h10_⟩
      have n11_:Aside0 (gb260 ≠ gb240):=⟨h11_⟩
      have n12_:Aside0 (IsS60 w0 w17 g s0_0 t250 t251):=⟨h12_⟩
      have n13_:Aside0 (KeepBut w w17 g none):=⟨h13_⟩
      have n14_:Aside0 (Below w0.heap.size w0 w17):=⟨h14_⟩
      clear BK239
      clear BK240
      clear HI0
      clear HK
      clear HB
      clear h0_ h1_ h2_ h3_ h4_ h5_ h6_ h7_ h8_ h9_ h10_ h11_ h12_ h13_ h14_
      have HO249:=n0_
      have BK239:=n1_
      have BK240:=n2_
      have BK260:=n3_
      have GW260:=n4_
      have GE260:=n5_
      have NB0_260:=n6_
      have NB260_0:=n7_
      have NB239_260:=n8_
      have NB260_239:=n9_
      have NB240_260:=n10_
      have NB260_240:=n11_
      have HI0:=n12_
      have HK:=n13_
      have HB:=n14_
      clear n0_ n1_ n2_ n3_ n4_ n5_ n6_ n7_ n8_ n9_ n10_ n11_ n12_ n13_ n14_
      have hHeld:w17.cell? ⟨gb239,0,none⟩ = some (.slice A1_0 l1_0.length c1_0):=hS_
      refine norm_ (a':=?_) ?_ ?_
      rotate_left
      ·simp only [putAll,Act.put,List.setIfInBounds_toArray,List.set_cons_zero,List.set_cons_succ]
       rfl
      refine oN 12 (some 18) (bs 18 73727) HT_ fun K hK=>?_
      refine goes_ Try.func73 (by kernel_rfl) rfl #[.pointer (some ⟨g,0,none⟩),.int .i64 2] (by rfl) rfl rfl Ya ?_
      with_reducible refine (spec_l1Cur_pick.calls g s0_0 t250 t251 2 t252 t253 t254 w0 _ ?side1 ?side2 A6.out).mono ?_
      (case side1=>exact iIsS60)
      (case side2=>exact bH)
      rintro e w18 ⟨rfl,hi,hb,hk⟩
      refine ⟨_,rfl,?_⟩
      replace BK239:=kU hk NB239_0 (bB BK239);replace BK240:=kU hk NB240_0 (bB BK240);replace HO249:=Aside0.mk (Kd.R_mono (Kd.R_keep (IsS60.apart (show IsS60 w0 _ g s0_0 t250 t251 from iIsS60) (rR HO249) (by decide)) hk (fun _ h=>h.2)) (fun _ h=>h.1));replace BK260:=kU hk NB260_0 (bB BK260);replace HK:=Aside0.mk (KeepBut.trans kB hk (.inl rfl));replace HB:=Aside0.mk (hb);replace HI0:=Aside0.mk (hi)
      (try clear hb);(try clear hk);(try clear hi)
      refine hK.out _ _ ((blk_cell BK239.out 0).trans rfl) (fun hHeld=>?_)
      clear hK K
      refine nM (N:=some 18) ?_
      refine pV 13 (some 19) (bs 18 81919) HT_ ?_
      exact norm_ Ye (hJ1_6_8_12_16 (v248,gb260) _ ⟨hHeld,(rR HO249),(bB BK239),(bB BK240),(bB BK260),GW260.out,GE260.out,NB0_260.out,NB260_0.out,NB239_260.out,NB260_239.out,NB240_260.out,NB260_240.out,iIsS60,kB,bH⟩)
    ·skip
     rintro v248 w17 ⟨hS_,h0_,h1_,h2_,h3_,h4_,h5_⟩
     have n0_:Aside0 (Kd.R (Kd.int .i64) 3 w17 w.heap.size (fun _=>True) v248 t247):=⟨h0_⟩
     have n1_:Aside0 (w17.heap[gb239]? = some (.cells #[.slice A1_0 l1_0.length c1_0] 26 (0,0))):=⟨h1_⟩
     have n2_:Aside0 (w17.heap[gb240]? = some (.cells #[.bool false,.slice none 0 0,.slice none 0 0] 83 (0,0))):=⟨h2_⟩
     have n3_:Aside0 (IsS60 w0 w17 g s0_0 t253 t254):=⟨h3_⟩
     have n4_:Aside0 (KeepBut w w17 g none):=⟨h4_⟩
     have n5_:Aside0 (Below w0.heap.size w0 w17):=⟨h5_⟩
     clear BK239
     clear BK240
     clear HI0
     clear HK
     clear HB
     clear h0_ h1_ h2_ h3_ h4_ h5_
     have HO249:=n0_
     have BK239:=n1_
     have BK240:=n2_
     have HI0:=n3_
     have HK:=n4_
     have HB:=n5_
     clear n0_ n1_ n2_ n3_ n4_ n5_
     have hHeld:w17.cell? ⟨gb239,0,none⟩ = some (.slice A1_0 l1_0.length c1_0):=hS_
     refine norm_ (a':=?_) ?_ ?_
     rotate_left
     ·simp only [putAll,Act.put,List.setIfInBounds_toArray,List.set_cons_zero,List.set_cons_succ]
      rfl
     refine two_ (i:=14) (j:=16) (Ni:=some 20) (Nj:=some 5) #[true,true,true,true,true,true,true,true,true,true,true,true,true,true,true,false,false,false] #[true,true,true,true,true,true,true,true,true,true,true,true,true,true,false,false,true,false] rfl rfl rfl rfl (two_of HT_.out (by kernel_rfl)) (by decide) (by decide) (fun K hK=>?_) (fun K hK=>?_)
     ·skip
      refine goes_ Try.func74 (by kernel_rfl) rfl #[.pointer (some ⟨g,0,none⟩),.agg #[.slice A1_0 l1_0.length c1_0],.int .i64 (wrap64 (1 + t252)),.int .i64 3] (by rfl) rfl rfl Ya ?_
      with_reducible refine (spec_l1Cur_term.calls k g s0_0 t253 t254 _ _ l1_0 (wrap64 (1 + t252)) 3 t255 t258 t259 w0 _ ?side1 ?side2 ?side3 ?side4 ?side5 A7.out).mono ?_
      (case side1=>exact iIsS60)
      (case side2=>exact bH)
      (case side3=>exact Za)
      (case side4=>exact HC1_0.out)
      (case side5=>exact hf1_0)
      rintro e w18 ⟨v256,rfl,ho0,hi,hb,hk⟩
      refine ⟨_,rfl,?_⟩
      replace BK239:=kU hk NB239_0 (bB BK239);replace BK240:=kU hk NB240_0 (bB BK240);have HO257:=Aside0.mk (Kd.R_lower (Kd.R_new' ho0 (Kd.R_lt (rR HO249))) (keep_size (w:=w) (g:=g) (row:=none) kB));replace HO249:=Aside0.mk (Kd.R_mono (Kd.R_told (Kd.R_oldK (IsS60.apart (show IsS60 w0 _ g s0_0 t253 t254 from iIsS60) (rR HO249) (by decide)) hk) (Kd.R_base ho0)) (fun _ h_=>h_.1));replace HK:=Aside0.mk (KeepBut.trans kB hk (.inl rfl));replace HB:=Aside0.mk (hb);replace HI0:=Aside0.mk (hi)
      (try clear hb);(try clear hk);(try clear hi);(try clear ho0)
      obtain ⟨Ao19,co19,eo19⟩:=Kd.R_slice HO257.out
      (first|subst eo19|(injection eo19 with f1_ f2_ f3_;have f4_:=f1_.symm;have f5_:=f3_.symm;clear f1_ f2_ f3_;subst f4_;subst f5_))
      obtain ⟨Ao20,co20,eo20⟩:=Kd.R_slice HO249.out
      (first|subst eo20|(injection eo20 with f1_ f2_ f3_;have f4_:=f1_.symm;have f5_:=f3_.symm;clear f1_ f2_ f3_;subst f4_;subst f5_))
      refine hK.out _ _ ((blk_cell BK239.out 0).trans rfl) (fun hHeld=>?_)
      clear hK K
      refine nM (N:=some 20) ?_
      refine pV 15 (some 21) (bs 18 65535) HT_ ?_
      exact norm_ Ye (hJ1_6_8_12_14 (.slice Ao20 t247.length co20,.slice Ao19 t255.length co19) _ ⟨hHeld,(by (with_reducible repeat (first|apply Kd.R_alloc|apply Kd.R_drewN|apply Kd.R_drew));exact Kd.R_mono HO249.out (fun _ hk=>hk.2)),(by (with_reducible repeat (first|apply Kd.R_alloc|apply Kd.R_drewN|apply Kd.R_drew));exact Kd.R_mono HO257.out (fun _ hk=>hk.2)),(bB BK239),(bB BK240),iIsS60,kB,bH⟩)
     ·skip
      refine box_step ?hg (N:=5) ?hd (cs:=#[.bool false,.slice none 0 0,.slice none 0 0]) (t:=83) ?hr ?_;(case hd=>rfl);(case hg=>rfl);(case hr=>exact Yc)
      intro gb260 hg w18 hbox hb
      replace HO249:=rB HO249 hb;replace HB:=bS hb;have BK260:=Aside0.mk (hbox);have GW260:=gY w gb260;have GE260:=gX HW0 GW260;replace HK:=kT w g hb;have NB239_260:=nl BK239 gb239 gb260;have NB260_239:=nr NB239_260;replace BK239:=bb BK239 hb;have NB240_260:=nl BK240 gb240 gb260;have NB260_240:=nr NB240_260;replace BK240:=bb BK240 hb;have NB0_260:=iN60 g gb260;have NB260_0:=nr NB0_260;replace HI0:=iB60 hb
      clear hb hbox hg
      refine hK.out _ _ ((blk_cell BK239.out 0).trans rfl) (fun hHeld=>?_)
      clear hK K
      refine nM (N:=some 5) ?_
      exact norm_ Ye (hJ1_6_8_12_16 (v248,gb260) _ ⟨hHeld,(rR HO249),(bB BK239),(bB BK240),(bB BK260),GW260.out,GE260.out,NB0_260.out,NB260_0.out,NB239_260.out,NB260_239.out,NB240_260.out,NB260_240.out,iIsS60,kB,bH⟩)
   ·skip
    rintro ⟨v248,gb260⟩ w18 ⟨hS_,h0_,h1_,h2_,h3_,h4_,h5_,h6_,h7_,h8_,h9_,h10_,h11_,h12_,h13_,h14_⟩
    have n0_:Aside0 (Kd.R (Kd.int .i64) 3 w18 w.heap.size (fun _=>True) v248 t247):=⟨h0_⟩
    have n1_:Aside0 (w18.heap[gb239]? = some (.cells #[.slice A1_0 l1_0.length c1_0] 26 (0,0))):=⟨h1_⟩
    have n2_:Aside0 (w18.heap[gb240]? = some (.cells #[.bool false,.slice none 0 0,.slice none 0 0] 83 (0,0))):=⟨h2_⟩
    have n3_:Aside0 (w18.heap[gb260]? = some (.cells #[.bool false,.slice none 0 0,.slice none 0 0] 83 (0,0))):=⟨h3_⟩
    have n4_:Aside0 (w.heap.size ≤ gb260):=⟨h4_⟩
    have n5_:Aside0 (w0.heap.size ≤ gb260):=⟨h5_⟩
    have n6_:Aside0 (g ≠ gb260):=⟨h6_⟩
    have n7_:Aside0 (gb260 ≠ g):=⟨h7_⟩
    have n8_:Aside0 (gb239 ≠ gb260):=⟨h8_⟩
    have n9_:Aside0 (gb260 ≠ gb239):=⟨h9_⟩
    have n10_:Aside0 (gb240 ≠ gb260):=⟨h10_⟩
    have n11_:Aside0 (gb260 ≠ gb240):=⟨h11_⟩
    have n12_:Aside0 (IsS60 w0 w18 g s0_0 t253 t254):=⟨h12_⟩
    have n13_:Aside0 (KeepBut w w18 g none):=⟨h13_⟩
    have n14_:Aside0 (Below w0.heap.size w0 w18):=⟨h14_⟩
    clear BK239
    clear BK240
    clear HI0
    clear HK
    clear HB
    clear h0_ h1_ h2_ h3_ h4_ h5_ h6_ h7_ h8_ h9_ h10_ h11_ h12_ h13_ h14_
    have HO249:=n0_
    have BK239:=n1_
    have BK240:=n2_
    have BK260:=n3_
    have GW260:=n4_
    have GE260:=n5_
    have NB0_260:=n6_
    have NB260_0:=n7_
    have NB239_260:=n8_
    have NB260_239:=n9_
    have NB240_260:=n10_
    have NB260_240:=n11_
    have HI0:=n12_
    have HK:=n13_
    have HB:=n14_
    clear n0_ n1_ n2_ n3_ n4_ n5_ n6_ n7_ n8_ n9_ n10_ n11_ n12_ n13_ n14_
    have hHeld:w18.cell? ⟨gb239,0,none⟩ = some (.slice A1_0 l1_0.length c1_0):=hS_
    refine norm_ (a':=?_) ?_ ?_
    rotate_left
    ·simp only [putAll,Act.put,List.setIfInBounds_toArray,List.set_cons_zero,List.set_cons_succ]
     rfl
    refine oN 14 (some 20) (bs 18 98303) HT_ fun K hK=>?_
    refine goes_ Try.func74 (by kernel_rfl) rfl #[.pointer (some ⟨g,0,none⟩),.agg #[.slice A1_0 l1_0.length c1_0],.int .i64 (wrap64 (1 + t252)),.int .i64 3] (by rfl) rfl rfl Ya ?_
    with_reducible refine (spec_l1Cur_term.calls k g s0_0 t253 t254 _ _ l1_0 (wrap64 (1 + t252)) 3 t255 t258 t259 w0 _ ?side1 ?side2 ?side3 ?side4 ?side5 A7.out).mono ?_
    (case side1=>exact iIsS60)
    (case side2=>exact bH)
    (case side3=>exact Za)
    (case side4=>exact HC1_0.out)
    (case side5=>exact hf1_0)
    rintro e w19 ⟨v256,rfl,ho0,hi,hb,hk⟩
    refine ⟨_,rfl,?_⟩
    replace BK239:=kU hk NB239_0 (bB BK239);replace BK240:=kU hk NB240_0 (bB BK240);replace BK260:=kU hk NB260_0 (bB BK260);have HO257:=Aside0.mk (Kd.R_lower (Kd.R_new' ho0 (Kd.R_lt (rR HO249))) (keep_size (w:=w) (g:=g) (row:=none) kB));replace HO249:=Aside0.mk (Kd.R_mono (Kd.R_told (Kd.R_oldK (IsS60.apart (show IsS60 w0 _ g s0_0 t253 t254 from iIsS60) (rR HO249) (by decide)) hk) (Kd.R_base ho0)) (fun _ h_=>h_.1));replace HK:=Aside0.mk (KeepBut.trans kB hk (.inl rfl));replace HB:=Aside0.mk (hb);replace HI0:=Aside0.mk (hi)
    (try clear hb);(try clear hk);(try clear hi);(try clear ho0)
    obtain ⟨Ao20,co20,eo20⟩:=Kd.R_slice HO257.out
    (first|subst eo20|(injection eo20 with f1_ f2_ f3_;have f4_:=f1_.symm;have f5_:=f3_.symm;clear f1_ f2_ f3_;subst f4_;subst f5_))
    obtain ⟨Ao21,co21,eo21⟩:=Kd.R_slice HO249.out
    (first|subst eo21|(injection eo21 with f1_ f2_ f3_;have f4_:=f1_.symm;have f5_:=f3_.symm;clear f1_ f2_ f3_;subst f4_;subst f5_))
    refine hK.out _ _ ((blk_cell BK239.out 0).trans rfl) (fun hHeld=>?_)
    clear hK K
    refine nM (N:=some 20) ?_
    refine pV 15 (some 21) (bs 18 131071) HT_ ?_
    exact norm_ Ye (hJ1_6_8_12_14_16 (.slice Ao21 t247.length co21,.slice Ao20 t255.length co20,gb260) _ ⟨hHeld,(by (with_reducible repeat (first|apply Kd.R_alloc|apply Kd.R_drewN|apply Kd.R_drew));exact Kd.R_mono HO249.out (fun _ hk=>hk.2)),(by (with_reducible repeat (first|apply Kd.R_alloc|apply Kd.R_drewN|apply Kd.R_drew));exact Kd.R_mono HO257.out (fun _ hk=>hk.2)),(bB BK239),(bB BK240),(bB BK260),GW260.out,GE260.out,NB0_260.out,NB260_0.out,NB239_260.out,NB260_239.out,NB240_260.out,NB260_240.out,iIsS60,kB,bH⟩)
  ·skip
   rintro ⟨v248,v256⟩ w20 ⟨hS_,h0_,h1_,h2_,h3_,h4_,h5_,h6_⟩
   have n0_:Aside0 (Kd.R (Kd.int .i64) 3 w20 w.heap.size (fun k_=>some k_ ≠ (v256:Value).ownBlock) v248 t247):=⟨h0_⟩
   have n1_:Aside0 (Kd.R (Kd.int .i64) 3 w20 w.heap.size (fun k_=>some k_ ≠ (v248:Value).ownBlock) v256 t255):=⟨h1_⟩
   have n2_:Aside0 (w20.heap[gb239]? = some (.cells #[.slice A1_0 l1_0.length c1_0] 26 (0,0))):=⟨h2_⟩
   have n3_:Aside0 (w20.heap[gb240]? = some (.cells #[.bool false,.slice none 0 0,.slice none 0 0] 83 (0,0))):=⟨h3_⟩
   have n4_:Aside0 (IsS60 w0 w20 g s0_0 t258 t259):=⟨h4_⟩
   have n5_:Aside0 (KeepBut w w20 g none):=⟨h5_⟩
   have n6_:Aside0 (Below w0.heap.size w0 w20):=⟨h6_⟩
   clear BK239
   clear BK240
   clear HI0
   clear HK
   clear HB
   clear h0_ h1_ h2_ h3_ h4_ h5_ h6_
   have HO249:=n0_
   have HO257:=n1_
   have BK239:=n2_
   have BK240:=n3_
   have HI0:=n4_
   have HK:=n5_
   have HB:=n6_
   clear n0_ n1_ n2_ n3_ n4_ n5_ n6_
   have hHeld:w20.cell? ⟨gb239,0,none⟩ = some (.slice A1_0 l1_0.length c1_0):=hS_
   obtain ⟨Ao21,co21,eo21⟩:=Kd.R_slice HO257.out
   (first|subst eo21|(injection eo21 with f1_ f2_ f3_;have f4_:=f1_.symm;have f5_:=f3_.symm;clear f1_ f2_ f3_;subst f4_;subst f5_))
   obtain ⟨Ao22,co22,eo22⟩:=Kd.R_slice HO249.out
   (first|subst eo22|(injection eo22 with f1_ f2_ f3_;have f4_:=f1_.symm;have f5_:=f3_.symm;clear f1_ f2_ f3_;subst f4_;subst f5_))
   refine norm_ (a':=?_) ?_ ?_
   rotate_left
   ·simp only [putAll,Act.put,List.setIfInBounds_toArray,List.set_cons_zero,List.set_cons_succ]
    rfl
   refine oN 16 (some 5) (bs 18 131071) HT_ fun K hK=>?_
   refine box_step ?hg (N:=5) ?hd (cs:=#[.bool false,.slice none 0 0,.slice none 0 0]) (t:=83) ?hr ?_;(case hd=>rfl);(case hg=>rfl);(case hr=>exact Yc)
   intro gb260 hg w23 hbox hb
   replace HO249:=rB HO249 hb;replace HO257:=rB HO257 hb;replace HB:=bS hb;have BK260:=Aside0.mk (hbox);have GW260:=gY w gb260;have GE260:=gX HW0 GW260;replace HK:=kT w g hb;have NB239_260:=nl BK239 gb239 gb260;have NB260_239:=nr NB239_260;replace BK239:=bb BK239 hb;have NB240_260:=nl BK240 gb240 gb260;have NB260_240:=nr NB240_260;replace BK240:=bb BK240 hb;have NB0_260:=iN60 g gb260;have NB260_0:=nr NB0_260;replace HI0:=iB60 hb
   clear hb hbox hg
   refine hK.out _ _ ((blk_cell BK239.out 0).trans rfl) (fun hHeld=>?_)
   clear hK K
   refine nM (N:=some 5) ?_
   exact norm_ Ye (hJ1_6_8_12_14_16 (.slice Ao22 t247.length co22,.slice Ao21 t255.length co21,gb260) _ ⟨hHeld,(rR HO249),(rR HO257),(bB BK239),(bB BK240),(bB BK260),GW260.out,GE260.out,NB0_260.out,NB260_0.out,NB239_260.out,NB260_239.out,NB240_260.out,NB260_240.out,iIsS60,kB,bH⟩)
 rintro ⟨v248,v256,gb260⟩ w21 ⟨hS_,h0_,h1_,h2_,h3_,h4_,h5_,h6_,h7_,h8_,h9_,h10_,h11_,h12_,h13_,h14_,h15_⟩
 have n0_:Aside0 (Kd.R (Kd.int .i64) 3 w21 w.heap.size (fun k_=>some k_ ≠ (v256:Value).ownBlock) v248 t247):=⟨h0_⟩
 have n1_:Aside0 (Kd.R (Kd.int .i64) 3 w21 w.heap.size (fun k_=>some k_ ≠ (v248:Value).ownBlock) v256 t255):=⟨h1_⟩
 have n2_:Aside0 (w21.heap[gb239]? = some (.cells #[.slice A1_0 l1_0.length c1_0] 26 (0,0))):=⟨h2_⟩
 have n3_:Aside0 (w21.heap[gb240]? = some (.cells #[.bool false,.slice none 0 0,.slice none 0 0] 83 (0,0))):=⟨h3_⟩
 have n4_:Aside0 (w21.heap[gb260]? = some (.cells #[.bool false,.slice none 0 0,.slice none 0 0] 83 (0,0))):=⟨h4_⟩
 have n5_:Aside0 (w.heap.size ≤ gb260):=⟨h5_⟩
 have n6_:Aside0 (w0.heap.size ≤ gb260):=⟨h6_⟩
 have n7_:Aside0 (g ≠ gb260):=⟨h7_⟩
 have n8_:Aside0 (gb260 ≠ g):=⟨h8_⟩
 have n9_:Aside0 (gb239 ≠ gb260):=⟨h9_⟩
 have n10_:Aside0 (gb260 ≠ gb239):=⟨h10_⟩
 have n11_:Aside0 (gb240 ≠ gb260):=⟨h11_⟩
 have n12_:Aside0 (gb260 ≠ gb240):=⟨h12_⟩
 have n13_:Aside0 (IsS60 w0 w21 g s0_0 t258 t259):=⟨h13_⟩
 have n14_:Aside0 (KeepBut w w21 g none):=⟨h14_⟩
 have n15_:Aside0 (Below w0.heap.size w0 w21):=⟨h15_⟩
 clear BK239
 clear BK240
 clear HI0
 clear HK
 clear HB
 clear h0_ h1_ h2_ h3_ h4_ h5_ h6_ h7_ h8_ h9_ h10_ h11_ h12_ h13_ h14_ h15_
 have HO249:=n0_
 have HO257:=n1_
 have BK239:=n2_
 have BK240:=n3_
 have BK260:=n4_
 have GW260:=n5_
 have GE260:=n6_
 have NB0_260:=n7_
 have NB260_0:=n8_
 have NB239_260:=n9_
 have NB260_239:=n10_
 have NB240_260:=n11_
 have NB260_240:=n12_
 have HI0:=n13_
 have HK:=n14_
 have HB:=n15_
 clear n0_ n1_ n2_ n3_ n4_ n5_ n6_ n7_ n8_ n9_ n10_ n11_ n12_ n13_ n14_ n15_
 have hHeld:w21.cell? ⟨gb239,0,none⟩ = some (.slice A1_0 l1_0.length c1_0):=hS_
 obtain ⟨Ao22,co22,eo22⟩:=Kd.R_slice HO257.out
 (first|subst eo22|(injection eo22 with f1_ f2_ f3_;have f4_:=f1_.symm;have f5_:=f3_.symm;clear f1_ f2_ f3_;subst f4_;subst f5_))
 obtain ⟨Ao23,co23,eo23⟩:=Kd.R_slice HO249.out
 (first|subst eo23|(injection eo23 with f1_ f2_ f3_;have f4_:=f1_.symm;have f5_:=f3_.symm;clear f1_ f2_ f3_;subst f4_;subst f5_))
 refine norm_ (a':=?_) ?_ ?_
 rotate_left
 ·simp only [putAll,Act.put,List.setIfInBounds_toArray,List.set_cons_zero,List.set_cons_succ]
  rfl
 refine oN 17 (none) (bs 18 262143) HT_ fun K hK=>?_
 have hs24:=qc3_0 BK260
 have hfs24:=fz BK260 0
 have hns24_0:=NB239_260.out
 have hns24_1:=NB240_260.out
 have hms24_0:=NB260_239.out
 have hms24_1:=NB260_240.out
 have hs25:=qc3_1 BK260
 have hfs25:=fz BK260 1
 have hns25_0:=NB239_260.out
 have hns25_1:=NB240_260.out
 have hms25_0:=NB260_239.out
 have hms25_1:=NB260_240.out
 have hs26:=qc3_2 BK260
 have hfs26:=fz BK260 2
 have hns26_0:=NB239_260.out
 have hns26_1:=NB240_260.out
 have hms26_0:=NB260_239.out
 have hms26_1:=NB260_240.out
 refine skip_ (w1:=?_) (by rfl) rfl ?_ ?_
 rotate_left
 ·go_simp
  rfl
 refine hK.out _ _ (((cell_far (p:=⟨gb260,_,none⟩) NB239_260.out _).trans (((cell_far (p:=⟨gb260,_,none⟩) NB239_260.out _).trans (((cell_far (p:=⟨gb260,_,none⟩) NB239_260.out _).trans (hHeld))))))) (fun hHeld=>?_)
 clear hK K
 refine done_ (done_of HT_.out (by kernel_rfl)) ?_
 have H:=HLATE.out
 clear HLATE
 by_cases c9:t261 = true
 ·subst c9
  replace H:=pT H
  obtain ⟨y264,hy264⟩:∃ y_:List Int,y_ = (([0]:List Int)):=⟨_,rfl⟩
  replace H:(some (!t241,t247,y264,t262,t263)) = some (r1,r2,r3,r4,r5):=by first|(rw [hy264];with_reducible exact H)|(have H2_:=(Option.bind_some _ _).symm.trans H;rw [hy264];with_reducible exact H2_)|(have H2_:=(Option.bind_some _ _).symm.trans H;with_reducible exact H2_)|with_reducible exact H|(rw [hy264];exact H)|exact H
  have Ny264:=Aside0.mk hy264
  clear hy264
  simp only [Option.some.injEq,Prod.mk.injEq] at H
  obtain ⟨rfl,rfl,rfl,rfl,rfl⟩:=H
  try go_wp2_with (first|((with_reducible refine gate_callee (f:=75) rfl ?_);refine goesL_ (some 23) rfl rfl Try.func75 (by kernel_rfl) rfl #[.pointer (some ⟨g,0,none⟩),.int .i64 3] rfl Ya ?_;(with_reducible refine (spec_l1Cur_one.calls g s0_0 t258 t259 3 true t262 t263 w0 _ ?side1 ?side2 A8.out).mono ?_);(case side1=>exact iIsS60);(case side2=>exact bH);rintro e w27 ⟨rfl,hi,hb,hk⟩;refine ⟨_,rfl,?_⟩;replace BK239:=kU (o:=.cells #[.slice A1_0 l1_0.length c1_0] 26 (0,0)) hk NB239_0 YA;replace BK240:=kU (o:=.cells #[.bool false,.slice none 0 0,.slice none 0 0] 83 (0,0)) hk NB240_0 Yz;replace HO249:=Aside0.mk (Kd.R_mono (Kd.R_keep (IsS60.apart (show IsS60 w0 _ g s0_0 t258 t259 from iIsS60) YE (by decide)) hk (fun _ h=>h.2)) (fun _ h=>h.1));replace HO257:=Aside0.mk (Kd.R_mono (Kd.R_keep (IsS60.apart (show IsS60 w0 _ g s0_0 t258 t259 from iIsS60) YD (by decide)) hk (fun _ h=>h.2)) (fun _ h=>h.1));replace BK260:=kU (o:=.cells #[.bool (!t241),.slice Ao23 t247.length co23,.slice Ao22 t255.length co22] 83 (0,0)) hk NB260_0 Yv;replace HK:=Aside0.mk (KeepBut.trans kB hk (.inl rfl));replace HB:=Aside0.mk (hb);replace HI0:=Aside0.mk (hi);clear hb hk hi)|((with_reducible refine gate_dst (N:=24) rfl ?_);refine Kd.R_lit (Kd.int .i64) _ 3 ?hg (N:=24) ?hd (xs:=([0]:List Int)) (inner:=[.int .i64 0]) (ok:=fun _=>True) (okp:=fun _=>True) ?hr ?hp (fun _ hk=>hk) trivial (Below.refl _ _) (Nat.le_refl _) (by simp) ?_;(case hd=>rfl);(case hg=>rfl);(case hr=>exact Yc);(case hp=>exact YS);intro v265 w28 ho29 hb hg_ hnew_;clear hg_ hnew_;(first|rw [← Ny264.out] at ho29|(simp only [Int.reduceToNat] at ho29;rw [← Ny264.out] at ho29));have HO266:=Aside0.mk (Kd.R_lower (Kd.R_new' (Kd.R_new' ho29 (Kd.R_lt (rR HO249))) (Kd.R_lt (rR HO257))) (keep_size (w:=w) (g:=g) (row:=none) kB));replace HO249:=Aside0.mk (Kd.R_elder' (rR HO249) (Kd.R_base ho29) hb);replace HO257:=Aside0.mk (Kd.R_elder' (rR HO257) (Kd.R_base ho29) hb);replace BK239:=bb BK239 hb;replace BK240:=bb BK240 hb;replace BK260:=bb BK260 hb;replace HK:=kT w g hb;replace HB:=bS hb;replace HI0:=iB60 hb;clear hb ho29;obtain ⟨Ao30,co30,eo30⟩:=Kd.R_slice HO266.out;subst eo30;have hnb31:=NB260_239.out;have hnc31:=NB239_260.out;have hnb32:=NB260_240.out;have hnc32:=NB240_260.out;have hnb33:=NB260_0.out;have hnc33:=NB0_260.out;have hcz34_0:=qc3_0 BK260;have hcz34_1:=qc3_1 BK260;have hcz34_2:=qc3_2 BK260;have hfz34_0:=fz BK260 0;have hfz34_1:=fz BK260 1;have hfz34_2:=fz BK260 2;have hnb35:=NB240_239.out;have hnc35:=NB239_240.out;have hnb36:=NB240_0.out;have hnc36:=NB0_240.out;have hcz37_0:=qc3_0 BK240;have hcz37_1:=qc3_1 BK240;have hcz37_2:=qc3_2 BK240;have hfz37_0:=fz BK240 0;have hfz37_1:=fz BK240 1;have hfz37_2:=fz BK240 2))
  refine bodyPost_ret (results_cell_row rfl _ _ gb240 83 #[.bool (!t241),.slice Ao23 t247.length co23,.slice Ao30 y264.length co30] (0,0) _ rfl (by (with_reducible repeat (first|refine blk_drewN ?_ _|refine blk_drew ?_|refine blk_alloc ?_ _));refine blk_put (cs:=#[.bool (!t241),.slice Ao23 t247.length co23,.slice none 0 0]) ?_ 2 _ rfl;(with_reducible repeat (first|refine blk_drewN ?_ _|refine blk_drew ?_|refine blk_alloc ?_ _));refine blk_put (cs:=#[.bool (!t241),.slice none 0 0,.slice none 0 0]) ?_ 1 _ rfl;(with_reducible repeat (first|refine blk_drewN ?_ _|refine blk_drew ?_|refine blk_alloc ?_ _));refine blk_put (cs:=#[.bool false,.slice none 0 0,.slice none 0 0]) ?_ 0 _ rfl;(with_reducible repeat (first|refine blk_drewN ?_ _|refine blk_drew ?_|refine blk_alloc ?_ _));refine blk_far ?_ NB240_260.out _;(with_reducible repeat (first|refine blk_drewN ?_ _|refine blk_drew ?_|refine blk_alloc ?_ _));exact BK240.out) Try.underlying83 rfl (by kernel_rfl)) rfl ?_
  exact ⟨_,_,Yb,by (with_reducible repeat (first|apply Kd.R_alloc|apply Kd.R_drewN|apply Kd.R_drew));exact Kd.R_mono (Kd.R_far (p:=⟨gb240,2,none⟩) (Kd.R_far (p:=⟨gb240,1,none⟩) (Kd.R_far (p:=⟨gb240,0,none⟩) (Kd.R_far (p:=⟨gb260,2,none⟩) (Kd.R_types (Kd.R_types HO249.out BK260.out (by decide)) BK240.out (by decide)) (fun _ hk=>hk.1.2) (.slice Ao30 y264.length co30)) (fun _ hk=>hk.2) (.bool (!t241))) (fun _ hk=>hk.2) (.slice Ao23 t247.length co23)) (fun _ hk=>hk.2) (.slice Ao30 y264.length co30)) (fun _ hk=>hk.1.1.2),by (with_reducible repeat (first|apply Kd.R_alloc|apply Kd.R_drewN|apply Kd.R_drew));exact Kd.R_mono (Kd.R_far (p:=⟨gb240,2,none⟩) (Kd.R_far (p:=⟨gb240,1,none⟩) (Kd.R_far (p:=⟨gb240,0,none⟩) (Kd.R_far (p:=⟨gb260,2,none⟩) (Kd.R_types (Kd.R_types HO266.out BK260.out (by decide)) BK240.out (by decide)) (fun _ hk=>hk.1.2) (.slice Ao30 y264.length co30)) (fun _ hk=>hk.2) (.bool (!t241))) (fun _ hk=>hk.2) (.slice Ao23 t247.length co23)) (fun _ hk=>hk.2) (.slice Ao30 y264.length co30)) (fun _ hk=>hk.1.1.1.2),iIsS60,bH,kB⟩
 ·replace c9:=Bool.eq_false_iff.mpr c9
  subst c9
  replace H:=pF H
  simp only [Option.some.injEq,Prod.mk.injEq] at H
  obtain ⟨rfl,rfl,rfl,rfl,rfl⟩:=H
  try go_wp2_with (first|((with_reducible refine gate_callee (f:=75) rfl ?_);refine goesL_ (some 23) rfl rfl Try.func75 (by kernel_rfl) rfl #[.pointer (some ⟨g,0,none⟩),.int .i64 3] rfl Ya ?_;(with_reducible refine (spec_l1Cur_one.calls g s0_0 t258 t259 3 false t262 t263 w0 _ ?side1 ?side2 A8.out).mono ?_);(case side1=>exact iIsS60);(case side2=>exact bH);rintro e w55 ⟨rfl,hi,hb,hk⟩;refine ⟨_,rfl,?_⟩;replace BK239:=kU (o:=.cells #[.slice A1_0 l1_0.length c1_0] 26 (0,0)) hk NB239_0 YA;replace BK240:=kU (o:=.cells #[.bool false,.slice none 0 0,.slice none 0 0] 83 (0,0)) hk NB240_0 Yz;replace HO249:=Aside0.mk (Kd.R_mono (Kd.R_keep (IsS60.apart (show IsS60 w0 _ g s0_0 t258 t259 from iIsS60) YE (by decide)) hk (fun _ h=>h.2)) (fun _ h=>h.1));replace HO257:=Aside0.mk (Kd.R_mono (Kd.R_keep (IsS60.apart (show IsS60 w0 _ g s0_0 t258 t259 from iIsS60) YD (by decide)) hk (fun _ h=>h.2)) (fun _ h=>h.1));replace BK260:=kU (o:=.cells #[.bool (!t241),.slice Ao23 t247.length co23,.slice Ao22 t255.length co22] 83 (0,0)) hk NB260_0 Yv;replace HK:=Aside0.mk (KeepBut.trans kB hk (.inl rfl));replace HB:=Aside0.mk (hb);replace HI0:=Aside0.mk (hi);(try clear hb);(try clear hb2);(try clear hk);(try clear hi);have hnb56:=NB260_239.out;have hnc56:=NB239_260.out;have hnb57:=NB260_240.out;have hnc57:=NB240_260.out;have hnb58:=NB260_0.out;have hnc58:=NB0_260.out;have hcz59_0:=qc3_0 BK260;have hcz59_1:=qc3_1 BK260;have hcz59_2:=qc3_2 BK260;have hfz59_0:=fz BK260 0;have hfz59_1:=fz BK260 1;have hfz59_2:=fz BK260 2;have hnb60:=NB240_239.out;have hnc60:=NB239_240.out;have hnb61:=NB240_0.out;have hnc61:=NB0_240.out;have hcz62_0:=qc3_0 BK240;have hcz62_1:=qc3_1 BK240;have hcz62_2:=qc3_2 BK240;have hfz62_0:=fz BK240 0;have hfz62_1:=fz BK240 1;have hfz62_2:=fz BK240 2))
  refine bodyPost_ret (results_cell_row rfl _ _ gb240 83 #[.bool (!t241),.slice Ao23 t247.length co23,.slice Ao22 t255.length co22] (0,0) _ rfl (by (with_reducible repeat (first|refine blk_drewN ?_ _|refine blk_drew ?_|refine blk_alloc ?_ _));refine blk_put (cs:=#[.bool (!t241),.slice Ao23 t247.length co23,.slice none 0 0]) ?_ 2 _ rfl;(with_reducible repeat (first|refine blk_drewN ?_ _|refine blk_drew ?_|refine blk_alloc ?_ _));refine blk_put (cs:=#[.bool (!t241),.slice none 0 0,.slice none 0 0]) ?_ 1 _ rfl;(with_reducible repeat (first|refine blk_drewN ?_ _|refine blk_drew ?_|refine blk_alloc ?_ _));refine blk_put (cs:=#[.bool false,.slice none 0 0,.slice none 0 0]) ?_ 0 _ rfl;(with_reducible repeat (first|refine blk_drewN ?_ _|refine blk_drew ?_|refine blk_alloc ?_ _));exact BK240.out) Try.underlying83 rfl (by kernel_rfl)) rfl ?_
  exact ⟨_,_,Yb,by (with_reducible repeat (first|apply Kd.R_alloc|apply Kd.R_drewN|apply Kd.R_drew));exact Kd.R_mono (Kd.R_far (p:=⟨gb240,2,none⟩) (Kd.R_far (p:=⟨gb240,1,none⟩) (Kd.R_far (p:=⟨gb240,0,none⟩) (Kd.R_types HO249.out BK240.out (by decide)) (fun _ hk=>hk.2) (.bool (!t241))) (fun _ hk=>hk.2) (.slice Ao23 t247.length co23)) (fun _ hk=>hk.2) (.slice Ao22 t255.length co22)) (fun _ hk=>hk.1),by (with_reducible repeat (first|apply Kd.R_alloc|apply Kd.R_drewN|apply Kd.R_drew));exact Kd.R_mono (Kd.R_far (p:=⟨gb240,2,none⟩) (Kd.R_far (p:=⟨gb240,1,none⟩) (Kd.R_far (p:=⟨gb240,0,none⟩) (Kd.R_types HO257.out BK240.out (by decide)) (fun _ hk=>hk.2) (.bool (!t241))) (fun _ hk=>hk.2) (.slice Ao23 t247.length co23)) (fun _ hk=>hk.2) (.slice Ao22 t255.length co22)) (fun _ hk=>hk.1),iIsS60,bH,kB⟩

end Go.Proofs.Ytmgkflkfoccgkaa.QFnTidied
