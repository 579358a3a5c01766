-- Written by this session's own program (wip/x/xprint.py, over the kit's printer); Lean checks it.
import Derived.Test.YtmgkflkfoccgkaaQFnPutForx0
namespace Go.Proofs.Ytmgkflkfoccgkaa.QFnPutFor
open Go.RowKit Go.Proofs.YtmgkflkfoccgkaaW.PrintWords Go.Proofs.YtmgkflkfoccgkaaW.PrintLast Go.Proofs.YtmgkflkfoccgkaaW.PrintMore
attribute [local go_sem] max2_int min2_int max_two min_two max_three min_three max_four min_four   -- for this text's walks alone
set_option linter.unusedVariables false
set_option linter.unusedSimpArgs false

/-! ### laws_big: function 5 -/
def laws_big.f (l0:List Int) (l1:List Int):Option (Bool):=if (l0.length:Int) > 1048576 then (some true) else (some (decide ((l1.length:Int) > (wrap64 (1048576 - (l0.length:Int))))))
set_option maxHeartbeats 8000000 in
set_option maxRecDepth 100000 in
theorem laws_big.calls (A0:Option Addr) (c0:Nat) (l0:List Int) (A1:Option Addr) (c1:Nat) (l1:List Int) (r:Bool) (w:World) (hr0:Kd.C (Kd.int .u8) w A0 l0.length l0) (hc0:l0.length ≤ c0) (hr1:Kd.C (Kd.int .u8) w A1 l1.length l1) (hc1:l1.length ≤ c1) (h:laws_big.f l0 l1 = some r) :
  Calls Try.prog 5 #[.slice A0 l0.length c0,.slice A1 l1.length c1] w fun e w'=>e = .returned (.bool r) ∧ Drawn0 w w':=by
 have HR0:=Aside0.mk hr0
 have HC0:=Aside0.mk hc0
 clear hr0 hc0
 have HR1:=Aside0.mk hr1
 have HC1:=Aside0.mk hc1
 clear hr1 hc1
 have H:(if (l0.length:Int) > 1048576 then (some true) else (some (decide ((l1.length:Int) > (wrap64 (1048576 - (l0.length:Int))))))) = some r:=h
 clear h
 by_cases c3:(l0.length:Int) > 1048576
 ·rw [if_pos c3] at H
  have c3b0:decide (1048576 < (l0.length:Int)) = true:=decide_eq_true c3
  have c3b1:decide (1048576 < l0.length) = true:=decide_eq_true (by omega)
  clear c3
  obtain rfl:=Option.some.inj H
  go_enter Try.func5,Try.ntmps5
  go_wp2
  go_ret
  exact ⟨Ye,Yk⟩
 ·rw [if_neg c3] at H
  have c3b0:decide (1048576 < (l0.length:Int)) = false:=decide_eq_false c3
  have c3b1:decide (1048576 < l0.length) = false:=decide_eq_false (by omega)
  clear c3
  obtain rfl:=Option.some.inj H
  go_enter Try.func5,Try.ntmps5
  go_wp2
  go_ret
  exact ⟨Ye,Yk⟩

/-- A state of type 60 at block g of W; what its slices lead to came in by w0. -/
def IsS60 (w0 W:World) (g:Nat) (f0:List Int) (f1:Int) (f2:Int):Prop:=∃ A0 c0,W.heap[g]? = some (.cells #[.slice A0 f0.length c0,.int .i64 f1,.int .u64 f2] 60 (0,0)) ∧ w0.heap.size ≤ g ∧ Kd.C (Kd.int .u8) w0 A0 f0.length f0
theorem IsS60.grown {w0 W:World} {g:Nat} {f0:List Int} {f1:Int} {f2:Int} {W1:World} {row:Option Nat} (h:IsS60 w0 W g f0 f1 f2) (hw:W.grownBy W1 row) (hne:some g ≠ row):IsS60 w0 W1 g f0 f1 f2:=by
 obtain ⟨A0,c0,hb,hg,hr0⟩:=h
 exact ⟨A0,c0,blk_grown hb hw hne,hg,hr0⟩
theorem IsS60.own_neN {w0 W:World} {g:Nat} {f0:List Int} {f1:Int} {f2:Int} {α:Type} {d:Kd α} {e:Nat} {base:Nat} {ok:Nat → Prop} {v:Value} {xs:List α} (h:IsS60 w0 W g f0 f1 f2) (ho:Kd.N d e W base ok v xs) (ht:e ≠ 60):some g ≠ v.ownBlock:=by
 obtain ⟨A0,c0,hb,hg,hr0⟩:=h
 exact Kd.N_ne ho hb ht
theorem IsS60.fresh {w0 W:World} {g:Nat} {f0:List Int} {f1:Int} {f2:Int} (h:IsS60 w0 W g f0 f1 f2):∀ k,W.heap.size ≤ k → k ≠ g:=by
 obtain ⟨A0,c0,hb,hg,hr0⟩:=h
 exact Kd.freshB hb
theorem IsS60.kept {w0 W:World} {g:Nat} {f0:List Int} {f1:Int} {f2:Int} {W1:World} {S:Nat → Prop} (h:IsS60 w0 W g f0 f1 f2) (hk:Kept W W1 S) (hne:¬ S g):IsS60 w0 W1 g f0 f1 f2:=by
 obtain ⟨A0,c0,hb,hg,hr0⟩:=h
 exact ⟨A0,c0,blk_kept hb hk hne,hg,hr0⟩
theorem IsS60.below {w0 W:World} {g:Nat} {f0:List Int} {f1:Int} {f2:Int} {W1:World} (h:IsS60 w0 W g f0 f1 f2) (hw:Below W.heap.size W W1):IsS60 w0 W1 g f0 f1 f2:=h.grown (grown_of_below hw none) (by simp)
theorem IsS60.alloc {w0 W:World} {g:Nat} {f0:List Int} {f1:Int} {f2:Int} (h:IsS60 w0 W g f0 f1 f2) (o:Obj):IsS60 w0 (W.alloc o) g f0 f1 f2:=h.below (below_alloc (Below.refl _ _) o)
theorem IsS60.drewN {w0 W:World} {g:Nat} {f0:List Int} {f1:Int} {f2:Int} (h:IsS60 w0 W g f0 f1 f2) (m:Nat):IsS60 w0 (W.drewN m) g f0 f1 f2:=h
theorem IsS60.drew {w0 W:World} {g:Nat} {f0:List Int} {f1:Int} {f2:Int} (h:IsS60 w0 W g f0 f1 f2):IsS60 w0 W.drew g f0 f1 f2:=h
theorem IsS60.at_ {w0 W:World} {g:Nat} {f0:List Int} {f1:Int} {f2:Int} {w':World} {m:Nat} (hq:W.drewN m = w') (h:IsS60 w0 W g f0 f1 f2):IsS60 w0 w' g f0 f1 f2:=by subst hq;exact IsS60.drewN h m
theorem IsS60.apart {w0 W:World} {g:Nat} {f0:List Int} {f1:Int} {f2:Int} {α:Type} {d:Kd α} {e:Nat} {base:Nat} {ok:Nat → Prop} {v:Value} {xs:List α} (h:IsS60 w0 W g f0 f1 f2) (ho:d.R e W base ok v xs) (ht:∀ q,q ∈ e :: d.E → q ≠ 60):d.R e W base (fun k=>ok k ∧ k ≠ g) v xs:=by
 obtain ⟨A0,c0,hb,hg,hr0⟩:=h
 exact Kd.R_types ho hb ht
theorem IsS60.own_ne {w0 W:World} {g:Nat} {f0:List Int} {f1:Int} {f2:Int} {α:Type} {d:Kd α} {e:Nat} {base:Nat} {ok:Nat → Prop} {v:Value} {xs:List α} (h:IsS60 w0 W g f0 f1 f2) (ho:d.R e W base ok v xs) (ht:e ≠ 60):some g ≠ v.ownBlock:=by
 obtain ⟨A0,c0,hb,hg,hr0⟩:=h
 exact Kd.R_ne ho hb ht
theorem IsS60.apartQ {w0 W:World} {g:Nat} {f0:List Int} {f1:Int} {f2:Int} {α:Type} {d:Kd α} {e:Nat} {base:Nat} {ok:Nat → Prop} {v:Value} {xs:List α} (h:IsS60 w0 W g f0 f1 f2) (ho:d.Q e W base ok v xs) (ht:∀ q,q ∈ e :: d.E → q ≠ 60):d.Q e W base (fun k=>ok k ∧ k ≠ g) v xs:=by
 obtain ⟨A0,c0,hb,hg,hr0⟩:=h
 exact Kd.Q_types ho hb ht
theorem IsS60.own_neQ {w0 W:World} {g:Nat} {f0:List Int} {f1:Int} {f2:Int} {α:Type} {d:Kd α} {e:Nat} {base:Nat} {ok:Nat → Prop} {v:Value} {xs:List α} (h:IsS60 w0 W g f0 f1 f2) (ho:d.Q e W base ok v xs) (ht:e ≠ 60):some g ≠ v.ownBlock:=by
 obtain ⟨A0,c0,hb,hg,hr0⟩:=h
 exact Kd.Q_ne ho hb ht
theorem IsS60.apartS {w0 W:World} {g:Nat} {f0:List Int} {f1:Int} {f2:Int} {α:Type} {d:Kd α} {e:Nat} {base:Nat} {ok:Nat → Prop} {v:Value} {xs:List α} (h:IsS60 w0 W g f0 f1 f2) (ho:d.S e W base ok v xs) (ht:∀ q,q ∈ e :: d.E → q ≠ 60):d.S e W base (fun k=>ok k ∧ k ≠ g) v xs:=by
 obtain ⟨A0,c0,hb,hg,hr0⟩:=h
 exact Kd.S_types ho hb ht
theorem IsS60.own_neS {w0 W:World} {g:Nat} {f0:List Int} {f1:Int} {f2:Int} {α:Type} {d:Kd α} {e:Nat} {base:Nat} {ok:Nat → Prop} {v:Value} {xs:List α} (h:IsS60 w0 W g f0 f1 f2) (ho:d.S e W base ok v xs) (ht:e ≠ 60):some g ≠ v.ownBlock:=by
 obtain ⟨A0,c0,hb,hg,hr0⟩:=h
 exact Kd.S_ne ho hb ht
theorem IsS60.lt {w0 W:World} {g:Nat} {f0:List Int} {f1:Int} {f2:Int} (h:IsS60 w0 W g f0 f1 f2):g < W.heap.size:=by
 obtain ⟨A0,c0,hb,hg,hr0⟩:=h
 exact blk_lt hb
theorem IsS60.ge {w0 W:World} {g:Nat} {f0:List Int} {f1:Int} {f2:Int} (h:IsS60 w0 W g f0 f1 f2):w0.heap.size ≤ g:=by
 obtain ⟨A0,c0,hb,hg,hr0⟩:=h
 exact hg
theorem IsS60.ne_blk {w0 W:World} {g:Nat} {f0:List Int} {f1:Int} {f2:Int} {a:Nat} {cs:Array Value} {t:TypeId} {fr:Nat × Nat} (h:IsS60 w0 W g f0 f1 f2) (hb2:W.heap[a]? = some (.cells cs t fr)) (ht:t ≠ 60):g ≠ a:=by
 obtain ⟨A0,c0,hb,hg,hr0⟩:=h
 rintro rfl
 rw [hb] at hb2
 injection hb2 with hb2
 injection hb2 with _ ht2
 exact ht ht2.symm
theorem IsS60.far {w0 W:World} {g:Nat} {f0:List Int} {f1:Int} {f2:Int} {p:Addr} (h:IsS60 w0 W g f0 f1 f2) (hne:g ≠ p.block) (u:Value):IsS60 w0 (W.setCell p u) g f0 f1 f2:=by
 obtain ⟨A0,c0,hb,hg,hr0⟩:=h
 exact ⟨A0,c0,blk_far hb hne u,hg,hr0⟩
theorem cellS60_0 {W:World} {g:Nat} {A0:Option Addr} {c0:Nat} {f0:List Int} {f1:Int} {f2:Int} (h:W.heap[g]? = some (.cells #[.slice A0 f0.length c0,.int .i64 f1,.int .u64 f2] 60 (0,0))):W.cell? ⟨g,0,none⟩ = some (.slice A0 f0.length c0):=(blk_cell h 0).trans rfl
theorem cellS60_1 {W:World} {g:Nat} {A0:Option Addr} {c0:Nat} {f0:List Int} {f1:Int} {f2:Int} (h:W.heap[g]? = some (.cells #[.slice A0 f0.length c0,.int .i64 f1,.int .u64 f2] 60 (0,0))):W.cell? ⟨g,1,none⟩ = some (.int .i64 f1):=(blk_cell h 1).trans rfl
theorem IsS60.set_1 {w0 W:World} {g:Nat} {f0:List Int} {f1:Int} {f2:Int} (h:IsS60 w0 W g f0 f1 f2) (x:Int):IsS60 w0 (W.setCell ⟨g,1,none⟩ (.int .i64 x)) g f0 x f2:=by
 obtain ⟨A0,c0,hb,hg,hr0⟩:=h
 exact ⟨A0,c0,by simpa using blk_set hb 1 (.int .i64 x),hg,hr0⟩
theorem cellS60_2 {W:World} {g:Nat} {A0:Option Addr} {c0:Nat} {f0:List Int} {f1:Int} {f2:Int} (h:W.heap[g]? = some (.cells #[.slice A0 f0.length c0,.int .i64 f1,.int .u64 f2] 60 (0,0))):W.cell? ⟨g,2,none⟩ = some (.int .u64 f2):=(blk_cell h 2).trans rfl
theorem IsS60.set_2 {w0 W:World} {g:Nat} {f0:List Int} {f1:Int} {f2:Int} (h:IsS60 w0 W g f0 f1 f2) (x:Int):IsS60 w0 (W.setCell ⟨g,2,none⟩ (.int .u64 x)) g f0 f1 x:=by
 obtain ⟨A0,c0,hb,hg,hr0⟩:=h
 exact ⟨A0,c0,by simpa using blk_set hb 2 (.int .u64 x),hg,hr0⟩
theorem IsS60.new (w0 W:World) (A0:Option Addr) (c0:Nat) (f0:List Int) (f1:Int) (f2:Int) (hB:Below w0.heap.size w0 W) (hr0:Kd.C (Kd.int .u8) w0 A0 f0.length f0):IsS60 w0 (W.alloc (.cells #[.slice A0 f0.length c0,.int .i64 f1,.int .u64 f2] 60)) W.heap.size f0 f1 f2:=⟨A0,c0,by simpa using heap_alloc_new W _,hB.size,hr0⟩

/-! ### spec_l1Cur_next: function 114 -/
def spec_l1Cur_next.f (s0_0:List Int) (s0_1:Int) (s0_2:Int):Option (Int × Int × Int):=if s0_1 < (s0_0.length:Int) then (if 0 ≤ s0_1 then (if (wrap64 (s0_1 + 1)) ≤ (s0_0.length:Int) then (some (wrap64 (rd s0_0 s0_1),wrap64 (s0_1 + 1),IntKind.u64.wrap ((IntKind.u64.wrap ((IntKind.u64.wrap (s0_2 * 6364136223846793005)) + (IntKind.u64.wrap (wrap64 (rd s0_0 s0_1))))) + 1442695040888963407))) else (some (wrap64 (Go.bits .and .u64 ((IntKind.u64.wrap ((IntKind.u64.wrap ((IntKind.u64.wrap (s0_2 * 6364136223846793005)) + (IntKind.u64.wrap (wrap64 (rd s0_0 s0_1))))) + 1442695040888963407)) / 1099511627776) 255),wrap64 (s0_1 + 1),IntKind.u64.wrap ((IntKind.u64.wrap ((IntKind.u64.wrap (s0_2 * 6364136223846793005)) + (IntKind.u64.wrap (wrap64 (rd s0_0 s0_1))))) + 1442695040888963407)))) else (none)) else (if (wrap64 (s0_1 + 1)) ≤ (s0_0.length:Int) then (some (0,wrap64 (s0_1 + 1),IntKind.u64.wrap ((IntKind.u64.wrap (IntKind.u64.wrap (s0_2 * 6364136223846793005))) + 1442695040888963407))) else (some (wrap64 (Go.bits .and .u64 ((IntKind.u64.wrap ((IntKind.u64.wrap (IntKind.u64.wrap (s0_2 * 6364136223846793005))) + 1442695040888963407)) / 1099511627776) 255),wrap64 (s0_1 + 1),IntKind.u64.wrap ((IntKind.u64.wrap (IntKind.u64.wrap (s0_2 * 6364136223846793005))) + 1442695040888963407))))
set_option maxHeartbeats 8000000 in
set_option maxRecDepth 100000 in
theorem spec_l1Cur_next.calls (g:Nat) (s0_0:List Int) (s0_1:Int) (s0_2:Int) (r1:Int) (r2:Int) (r3:Int) (w0 w:World) (hI:IsS60 w0 w g s0_0 s0_1 s0_2) (hB:Below w0.heap.size w0 w) (h:spec_l1Cur_next.f s0_0 s0_1 s0_2 = some (r1,r2,r3)) :
  Calls Try.prog 114 #[.pointer (some ⟨g,0,none⟩)] w fun e w'=>e = .returned (.int .i64 r1) ∧ IsS60 w0 w' g s0_0 r2 r3 ∧ Below w0.heap.size w0 w' ∧ KeepBut w w' g none:=by
 have HI0:=Aside0.mk hI
 have HK:=Aside0.mk (KeepBut.refl w g none)
 have HL:=Aside0.mk hB.size
 clear hI
 have HW0:=Aside0.mk hB.size
 have HB:=Aside0.mk hB
 clear hB
 have H:(if s0_1 < (s0_0.length:Int) then (if 0 ≤ s0_1 then (if (wrap64 (s0_1 + 1)) ≤ (s0_0.length:Int) then (some (wrap64 (rd s0_0 s0_1),wrap64 (s0_1 + 1),IntKind.u64.wrap ((IntKind.u64.wrap ((IntKind.u64.wrap (s0_2 * 6364136223846793005)) + (IntKind.u64.wrap (wrap64 (rd s0_0 s0_1))))) + 1442695040888963407))) else (some (wrap64 (Go.bits .and .u64 ((IntKind.u64.wrap ((IntKind.u64.wrap ((IntKind.u64.wrap (s0_2 * 6364136223846793005)) + (IntKind.u64.wrap (wrap64 (rd s0_0 s0_1))))) + 1442695040888963407)) / 1099511627776) 255),wrap64 (s0_1 + 1),IntKind.u64.wrap ((IntKind.u64.wrap ((IntKind.u64.wrap (s0_2 * 6364136223846793005)) + (IntKind.u64.wrap (wrap64 (rd s0_0 s0_1))))) + 1442695040888963407)))) else (none)) else (if (wrap64 (s0_1 + 1)) ≤ (s0_0.length:Int) then (some (0,wrap64 (s0_1 + 1),IntKind.u64.wrap ((IntKind.u64.wrap (IntKind.u64.wrap (s0_2 * 6364136223846793005))) + 1442695040888963407))) else (some (wrap64 (Go.bits .and .u64 ((IntKind.u64.wrap ((IntKind.u64.wrap (IntKind.u64.wrap (s0_2 * 6364136223846793005))) + 1442695040888963407)) / 1099511627776) 255),wrap64 (s0_1 + 1),IntKind.u64.wrap ((IntKind.u64.wrap (IntKind.u64.wrap (s0_2 * 6364136223846793005))) + 1442695040888963407))))) = some (r1,r2,r3):=h
 clear h
 by_cases c2:s0_1 < (s0_0.length:Int)
 ·rw [if_pos c2] at H
  have c2b0:=decide_eq_true c2
  clear c2
  by_cases c3:0 ≤ s0_1
  ·rw [if_pos c3] at H
   have c3b0:=decide_eq_true c3
   clear c3
   by_cases c4:(wrap64 (s0_1 + 1)) ≤ (s0_0.length:Int)
   ·rw [if_pos c4] at H
    have c4b0:=decide_eq_true c4
    clear c4
    simp only [Option.some.injEq,Prod.mk.injEq] at H
    obtain ⟨rfl,rfl,rfl⟩:=H
    obtain ⟨ASz5_0,cSz5_0,HGz5,hgz5,HSz5_0⟩:=HI0.out
    have hcz5_0:=cellS60_0 HGz5
    have hcz5_1:=cellS60_1 HGz5
    have hcz5_2:=cellS60_2 HGz5
    have hfz5_1:=blk_frozen HGz5 1
    have hfz5_2:=blk_frozen HGz5 2
    clear HGz5 hgz5
    have p101:0 ≤ (s0_1:Int):=oD
    have q101:s0_1 < (s0_0.length:Int):=oD
    obtain ⟨ad101,e101,hx101_0⟩:=Kd.at_int HSz5_0 s0_1 p101 q101
    cases e101
    replace hx101_0:=pw_cell_below HB.out hx101_0
    replace p101:=eq_true p101
    replace q101:=eq_true q101
    go_enter Try.func114,Try.ntmps114
    go_wp2
    repeat (go_quiet (fail);try go_wp2)
    go_ret
    exact ⟨Yb,iIsS60,bH,kB⟩
   ·rw [if_neg c4] at H
    have c4b0:decide ((wrap64 (s0_1 + 1)) ≤ (s0_0.length:Int)) = false:=decide_eq_false c4
    clear c4
    simp only [Option.some.injEq,Prod.mk.injEq] at H
    obtain ⟨rfl,rfl,rfl⟩:=H
    obtain ⟨ASz6_0,cSz6_0,HGz6,hgz6,HSz6_0⟩:=HI0.out
    have hcz6_0:=cellS60_0 HGz6
    have hcz6_1:=cellS60_1 HGz6
    have hcz6_2:=cellS60_2 HGz6
    have hfz6_1:=blk_frozen HGz6 1
    have hfz6_2:=blk_frozen HGz6 2
    clear HGz6 hgz6
    have p101:0 ≤ (s0_1:Int):=oD
    have q101:s0_1 < (s0_0.length:Int):=oD
    obtain ⟨ad101,e101,hx101_0⟩:=Kd.at_int HSz6_0 s0_1 p101 q101
    cases e101
    replace hx101_0:=pw_cell_below HB.out hx101_0
    replace p101:=eq_true p101
    replace q101:=eq_true q101
    go_enter Try.func114,Try.ntmps114
    go_wp2
    repeat (go_quiet (fail);try go_wp2)
    go_ret
    exact ⟨Yb,iIsS60,bH,kB⟩
  ·rw [if_neg c3] at H
   exact absurd H (by simp)
 ·rw [if_neg c2] at H
  have c2b0:decide (s0_1 < (s0_0.length:Int)) = false:=decide_eq_false c2
  clear c2
  by_cases c7:(wrap64 (s0_1 + 1)) ≤ (s0_0.length:Int)
  ·rw [if_pos c7] at H
   have c7b0:=decide_eq_true c7
   clear c7
   simp only [Option.some.injEq,Prod.mk.injEq] at H
   obtain ⟨rfl,rfl,rfl⟩:=H
   obtain ⟨ASz8_0,cSz8_0,HGz8,hgz8,HSz8_0⟩:=HI0.out
   have hcz8_0:=cellS60_0 HGz8
   have hcz8_1:=cellS60_1 HGz8
   have hcz8_2:=cellS60_2 HGz8
   have hfz8_1:=blk_frozen HGz8 1
   have hfz8_2:=blk_frozen HGz8 2
   clear HGz8 hgz8
   go_enter Try.func114,Try.ntmps114
   go_wp2
   repeat (go_quiet (fail);try go_wp2)
   go_ret
   exact ⟨Yb,iIsS60,bH,kB⟩
  ·rw [if_neg c7] at H
   have c7b0:decide ((wrap64 (s0_1 + 1)) ≤ (s0_0.length:Int)) = false:=decide_eq_false c7
   clear c7
   simp only [Option.some.injEq,Prod.mk.injEq] at H
   obtain ⟨rfl,rfl,rfl⟩:=H
   obtain ⟨ASz9_0,cSz9_0,HGz9,hgz9,HSz9_0⟩:=HI0.out
   have hcz9_0:=cellS60_0 HGz9
   have hcz9_1:=cellS60_1 HGz9
   have hcz9_2:=cellS60_2 HGz9
   have hfz9_1:=blk_frozen HGz9 1
   have hfz9_2:=blk_frozen HGz9 2
   clear HGz9 hgz9
   go_enter Try.func114,Try.ntmps114
   go_wp2
   repeat (go_quiet (fail);try go_wp2)
   go_ret
   exact ⟨Yb,iIsS60,bH,kB⟩

/-! ### spec_l1Cur_pick: function 73 -/
def spec_l1Cur_pick.f (s0_0:List Int) (s0_1:Int) (s0_2:Int) (a1:Int):Option (Int × Int × Int):=if a1 ≤ 1 then (some (0,s0_1,s0_2)) else ((spec_l1Cur_next.f s0_0 s0_1 s0_2).bind fun bt102=>(if a1 > 200 then ((spec_l1Cur_next.f s0_0 bt102.2.1 bt102.2.2).bind fun bt105=>(if a1 = 0 then (none) else (some (Int.tmod (wrap64 ((wrap64 (bt102.1 * 256)) + bt105.1)) a1,bt105.2.1,bt105.2.2)))) else (if a1 = 0 then (none) else (some (Int.tmod bt102.1 a1,bt102.2.1,bt102.2.2)))))
set_option maxHeartbeats 8000000 in
set_option maxRecDepth 100000 in
theorem spec_l1Cur_pick.calls (g:Nat) (s0_0:List Int) (s0_1:Int) (s0_2:Int) (a1:Int) (r1:Int) (r2:Int) (r3:Int) (w0 w:World) (hI:IsS60 w0 w g s0_0 s0_1 s0_2) (hB:Below w0.heap.size w0 w) (h:spec_l1Cur_pick.f s0_0 s0_1 s0_2 a1 = some (r1,r2,r3)) :
  Calls Try.prog 73 #[.pointer (some ⟨g,0,none⟩),.int .i64 a1] w fun e w'=>e = .returned (.int .i64 r1) ∧ IsS60 w0 w' g s0_0 r2 r3 ∧ Below w0.heap.size w0 w' ∧ KeepBut w w' g none:=by
 have HI0:=Aside0.mk hI
 have HK:=Aside0.mk (KeepBut.refl w g none)
 have HL:=Aside0.mk hB.size
 clear hI
 have HW0:=Aside0.mk hB.size
 have HB:=Aside0.mk hB
 clear hB
 have H:(if a1 ≤ 1 then (some (0,s0_1,s0_2)) else ((spec_l1Cur_next.f s0_0 s0_1 s0_2).bind fun bt102=>(if a1 > 200 then ((spec_l1Cur_next.f s0_0 bt102.2.1 bt102.2.2).bind fun bt105=>(if a1 = 0 then (none) else (some (Int.tmod (wrap64 ((wrap64 (bt102.1 * 256)) + bt105.1)) a1,bt105.2.1,bt105.2.2)))) else (if a1 = 0 then (none) else (some (Int.tmod bt102.1 a1,bt102.2.1,bt102.2.2)))))) = some (r1,r2,r3):=h
 clear h
 by_cases c3:a1 ≤ 1
 ·rw [if_pos c3] at H
  have c3b0:=decide_eq_true c3
  clear c3
  simp only [Option.some.injEq,Prod.mk.injEq] at H
  obtain ⟨rfl,rfl,rfl⟩:=H
  go_enter Try.func73,Try.ntmps73
  go_wp2
  go_ret
  exact ⟨Yb,iIsS60,bH,kB⟩
 ·rw [if_neg c3] at H
  have c3b0:decide (a1 ≤ 1) = false:=decide_eq_false c3
  clear c3
  replace H:=Option.bind_eq_some_iff.mp H
  obtain ⟨⟨t102,t103,t104⟩,A40,H⟩:=H
  replace H:(if a1 > 200 then ((spec_l1Cur_next.f s0_0 t103 t104).bind fun bt105=>(if a1 = 0 then (none) else (some (Int.tmod (wrap64 ((wrap64 (t102 * 256)) + bt105.1)) a1,bt105.2.1,bt105.2.2)))) else (if a1 = 0 then (none) else (some (Int.tmod t102 a1,t103,t104)))) = some (r1,r2,r3):=H
  have A4:=Aside0.mk A40
  clear A40
  by_cases c5:a1 > 200
  ·rw [if_pos c5] at H
   have c5b0:decide (200 < a1) = true:=decide_eq_true c5
   clear c5
   replace H:=Option.bind_eq_some_iff.mp H
   obtain ⟨⟨t105,t106,t107⟩,A60,H⟩:=H
   replace H:(if a1 = 0 then (none) else (some (Int.tmod (wrap64 ((wrap64 (t102 * 256)) + t105)) a1,t106,t107))) = some (r1,r2,r3):=H
   have A6:=Aside0.mk A60
   clear A60
   by_cases c7:a1 = 0
   ·rw [if_pos c7] at H
    exact absurd H (by simp)
   ·rw [if_neg c7] at H
    have c7b0:(a1 == 0) = false:=beq_eq_false_iff_ne.mpr c7
    have c7b1:(a1 != 0) = true:=bne_iff_ne.mpr c7
    simp only [Option.some.injEq,Prod.mk.injEq] at H
    obtain ⟨rfl,rfl,rfl⟩:=H
    go_enter Try.func73,Try.ntmps73
    go_wp2_with (first|((with_reducible refine gate_callee (f:=114) rfl ?_);refine goesL_ (some 9) rfl rfl Try.func114 (by kernel_rfl) rfl #[.pointer (some ⟨g,0,none⟩)] rfl Ya ?_;(with_reducible refine (spec_l1Cur_next.calls g s0_0 s0_1 s0_2 t102 t103 t104 w0 _ ?side1 ?side2 A4.out).mono ?_);(case side1=>exact iIsS60);(case side2=>exact bH);rintro e w8 ⟨rfl,hi,hb,hk⟩;refine ⟨_,rfl,?_⟩;replace HK:=Aside0.mk (KeepBut.trans kB hk (.inl rfl));replace HB:=Aside0.mk (hb);replace HI0:=Aside0.mk (hi);(try clear hb);(try clear hb2);(try clear hk);(try clear hi))|((with_reducible refine gate_callee (f:=114) rfl ?_);refine goesL_ (some 15) rfl rfl Try.func114 (by kernel_rfl) rfl #[.pointer (some ⟨g,0,none⟩)] rfl Ya ?_;(with_reducible refine (spec_l1Cur_next.calls g s0_0 t103 t104 t105 t106 t107 w0 _ ?side1 ?side2 A6.out).mono ?_);(case side1=>exact iIsS60);(case side2=>exact bH);rintro e w9 ⟨rfl,hi,hb,hk⟩;refine ⟨_,rfl,?_⟩;replace HK:=Aside0.mk (KeepBut.trans kB hk (.inl rfl));replace HB:=Aside0.mk (hb);replace HI0:=Aside0.mk (hi);(try clear hb);(try clear hb2);(try clear hk);(try clear hi)))
    go_ret
    exact ⟨Yb,iIsS60,bH,kB⟩
  ·rw [if_neg c5] at H
   have c5b0:decide (200 < a1) = false:=decide_eq_false c5
   clear c5
   by_cases c10:a1 = 0
   ·rw [if_pos c10] at H
    exact absurd H (by simp)
   ·rw [if_neg c10] at H
    have c10b0:(a1 == 0) = false:=beq_eq_false_iff_ne.mpr c10
    have c10b1:(a1 != 0) = true:=bne_iff_ne.mpr c10
    simp only [Option.some.injEq,Prod.mk.injEq] at H
    obtain ⟨rfl,rfl,rfl⟩:=H
    go_enter Try.func73,Try.ntmps73
    go_wp2_with (first|((with_reducible refine gate_callee (f:=114) rfl ?_);refine goesL_ (some 9) rfl rfl Try.func114 (by kernel_rfl) rfl #[.pointer (some ⟨g,0,none⟩)] rfl Ya ?_;(with_reducible refine (spec_l1Cur_next.calls g s0_0 s0_1 s0_2 t102 t103 t104 w0 _ ?side1 ?side2 A4.out).mono ?_);(case side1=>exact iIsS60);(case side2=>exact bH);rintro e w11 ⟨rfl,hi,hb,hk⟩;refine ⟨_,rfl,?_⟩;replace HK:=Aside0.mk (KeepBut.trans kB hk (.inl rfl));replace HB:=Aside0.mk (hb);replace HI0:=Aside0.mk (hi);(try clear hb);(try clear hb2);(try clear hk);(try clear hi)))
    go_ret
    exact ⟨Yb,iIsS60,bH,kB⟩

/-! ### spec_l1Cur_sign: function 35 -/
def spec_l1Cur_sign.f (s0_0:List Int) (s0_1:Int) (s0_2:Int):Option (List Int × Int × Int):=(spec_l1Cur_pick.f s0_0 s0_1 s0_2 40).bind fun bt113=>(if bt113.1 = 0 then (some ((([0,1,2,3,0]:List Int)),bt113.2.1,bt113.2.2)) else (if bt113.1 = 1 then (some (([]:List Int),bt113.2.1,bt113.2.2)) else (if bt113.1 = 2 then (some ((([1,0]:List Int)),bt113.2.1,bt113.2.2)) else (some ((([0,0,0,1,1,2]:List Int)),bt113.2.1,bt113.2.2)))))
set_option maxHeartbeats 8000000 in
set_option maxRecDepth 100000 in
theorem spec_l1Cur_sign.calls (g:Nat) (s0_0:List Int) (s0_1:Int) (s0_2:Int) (r1:List Int) (r2:Int) (r3:Int) (w0 w:World) (hI:IsS60 w0 w g s0_0 s0_1 s0_2) (hB:Below w0.heap.size w0 w) (h:spec_l1Cur_sign.f s0_0 s0_1 s0_2 = some (r1,r2,r3)) :
  Calls Try.prog 35 #[.pointer (some ⟨g,0,none⟩)] w fun e w'=>∃ v0_:Value,e = .returned (.agg #[v0_]) ∧ Kd.R (Kd.int .i64) 3 w' w.heap.size (fun _=>True) v0_ r1 ∧ IsS60 w0 w' g s0_0 r2 r3 ∧ Below w0.heap.size w0 w' ∧ KeepBut w w' g none:=by
 have hu26:=Try.underlying26
 have HI0:=Aside0.mk hI
 have HK:=Aside0.mk (KeepBut.refl w g none)
 have HL:=Aside0.mk hB.size
 clear hI
 have HW0:=Aside0.mk hB.size
 have HB:=Aside0.mk hB
 clear hB
 have H:((spec_l1Cur_pick.f s0_0 s0_1 s0_2 40).bind fun bt113=>(if bt113.1 = 0 then (some ((([0,1,2,3,0]:List Int)),bt113.2.1,bt113.2.2)) else (if bt113.1 = 1 then (some (([]:List Int),bt113.2.1,bt113.2.2)) else (if bt113.1 = 2 then (some ((([1,0]:List Int)),bt113.2.1,bt113.2.2)) else (some ((([0,0,0,1,1,2]:List Int)),bt113.2.1,bt113.2.2)))))) = some (r1,r2,r3):=h
 clear h
 obtain ⟨y109,hy109⟩:∃ y_:List Int,y_ = (([0,0,0,1,1,2]:List Int)):=⟨_,rfl⟩
 replace H:((spec_l1Cur_pick.f s0_0 s0_1 s0_2 40).bind fun bt113=>(if bt113.1 = 0 then (some ((([0,1,2,3,0]:List Int)),bt113.2.1,bt113.2.2)) else (if bt113.1 = 1 then (some (([]:List Int),bt113.2.1,bt113.2.2)) else (if bt113.1 = 2 then (some ((([1,0]:List Int)),bt113.2.1,bt113.2.2)) else (some (y109,bt113.2.1,bt113.2.2)))))) = some (r1,r2,r3):=by first|(rw [hy109];with_reducible exact H)|(have H2_:=(Option.bind_some _ _).symm.trans H;rw [hy109];with_reducible exact H2_)|(have H2_:=(Option.bind_some _ _).symm.trans H;with_reducible exact H2_)|with_reducible exact H|(rw [hy109];exact H)|exact H
 have Ny109:=Aside0.mk hy109
 clear hy109
 replace H:=Option.bind_eq_some_iff.mp H
 obtain ⟨⟨t113,t114,t115⟩,A20,H⟩:=H
 replace H:(if t113 = 0 then (some ((([0,1,2,3,0]:List Int)),t114,t115)) else (if t113 = 1 then (some (([]:List Int),t114,t115)) else (if t113 = 2 then (some ((([1,0]:List Int)),t114,t115)) else (some (y109,t114,t115))))) = some (r1,r2,r3):=H
 have A2:=Aside0.mk A20
 clear A20
 by_cases c3:t113 = 0
 ·rw [if_pos c3] at H
  have c3b0:(t113 == 0) = true:=beq_iff_eq.mpr c3
  have c3b1:(t113 != 0) = false:=bne_eq_false_iff_eq.mpr c3
  clear c3
  obtain ⟨y116,hy116⟩:∃ y_:List Int,y_ = (([0,1,2,3,0]:List Int)):=⟨_,rfl⟩
  replace H:(some (y116,t114,t115)) = some (r1,r2,r3):=by first|(rw [hy116];with_reducible exact H)|(have H2_:=(Option.bind_some _ _).symm.trans H;rw [hy116];with_reducible exact H2_)|(have H2_:=(Option.bind_some _ _).symm.trans H;with_reducible exact H2_)|with_reducible exact H|(rw [hy116];exact H)|exact H
  have Ny116:=Aside0.mk hy116
  clear hy116
  simp only [Option.some.injEq,Prod.mk.injEq] at H
  obtain ⟨rfl,rfl,rfl⟩:=H
  go_enter Try.func35,Try.ntmps35
  go_wp2_with (first|((with_reducible refine gate_dst (N:=2) rfl ?_);refine box_event ?hg (N:=2) ?hd (cs:=#[.slice none 0 0]) (t:=26) ?hr ?_;(case hd=>rfl);(case hg=>rfl);(case hr=>exact Yd);intro gb108 hg w4 hbox hb;replace HB:=Aside0.mk (below_step bH hb);have BK108:=Aside0.mk (hbox);have GW108:=Aside0.mk ((by rw [hg];exact (keep_size (w:=w) (g:=g) (row:=none) kB):w.heap.size ≤ gb108));have GE108:=Aside0.mk ((Nat.le_trans HW0.out (by rw [hg];exact (keep_size (w:=w) (g:=g) (row:=none) kB):w.heap.size ≤ gb108):w0.heap.size ≤ gb108));replace HK:=Aside0.mk (KeepBut.trans kB (KeepBut.of_below hb g none) (.inl rfl));have NB0_108:=Aside0.mk ((by rw [hg];exact Nat.ne_of_lt (IsS60.lt (show IsS60 w0 _ g s0_0 s0_1 s0_2 from iIsS60)):g ≠ gb108));have NB108_0:=Aside0.mk ((by rw [hg];exact Nat.ne_of_gt (IsS60.lt (show IsS60 w0 _ g s0_0 s0_1 s0_2 from iIsS60)):gb108 ≠ g));replace HI0:=Aside0.mk (IsS60.below iIsS60 hb);clear hb hbox hg)|((with_reducible refine gate_dst (N:=4) rfl ?_);refine Kd.R_lit (Kd.int .i64) _ 3 ?hg (N:=4) ?hd (xs:=([0,0,0,1,1,2]:List Int)) (inner:=[.int .i64 0,.int .i64 0,.int .i64 0,.int .i64 1,.int .i64 1,.int .i64 2]) (ok:=fun _=>True) (okp:=fun _=>True) ?hr ?hp (fun _ hk=>hk) trivial (Below.refl _ _) (Nat.le_refl _) (by simp) ?_;(case hd=>rfl);(case hg=>rfl);(case hr=>exact Yd);(case hp=>exact Yh);intro v110 w5 ho6 hb hg_ hnew_;clear hg_ hnew_;(first|rw [← Ny109.out] at ho6|(simp only [Int.reduceToNat] at ho6;rw [← Ny109.out] at ho6));have HO111:=Aside0.mk (Kd.R_lower ho6 (keep_size (w:=w) (g:=g) (row:=none) kB));replace BK108:=Aside0.mk (blk_below (bB BK108) hb);replace HK:=Aside0.mk (KeepBut.trans kB (KeepBut.of_below hb g none) (.inl rfl));replace HB:=Aside0.mk (below_step bH hb);replace HI0:=Aside0.mk (IsS60.below iIsS60 hb);clear hb ho6;obtain ⟨Ao7,co7,eo7⟩:=Kd.R_slice HO111.out;subst eo7)|((with_reducible refine gate_dst (N:=3) rfl ?_);refine box_event ?hg (N:=3) ?hd (cs:=#[.slice none 0 0]) (t:=26) ?hr ?_;(case hd=>rfl);(case hg=>rfl);(case hr=>exact Yd);intro gb112 hg w8 hbox hb;replace HO111:=Aside0.mk (Kd.R_below (rR HO111) hb);replace HB:=Aside0.mk (below_step bH hb);have BK112:=Aside0.mk (hbox);have GW112:=Aside0.mk ((by rw [hg];exact (keep_size (w:=w) (g:=g) (row:=none) kB):w.heap.size ≤ gb112));have GE112:=Aside0.mk ((Nat.le_trans HW0.out (by rw [hg];exact (keep_size (w:=w) (g:=g) (row:=none) kB):w.heap.size ≤ gb112):w0.heap.size ≤ gb112));replace HK:=Aside0.mk (KeepBut.trans kB (KeepBut.of_below hb g none) (.inl rfl));have NB108_112:=Aside0.mk ((nL BK108:gb108 ≠ gb112));have NB112_108:=Aside0.mk ((nG BK108:gb112 ≠ gb108));replace BK108:=Aside0.mk (blk_below (bB BK108) hb);have NB0_112:=Aside0.mk ((by rw [hg];exact Nat.ne_of_lt (IsS60.lt (show IsS60 w0 _ g s0_0 s0_1 s0_2 from iIsS60)):g ≠ gb112));have NB112_0:=Aside0.mk ((by rw [hg];exact Nat.ne_of_gt (IsS60.lt (show IsS60 w0 _ g s0_0 s0_1 s0_2 from iIsS60)):gb112 ≠ g));replace HI0:=Aside0.mk (IsS60.below iIsS60 hb);clear hb hbox hg;have hnb9:=NB112_108.out;have hnc9:=NB108_112.out;have hnb10:=NB112_0.out;have hnc10:=NB0_112.out;have hcz11_0:w8.cell? ⟨gb112,0,none⟩ = some (.slice none 0 0):=(blk_cell BK112.out 0).trans rfl;have hfz11_0:=blk_frozen BK112.out 0)|((with_reducible refine gate_callee (f:=73) rfl ?_);refine goesL_ (some 7) rfl rfl Try.func73 (by kernel_rfl) rfl #[.pointer (some ⟨g,0,none⟩),.int .i64 40] rfl Ya ?_;(with_reducible refine (spec_l1Cur_pick.calls g s0_0 s0_1 s0_2 40 t113 t114 t115 w0 _ ?side1 ?side2 A2.out).mono ?_);(case side1=>exact iIsS60);(case side2=>exact bH);rintro e w12 ⟨rfl,hi,hb,hk⟩;refine ⟨_,rfl,?_⟩;replace BK108:=Aside0.mk (KeepBut.blk hk (g':=gb108) (o:=.cells #[.slice none 0 0] 26 (0,0)) Yq NB108_0.out (by simp));replace HO111:=Aside0.mk (Kd.R_mono (Kd.R_keep (IsS60.apart (show IsS60 w0 _ g s0_0 s0_1 s0_2 from iIsS60) (by (with_reducible repeat (first|apply Kd.R_alloc|apply Kd.R_drewN|apply Kd.R_drew));exact (Kd.R_mono (Kd.R_far (p:=⟨gb112,0,none⟩) (Kd.R_types HO111.out BK112.out (by decide)) (fun _ hk=>hk.2) (.slice Ao7 y109.length co7)) (fun _ h_=>h_.1))) (by decide)) hk (fun _ h=>h.2)) (fun _ h=>h.1));replace BK112:=Aside0.mk (KeepBut.blk hk (g':=gb112) (o:=.cells #[.slice Ao7 y109.length co7] 26 (0,0)) Yp NB112_0.out (by simp));replace HK:=Aside0.mk (KeepBut.trans kB hk (.inl rfl));replace HB:=Aside0.mk (hb);replace HI0:=Aside0.mk (hi);(try clear hb);(try clear hb2);(try clear hk);(try clear hi))|((with_reducible refine gate_dst (N:=10) rfl ?_);refine Kd.R_lit (Kd.int .i64) _ 3 ?hg (N:=10) ?hd (xs:=([0,1,2,3,0]:List Int)) (inner:=[.int .i64 0,.int .i64 1,.int .i64 2,.int .i64 3,.int .i64 0]) (ok:=fun _=>True) (okp:=fun _=>True) ?hr ?hp (fun _ hk=>hk) trivial (Below.refl _ _) (Nat.le_refl _) (by simp) ?_;(case hd=>rfl);(case hg=>rfl);(case hr=>exact Yd);(case hp=>exact (Reps.one (show Kd.M (Kd.int .i64) _ _ _ 0 [.int .i64 0] from rfl) (Reps.one (show Kd.M (Kd.int .i64) _ _ _ 1 [.int .i64 1] from rfl) (Reps.one (show Kd.M (Kd.int .i64) _ _ _ 2 [.int .i64 2] from rfl) (Reps.one (show Kd.M (Kd.int .i64) _ _ _ 3 [.int .i64 3] from rfl) (Reps.one (show Kd.M (Kd.int .i64) _ _ _ 0 [.int .i64 0] from rfl) (Reps.none _ _)))))));intro v117 w13 ho14 hb hg_ hnew_;clear hg_ hnew_;(first|rw [← Ny116.out] at ho14|(simp only [Int.reduceToNat] at ho14;rw [← Ny116.out] at ho14));have HO118:=Aside0.mk (Kd.R_lower (Kd.R_new' ho14 (Kd.R_lt (rR HO111))) (keep_size (w:=w) (g:=g) (row:=none) kB));replace HO111:=Aside0.mk (Kd.R_elder' (rR HO111) (Kd.R_base ho14) hb);replace BK108:=Aside0.mk (blk_below (bB BK108) hb);replace BK112:=Aside0.mk (blk_below (bB BK112) hb);replace HK:=Aside0.mk (KeepBut.trans kB (KeepBut.of_below hb g none) (.inl rfl));replace HB:=Aside0.mk (below_step bH hb);replace HI0:=Aside0.mk (IsS60.below iIsS60 hb);clear hb ho14;obtain ⟨Ao15,co15,eo15⟩:=Kd.R_slice HO118.out;subst eo15;have hcz16_0:w13.cell? ⟨gb112,0,none⟩ = some (.slice Ao7 y109.length co7):=(blk_cell BK112.out 0).trans rfl;have hfz16_0:=blk_frozen BK112.out 0;have hnb17:=NB108_0.out;have hnc17:=NB0_108.out;have hcz18_0:w13.cell? ⟨gb108,0,none⟩ = some (.slice none 0 0):=(blk_cell BK108.out 0).trans rfl;have hfz18_0:=blk_frozen BK108.out 0))
  refine bodyPost_ret (results_cell_row rfl _ _ gb108 26 #[.slice Ao15 y116.length co15] (0,0) _ rfl Yo Try.underlying26 rfl (by kernel_rfl)) rfl ?_
  exact ⟨_,Yb,by (with_reducible repeat (first|apply Kd.R_alloc|apply Kd.R_drewN|apply Kd.R_drew));exact Kd.R_mono (Kd.R_far (p:=⟨gb108,0,none⟩) (Kd.R_far (p:=⟨gb112,0,none⟩) (Kd.R_types (Kd.R_types HO118.out BK112.out (by decide)) BK108.out (by decide)) (fun _ hk=>hk.1.2) (.slice Ao15 y116.length co15)) (fun _ hk=>hk.2) (.slice Ao15 y116.length co15)) (fun _ hk=>trivial),iIsS60,bH,kB⟩
 ·rw [if_neg c3] at H
  have c3b0:(t113 == 0) = false:=beq_eq_false_iff_ne.mpr c3
  have c3b1:(t113 != 0) = true:=bne_iff_ne.mpr c3
  by_cases c19:t113 = 1
  ·rw [if_pos c19] at H
   have c19b0:(t113 == 1) = true:=beq_iff_eq.mpr c19
   have c19b1:(t113 != 1) = false:=bne_eq_false_iff_eq.mpr c19
   clear c19
   simp only [Option.some.injEq,Prod.mk.injEq] at H
   obtain ⟨rfl,rfl,rfl⟩:=H
   go_enter Try.func35,Try.ntmps35
   go_wp2_with (first|((with_reducible refine gate_dst (N:=2) rfl ?_);refine box_event ?hg (N:=2) ?hd (cs:=#[.slice none 0 0]) (t:=26) ?hr ?_;(case hd=>rfl);(case hg=>rfl);(case hr=>exact Yd);intro gb108 hg w20 hbox hb;replace HB:=Aside0.mk (below_step bH hb);have BK108:=Aside0.mk (hbox);have GW108:=Aside0.mk ((by rw [hg];exact (keep_size (w:=w) (g:=g) (row:=none) kB):w.heap.size ≤ gb108));have GE108:=Aside0.mk ((Nat.le_trans HW0.out (by rw [hg];exact (keep_size (w:=w) (g:=g) (row:=none) kB):w.heap.size ≤ gb108):w0.heap.size ≤ gb108));replace HK:=Aside0.mk (KeepBut.trans kB (KeepBut.of_below hb g none) (.inl rfl));have NB0_108:=Aside0.mk ((by rw [hg];exact Nat.ne_of_lt (IsS60.lt (show IsS60 w0 _ g s0_0 s0_1 s0_2 from iIsS60)):g ≠ gb108));have NB108_0:=Aside0.mk ((by rw [hg];exact Nat.ne_of_gt (IsS60.lt (show IsS60 w0 _ g s0_0 s0_1 s0_2 from iIsS60)):gb108 ≠ g));replace HI0:=Aside0.mk (IsS60.below iIsS60 hb);clear hb hbox hg)|((with_reducible refine gate_dst (N:=4) rfl ?_);refine Kd.R_lit (Kd.int .i64) _ 3 ?hg (N:=4) ?hd (xs:=([0,0,0,1,1,2]:List Int)) (inner:=[.int .i64 0,.int .i64 0,.int .i64 0,.int .i64 1,.int .i64 1,.int .i64 2]) (ok:=fun _=>True) (okp:=fun _=>True) ?hr ?hp (fun _ hk=>hk) trivial (Below.refl _ _) (Nat.le_refl _) (by simp) ?_;(case hd=>rfl);(case hg=>rfl);(case hr=>exact Yd);(case hp=>exact Yh);intro v110 w21 ho22 hb hg_ hnew_;clear hg_ hnew_;(first|rw [← Ny109.out] at ho22|(simp only [Int.reduceToNat] at ho22;rw [← Ny109.out] at ho22));have HO111:=Aside0.mk (Kd.R_lower ho22 (keep_size (w:=w) (g:=g) (row:=none) kB));replace BK108:=Aside0.mk (blk_below (bB BK108) hb);replace HK:=Aside0.mk (KeepBut.trans kB (KeepBut.of_below hb g none) (.inl rfl));replace HB:=Aside0.mk (below_step bH hb);replace HI0:=Aside0.mk (IsS60.below iIsS60 hb);clear hb ho22;obtain ⟨Ao23,co23,eo23⟩:=Kd.R_slice HO111.out;subst eo23)|((with_reducible refine gate_dst (N:=3) rfl ?_);refine box_event ?hg (N:=3) ?hd (cs:=#[.slice none 0 0]) (t:=26) ?hr ?_;(case hd=>rfl);(case hg=>rfl);(case hr=>exact Yd);intro gb112 hg w24 hbox hb;replace HO111:=Aside0.mk (Kd.R_below (rR HO111) hb);replace HB:=Aside0.mk (below_step bH hb);have BK112:=Aside0.mk (hbox);have GW112:=Aside0.mk ((by rw [hg];exact (keep_size (w:=w) (g:=g) (row:=none) kB):w.heap.size ≤ gb112));have GE112:=Aside0.mk ((Nat.le_trans HW0.out (by rw [hg];exact (keep_size (w:=w) (g:=g) (row:=none) kB):w.heap.size ≤ gb112):w0.heap.size ≤ gb112));replace HK:=Aside0.mk (KeepBut.trans kB (KeepBut.of_below hb g none) (.inl rfl));have NB108_112:=Aside0.mk ((nL BK108:gb108 ≠ gb112));have NB112_108:=Aside0.mk ((nG BK108:gb112 ≠ gb108));replace BK108:=Aside0.mk (blk_below (bB BK108) hb);have NB0_112:=Aside0.mk ((by rw [hg];exact Nat.ne_of_lt (IsS60.lt (show IsS60 w0 _ g s0_0 s0_1 s0_2 from iIsS60)):g ≠ gb112));have NB112_0:=Aside0.mk ((by rw [hg];exact Nat.ne_of_gt (IsS60.lt (show IsS60 w0 _ g s0_0 s0_1 s0_2 from iIsS60)):gb112 ≠ g));replace HI0:=Aside0.mk (IsS60.below iIsS60 hb);clear hb hbox hg;have hnb25:=NB112_108.out;have hnc25:=NB108_112.out;have hnb26:=NB112_0.out;have hnc26:=NB0_112.out;have hcz27_0:w24.cell? ⟨gb112,0,none⟩ = some (.slice none 0 0):=(blk_cell BK112.out 0).trans rfl;have hfz27_0:=blk_frozen BK112.out 0)|((with_reducible refine gate_callee (f:=73) rfl ?_);refine goesL_ (some 7) rfl rfl Try.func73 (by kernel_rfl) rfl #[.pointer (some ⟨g,0,none⟩),.int .i64 40] rfl Ya ?_;(with_reducible refine (spec_l1Cur_pick.calls g s0_0 s0_1 s0_2 40 t113 t114 t115 w0 _ ?side1 ?side2 A2.out).mono ?_);(case side1=>exact iIsS60);(case side2=>exact bH);rintro e w28 ⟨rfl,hi,hb,hk⟩;refine ⟨_,rfl,?_⟩;replace BK108:=Aside0.mk (KeepBut.blk hk (g':=gb108) (o:=.cells #[.slice none 0 0] 26 (0,0)) Yq NB108_0.out (by simp));replace HO111:=Aside0.mk (Kd.R_mono (Kd.R_keep (IsS60.apart (show IsS60 w0 _ g s0_0 s0_1 s0_2 from iIsS60) (by (with_reducible repeat (first|apply Kd.R_alloc|apply Kd.R_drewN|apply Kd.R_drew));exact (Kd.R_mono (Kd.R_far (p:=⟨gb112,0,none⟩) (Kd.R_types HO111.out BK112.out (by decide)) (fun _ hk=>hk.2) (.slice Ao23 y109.length co23)) (fun _ h_=>h_.1))) (by decide)) hk (fun _ h=>h.2)) (fun _ h=>h.1));replace BK112:=Aside0.mk (KeepBut.blk hk (g':=gb112) (o:=.cells #[.slice Ao23 y109.length co23] 26 (0,0)) Yp NB112_0.out (by simp));replace HK:=Aside0.mk (KeepBut.trans kB hk (.inl rfl));replace HB:=Aside0.mk (hb);replace HI0:=Aside0.mk (hi);(try clear hb);(try clear hb2);(try clear hk);(try clear hi);have hcz29_0:w28.cell? ⟨gb112,0,none⟩ = some (.slice Ao23 y109.length co23):=(blk_cell BK112.out 0).trans rfl;have hfz29_0:=blk_frozen BK112.out 0;have hnb30:=NB108_0.out;have hnc30:=NB0_108.out;have hcz31_0:w28.cell? ⟨gb108,0,none⟩ = some (.slice none 0 0):=(blk_cell BK108.out 0).trans rfl;have hfz31_0:=blk_frozen BK108.out 0))
   refine bodyPost_ret (results_cell_row rfl _ _ gb108 26 #[.slice none 0 0] (0,0) _ rfl Yo Try.underlying26 rfl (by kernel_rfl)) rfl ?_
   exact ⟨_,Yb,Yg,iIsS60,bH,kB⟩
  ·rw [if_neg c19] at H
   have c19b0:(t113 == 1) = false:=beq_eq_false_iff_ne.mpr c19
   have c19b1:(t113 != 1) = true:=bne_iff_ne.mpr c19
   by_cases c32:t113 = 2
   ·rw [if_pos c32] at H
    have c32b0:(t113 == 2) = true:=beq_iff_eq.mpr c32
    have c32b1:(t113 != 2) = false:=bne_eq_false_iff_eq.mpr c32
    clear c32
    obtain ⟨y119,hy119⟩:∃ y_:List Int,y_ = (([1,0]:List Int)):=⟨_,rfl⟩
    replace H:(some (y119,t114,t115)) = some (r1,r2,r3):=by first|(rw [hy119];with_reducible exact H)|(have H2_:=(Option.bind_some _ _).symm.trans H;rw [hy119];with_reducible exact H2_)|(have H2_:=(Option.bind_some _ _).symm.trans H;with_reducible exact H2_)|with_reducible exact H|(rw [hy119];exact H)|exact H
    have Ny119:=Aside0.mk hy119
    clear hy119
    simp only [Option.some.injEq,Prod.mk.injEq] at H
    obtain ⟨rfl,rfl,rfl⟩:=H
    go_enter Try.func35,Try.ntmps35
    go_wp2_with (first|((with_reducible refine gate_dst (N:=2) rfl ?_);refine box_event ?hg (N:=2) ?hd (cs:=#[.slice none 0 0]) (t:=26) ?hr ?_;(case hd=>rfl);(case hg=>rfl);(case hr=>exact Yd);intro gb108 hg w33 hbox hb;replace HB:=Aside0.mk (below_step bH hb);have BK108:=Aside0.mk (hbox);have GW108:=Aside0.mk ((by rw [hg];exact (keep_size (w:=w) (g:=g) (row:=none) kB):w.heap.size ≤ gb108));have GE108:=Aside0.mk ((Nat.le_trans HW0.out (by rw [hg];exact (keep_size (w:=w) (g:=g) (row:=none) kB):w.heap.size ≤ gb108):w0.heap.size ≤ gb108));replace HK:=Aside0.mk (KeepBut.trans kB (KeepBut.of_below hb g none) (.inl rfl));have NB0_108:=Aside0.mk ((by rw [hg];exact Nat.ne_of_lt (IsS60.lt (show IsS60 w0 _ g s0_0 s0_1 s0_2 from iIsS60)):g ≠ gb108));have NB108_0:=Aside0.mk ((by rw [hg];exact Nat.ne_of_gt (IsS60.lt (show IsS60 w0 _ g s0_0 s0_1 s0_2 from iIsS60)):gb108 ≠ g));replace HI0:=Aside0.mk (IsS60.below iIsS60 hb);clear hb hbox hg)|((with_reducible refine gate_dst (N:=4) rfl ?_);refine Kd.R_lit (Kd.int .i64) _ 3 ?hg (N:=4) ?hd (xs:=([0,0,0,1,1,2]:List Int)) (inner:=[.int .i64 0,.int .i64 0,.int .i64 0,.int .i64 1,.int .i64 1,.int .i64 2]) (ok:=fun _=>True) (okp:=fun _=>True) ?hr ?hp (fun _ hk=>hk) trivial (Below.refl _ _) (Nat.le_refl _) (by simp) ?_;(case hd=>rfl);(case hg=>rfl);(case hr=>exact Yd);(case hp=>exact Yh);intro v110 w34 ho35 hb hg_ hnew_;clear hg_ hnew_;(first|rw [← Ny109.out] at ho35|(simp only [Int.reduceToNat] at ho35;rw [← Ny109.out] at ho35));have HO111:=Aside0.mk (Kd.R_lower ho35 (keep_size (w:=w) (g:=g) (row:=none) kB));replace BK108:=Aside0.mk (blk_below (bB BK108) hb);replace HK:=Aside0.mk (KeepBut.trans kB (KeepBut.of_below hb g none) (.inl rfl));replace HB:=Aside0.mk (below_step bH hb);replace HI0:=Aside0.mk (IsS60.below iIsS60 hb);clear hb ho35;obtain ⟨Ao36,co36,eo36⟩:=Kd.R_slice HO111.out;subst eo36)|((with_reducible refine gate_dst (N:=3) rfl ?_);refine box_event ?hg (N:=3) ?hd (cs:=#[.slice none 0 0]) (t:=26) ?hr ?_;(case hd=>rfl);(case hg=>rfl);(case hr=>exact Yd);intro gb112 hg w37 hbox hb;replace HO111:=Aside0.mk (Kd.R_below (rR HO111) hb);replace HB:=Aside0.mk (below_step bH hb);have BK112:=Aside0.mk (hbox);have GW112:=Aside0.mk ((by rw [hg];exact (keep_size (w:=w) (g:=g) (row:=none) kB):w.heap.size ≤ gb112));have GE112:=Aside0.mk ((Nat.le_trans HW0.out (by rw [hg];exact (keep_size (w:=w) (g:=g) (row:=none) kB):w.heap.size ≤ gb112):w0.heap.size ≤ gb112));replace HK:=Aside0.mk (KeepBut.trans kB (KeepBut.of_below hb g none) (.inl rfl));have NB108_112:=Aside0.mk ((nL BK108:gb108 ≠ gb112));have NB112_108:=Aside0.mk ((nG BK108:gb112 ≠ gb108));replace BK108:=Aside0.mk (blk_below (bB BK108) hb);have NB0_112:=Aside0.mk ((by rw [hg];exact Nat.ne_of_lt (IsS60.lt (show IsS60 w0 _ g s0_0 s0_1 s0_2 from iIsS60)):g ≠ gb112));have NB112_0:=Aside0.mk ((by rw [hg];exact Nat.ne_of_gt (IsS60.lt (show IsS60 w0 _ g s0_0 s0_1 s0_2 from iIsS60)):gb112 ≠ g));replace HI0:=Aside0.mk (IsS60.below iIsS60 hb);clear hb hbox hg;have hnb38:=NB112_108.out;have hnc38:=NB108_112.out;have hnb39:=NB112_0.out;have hnc39:=NB0_112.out;have hcz40_0:w37.cell? ⟨gb112,0,none⟩ = some (.slice none 0 0):=(blk_cell BK112.out 0).trans rfl;have hfz40_0:=blk_frozen BK112.out 0)|((with_reducible refine gate_callee (f:=73) rfl ?_);refine goesL_ (some 7) rfl rfl Try.func73 (by kernel_rfl) rfl #[.pointer (some ⟨g,0,none⟩),.int .i64 40] rfl Ya ?_;(with_reducible refine (spec_l1Cur_pick.calls g s0_0 s0_1 s0_2 40 t113 t114 t115 w0 _ ?side1 ?side2 A2.out).mono ?_);(case side1=>exact iIsS60);(case side2=>exact bH);rintro e w41 ⟨rfl,hi,hb,hk⟩;refine ⟨_,rfl,?_⟩;replace BK108:=Aside0.mk (KeepBut.blk hk (g':=gb108) (o:=.cells #[.slice none 0 0] 26 (0,0)) Yq NB108_0.out (by simp));replace HO111:=Aside0.mk (Kd.R_mono (Kd.R_keep (IsS60.apart (show IsS60 w0 _ g s0_0 s0_1 s0_2 from iIsS60) (by (with_reducible repeat (first|apply Kd.R_alloc|apply Kd.R_drewN|apply Kd.R_drew));exact (Kd.R_mono (Kd.R_far (p:=⟨gb112,0,none⟩) (Kd.R_types HO111.out BK112.out (by decide)) (fun _ hk=>hk.2) (.slice Ao36 y109.length co36)) (fun _ h_=>h_.1))) (by decide)) hk (fun _ h=>h.2)) (fun _ h=>h.1));replace BK112:=Aside0.mk (KeepBut.blk hk (g':=gb112) (o:=.cells #[.slice Ao36 y109.length co36] 26 (0,0)) Yp NB112_0.out (by simp));replace HK:=Aside0.mk (KeepBut.trans kB hk (.inl rfl));replace HB:=Aside0.mk (hb);replace HI0:=Aside0.mk (hi);(try clear hb);(try clear hb2);(try clear hk);(try clear hi))|((with_reducible refine gate_dst (N:=17) rfl ?_);refine Kd.R_lit (Kd.int .i64) _ 3 ?hg (N:=17) ?hd (xs:=([1,0]:List Int)) (inner:=[.int .i64 1,.int .i64 0]) (ok:=fun _=>True) (okp:=fun _=>True) ?hr ?hp (fun _ hk=>hk) trivial (Below.refl _ _) (Nat.le_refl _) (by simp) ?_;(case hd=>rfl);(case hg=>rfl);(case hr=>exact Yd);(case hp=>exact (Reps.one (show Kd.M (Kd.int .i64) _ _ _ 1 [.int .i64 1] from rfl) (Reps.one (show Kd.M (Kd.int .i64) _ _ _ 0 [.int .i64 0] from rfl) (Reps.none _ _))));intro v120 w42 ho43 hb hg_ hnew_;clear hg_ hnew_;(first|rw [← Ny119.out] at ho43|(simp only [Int.reduceToNat] at ho43;rw [← Ny119.out] at ho43));have HO121:=Aside0.mk (Kd.R_lower (Kd.R_new' ho43 (Kd.R_lt (rR HO111))) (keep_size (w:=w) (g:=g) (row:=none) kB));replace HO111:=Aside0.mk (Kd.R_elder' (rR HO111) (Kd.R_base ho43) hb);replace BK108:=Aside0.mk (blk_below (bB BK108) hb);replace BK112:=Aside0.mk (blk_below (bB BK112) hb);replace HK:=Aside0.mk (KeepBut.trans kB (KeepBut.of_below hb g none) (.inl rfl));replace HB:=Aside0.mk (below_step bH hb);replace HI0:=Aside0.mk (IsS60.below iIsS60 hb);clear hb ho43;obtain ⟨Ao44,co44,eo44⟩:=Kd.R_slice HO121.out;subst eo44;have hcz45_0:w42.cell? ⟨gb112,0,none⟩ = some (.slice Ao36 y109.length co36):=(blk_cell BK112.out 0).trans rfl;have hfz45_0:=blk_frozen BK112.out 0;have hnb46:=NB108_0.out;have hnc46:=NB0_108.out;have hcz47_0:w42.cell? ⟨gb108,0,none⟩ = some (.slice none 0 0):=(blk_cell BK108.out 0).trans rfl;have hfz47_0:=blk_frozen BK108.out 0))
    refine bodyPost_ret (results_cell_row rfl _ _ gb108 26 #[.slice Ao44 y119.length co44] (0,0) _ rfl Yo Try.underlying26 rfl (by kernel_rfl)) rfl ?_
    exact ⟨_,Yb,by (with_reducible repeat (first|apply Kd.R_alloc|apply Kd.R_drewN|apply Kd.R_drew));exact Kd.R_mono (Kd.R_far (p:=⟨gb108,0,none⟩) (Kd.R_far (p:=⟨gb112,0,none⟩) (Kd.R_types (Kd.R_types HO121.out BK112.out (by decide)) BK108.out (by decide)) (fun _ hk=>hk.1.2) (.slice Ao44 y119.length co44)) (fun _ hk=>hk.2) (.slice Ao44 y119.length co44)) (fun _ hk=>trivial),iIsS60,bH,kB⟩
   ·rw [if_neg c32] at H
    have c32b0:(t113 == 2) = false:=beq_eq_false_iff_ne.mpr c32
    have c32b1:(t113 != 2) = true:=bne_iff_ne.mpr c32
    simp only [Option.some.injEq,Prod.mk.injEq] at H
    obtain ⟨rfl,rfl,rfl⟩:=H
    go_enter Try.func35,Try.ntmps35
    go_wp2_with (first|((with_reducible refine gate_dst (N:=2) rfl ?_);refine box_event ?hg (N:=2) ?hd (cs:=#[.slice none 0 0]) (t:=26) ?hr ?_;(case hd=>rfl);(case hg=>rfl);(case hr=>exact Yd);intro gb108 hg w48 hbox hb;replace HB:=Aside0.mk (below_step bH hb);have BK108:=Aside0.mk (hbox);have GW108:=Aside0.mk ((by rw [hg];exact (keep_size (w:=w) (g:=g) (row:=none) kB):w.heap.size ≤ gb108));have GE108:=Aside0.mk ((Nat.le_trans HW0.out (by rw [hg];exact (keep_size (w:=w) (g:=g) (row:=none) kB):w.heap.size ≤ gb108):w0.heap.size ≤ gb108));replace HK:=Aside0.mk (KeepBut.trans kB (KeepBut.of_below hb g none) (.inl rfl));have NB0_108:=Aside0.mk ((by rw [hg];exact Nat.ne_of_lt (IsS60.lt (show IsS60 w0 _ g s0_0 s0_1 s0_2 from iIsS60)):g ≠ gb108));have NB108_0:=Aside0.mk ((by rw [hg];exact Nat.ne_of_gt (IsS60.lt (show IsS60 w0 _ g s0_0 s0_1 s0_2 from iIsS60)):gb108 ≠ g));replace HI0:=Aside0.mk (IsS60.below iIsS60 hb);clear hb hbox hg)|((with_reducible refine gate_dst (N:=4) rfl ?_);refine Kd.R_lit (Kd.int .i64) _ 3 ?hg (N:=4) ?hd (xs:=([0,0,0,1,1,2]:List Int)) (inner:=[.int .i64 0,.int .i64 0,.int .i64 0,.int .i64 1,.int .i64 1,.int .i64 2]) (ok:=fun _=>True) (okp:=fun _=>True) ?hr ?hp (fun _ hk=>hk) trivial (Below.refl _ _) (Nat.le_refl _) (by simp) ?_;(case hd=>rfl);(case hg=>rfl);(case hr=>exact Yd);(case hp=>exact Yh);intro v110 w49 ho50 hb hg_ hnew_;clear hg_ hnew_;(first|rw [← Ny109.out] at ho50|(simp only [Int.reduceToNat] at ho50;rw [← Ny109.out] at ho50));have HO111:=Aside0.mk (Kd.R_lower ho50 (keep_size (w:=w) (g:=g) (row:=none) kB));replace BK108:=Aside0.mk (blk_below (bB BK108) hb);replace HK:=Aside0.mk (KeepBut.trans kB (KeepBut.of_below hb g none) (.inl rfl));replace HB:=Aside0.mk (below_step bH hb);replace HI0:=Aside0.mk (IsS60.below iIsS60 hb);clear hb ho50;obtain ⟨Ao51,co51,eo51⟩:=Kd.R_slice HO111.out;subst eo51)|((with_reducible refine gate_dst (N:=3) rfl ?_);refine box_event ?hg (N:=3) ?hd (cs:=#[.slice none 0 0]) (t:=26) ?hr ?_;(case hd=>rfl);(case hg=>rfl);(case hr=>exact Yd);intro gb112 hg w52 hbox hb;replace HO111:=Aside0.mk (Kd.R_below (rR HO111) hb);replace HB:=Aside0.mk (below_step bH hb);have BK112:=Aside0.mk (hbox);have GW112:=Aside0.mk ((by rw [hg];exact (keep_size (w:=w) (g:=g) (row:=none) kB):w.heap.size ≤ gb112));have GE112:=Aside0.mk ((Nat.le_trans HW0.out (by rw [hg];exact (keep_size (w:=w) (g:=g) (row:=none) kB):w.heap.size ≤ gb112):w0.heap.size ≤ gb112));replace HK:=Aside0.mk (KeepBut.trans kB (KeepBut.of_below hb g none) (.inl rfl));have NB108_112:=Aside0.mk ((nL BK108:gb108 ≠ gb112));have NB112_108:=Aside0.mk ((nG BK108:gb112 ≠ gb108));replace BK108:=Aside0.mk (blk_below (bB BK108) hb);have NB0_112:=Aside0.mk ((by rw [hg];exact Nat.ne_of_lt (IsS60.lt (show IsS60 w0 _ g s0_0 s0_1 s0_2 from iIsS60)):g ≠ gb112));have NB112_0:=Aside0.mk ((by rw [hg];exact Nat.ne_of_gt (IsS60.lt (show IsS60 w0 _ g s0_0 s0_1 s0_2 from iIsS60)):gb112 ≠ g));replace HI0:=Aside0.mk (IsS60.below iIsS60 hb);clear hb hbox hg;have hnb53:=NB112_108.out;have hnc53:=NB108_112.out;have hnb54:=NB112_0.out;have hnc54:=NB0_112.out;have hcz55_0:w52.cell? ⟨gb112,0,none⟩ = some (.slice none 0 0):=(blk_cell BK112.out 0).trans rfl;have hfz55_0:=blk_frozen BK112.out 0)|((with_reducible refine gate_callee (f:=73) rfl ?_);refine goesL_ (some 7) rfl rfl Try.func73 (by kernel_rfl) rfl #[.pointer (some ⟨g,0,none⟩),.int .i64 40] rfl Ya ?_;(with_reducible refine (spec_l1Cur_pick.calls g s0_0 s0_1 s0_2 40 t113 t114 t115 w0 _ ?side1 ?side2 A2.out).mono ?_);(case side1=>exact iIsS60);(case side2=>exact bH);rintro e w56 ⟨rfl,hi,hb,hk⟩;refine ⟨_,rfl,?_⟩;replace BK108:=Aside0.mk (KeepBut.blk hk (g':=gb108) (o:=.cells #[.slice none 0 0] 26 (0,0)) Yq NB108_0.out (by simp));replace HO111:=Aside0.mk (Kd.R_mono (Kd.R_keep (IsS60.apart (show IsS60 w0 _ g s0_0 s0_1 s0_2 from iIsS60) (by (with_reducible repeat (first|apply Kd.R_alloc|apply Kd.R_drewN|apply Kd.R_drew));exact (Kd.R_mono (Kd.R_far (p:=⟨gb112,0,none⟩) (Kd.R_types HO111.out BK112.out (by decide)) (fun _ hk=>hk.2) (.slice Ao51 y109.length co51)) (fun _ h_=>h_.1))) (by decide)) hk (fun _ h=>h.2)) (fun _ h=>h.1));replace BK112:=Aside0.mk (KeepBut.blk hk (g':=gb112) (o:=.cells #[.slice Ao51 y109.length co51] 26 (0,0)) Yp NB112_0.out (by simp));replace HK:=Aside0.mk (KeepBut.trans kB hk (.inl rfl));replace HB:=Aside0.mk (hb);replace HI0:=Aside0.mk (hi);(try clear hb);(try clear hb2);(try clear hk);(try clear hi);have hcz57_0:w56.cell? ⟨gb112,0,none⟩ = some (.slice Ao51 y109.length co51):=(blk_cell BK112.out 0).trans rfl;have hfz57_0:=blk_frozen BK112.out 0;have hnb58:=NB108_0.out;have hnc58:=NB0_108.out;have hcz59_0:w56.cell? ⟨gb108,0,none⟩ = some (.slice none 0 0):=(blk_cell BK108.out 0).trans rfl;have hfz59_0:=blk_frozen BK108.out 0))
    refine bodyPost_ret (results_cell_row rfl _ _ gb108 26 #[.slice Ao51 y109.length co51] (0,0) _ rfl (by (with_reducible repeat (first|refine blk_drewN ?_ _|refine blk_drew ?_|refine blk_alloc ?_ _));refine blk_put (cs:=#[.slice none 0 0]) ?_ 0 _ rfl;(with_reducible repeat (first|refine blk_drewN ?_ _|refine blk_drew ?_|refine blk_alloc ?_ _));exact BK108.out) Try.underlying26 rfl (by kernel_rfl)) rfl ?_
    exact ⟨_,Yb,by (with_reducible repeat (first|apply Kd.R_alloc|apply Kd.R_drewN|apply Kd.R_drew));exact Kd.R_mono (Kd.R_far (p:=⟨gb108,0,none⟩) (Kd.R_types HO111.out BK108.out (by decide)) (fun _ hk=>hk.2) (.slice Ao51 y109.length co51)) (fun _ hk=>trivial),iIsS60,bH,kB⟩

/-! ### spec_l1Cur_one: function 75 -/
def spec_l1Cur_one.f (s0_0:List Int) (s0_1:Int) (s0_2:Int) (a1:Int):Option (Bool × Int × Int):=(spec_l1Cur_pick.f s0_0 s0_1 s0_2 a1).bind fun bt122=>(some ((bt122.1 == 0),bt122.2.1,bt122.2.2))
set_option maxHeartbeats 8000000 in
set_option maxRecDepth 100000 in
theorem spec_l1Cur_one.calls (g:Nat) (s0_0:List Int) (s0_1:Int) (s0_2:Int) (a1:Int) (r1:Bool) (r2:Int) (r3:Int) (w0 w:World) (hI:IsS60 w0 w g s0_0 s0_1 s0_2) (hB:Below w0.heap.size w0 w) (h:spec_l1Cur_one.f s0_0 s0_1 s0_2 a1 = some (r1,r2,r3)) :
  Calls Try.prog 75 #[.pointer (some ⟨g,0,none⟩),.int .i64 a1] w fun e w'=>e = .returned (.bool r1) ∧ IsS60 w0 w' g s0_0 r2 r3 ∧ Below w0.heap.size w0 w' ∧ KeepBut w w' g none:=by
 have HI0:=Aside0.mk hI
 have HK:=Aside0.mk (KeepBut.refl w g none)
 have HL:=Aside0.mk hB.size
 clear hI
 have HW0:=Aside0.mk hB.size
 have HB:=Aside0.mk hB
 clear hB
 have H:((spec_l1Cur_pick.f s0_0 s0_1 s0_2 a1).bind fun bt122=>(some ((bt122.1 == 0),bt122.2.1,bt122.2.2))) = some (r1,r2,r3):=h
 clear h
 replace H:=Option.bind_eq_some_iff.mp H
 obtain ⟨⟨t122,t123,t124⟩,A30,H⟩:=H
 replace H:(some ((t122 == 0),t123,t124)) = some (r1,r2,r3):=H
 have A3:=Aside0.mk A30
 clear A30
 simp only [Option.some.injEq,Prod.mk.injEq] at H
 obtain ⟨rfl,rfl,rfl⟩:=H
 go_enter Try.func75,Try.ntmps75
 go_wp2_with (first|((with_reducible refine gate_callee (f:=73) rfl ?_);refine goesL_ (some 7) rfl rfl Try.func73 (by kernel_rfl) rfl #[.pointer (some ⟨g,0,none⟩),.int .i64 a1] rfl Ya ?_;(with_reducible refine (spec_l1Cur_pick.calls g s0_0 s0_1 s0_2 a1 t122 t123 t124 w0 _ ?side1 ?side2 A3.out).mono ?_);(case side1=>exact iIsS60);(case side2=>exact bH);rintro e w4 ⟨rfl,hi,hb,hk⟩;refine ⟨_,rfl,?_⟩;replace HK:=Aside0.mk (KeepBut.trans kB hk (.inl rfl));replace HB:=Aside0.mk (hb);replace HI0:=Aside0.mk (hi);(try clear hb);(try clear hb2);(try clear hk);(try clear hi)))
 go_ret
 exact ⟨Yb,iIsS60,bH,kB⟩

end Go.Proofs.Ytmgkflkfoccgkaa.QFnPutFor
