-- Written by this session's own program (wip/x/xprint.py, over the kit's printer); Lean checks it.
import Derived.Test.YtlgnanbnicmdaabQFnExactNormalClausex0
import Derived.Test.YtlgnanbnicmdaabQFnExactNormalClausex3
import Derived.Test.YtlgnanbnicmdaabQFnExactNormalClausex4
import Derived.Test.YtlgnanbnicmdaabQFnExactNormalClausex7
import Derived.Test.YtlgnanbnicmdaabQFnExactNormalClausex8
namespace Go.Proofs.Ytlgnanbnicmdaab.QFnExactNormalClause
open Go.RowKit Go.Proofs.YtlgnanbnicmdaabW.PrintWords Go.Proofs.YtlgnanbnicmdaabW.PrintLast Go.Proofs.YtlgnanbnicmdaabW.PrintMore
attribute [local go_sem] max2_int min2_int max_two min_two max_three min_three max_four min_four   -- for this text's walks alone
set_option linter.unusedVariables false
set_option linter.unusedSimpArgs false

/-! ### spec_l4Tidy: function 118, by a walk of this session's own -/
def l4any (k:Nat) (x:S65):List S65 → Bool → Option Bool
  | [],b=>some b
  | y :: t,b=>if b = true then l4any k x t true else if (x.f0 == y.f0) = true then (spec_l4SameTerms.f k x.f0 x.f1 x.f2 y.f0 y.f1 y.f2).bind fun c=>l4any k x t c else l4any k x t false
def l4tid (k:Nat):List S65 → List S65 → Option (List S65)
  | acc,[]=>some acc
  | acc,x :: t=>(if x.f0 = true then some false else spec_l1Same.f k x.f1 x.f2).bind fun skip=>if skip = true then l4tid k acc t else (l4any k x acc false).bind fun there=>if there = true then l4tid k acc t else l4tid k (acc ++ [x]) t
def spec_l4Tidy.f (k:Nat) (l:List S65):Option (List S65):=if l.length ≤ 1048576 then (l4tid k [] l).bind fun o=>spec_l4Own.f k o else none
theorem l4any_mono (k:Nat) (x:S65) (l:List S65):∀ b,LeO (l4any k x l b) (l4any (k + 1) x l b):=by
  induction l with
  | nil=>intro b r h;exact h
  | cons y t ih =>
    intro b r h
    simp only [l4any] at h ⊢
    split at h
    · rename_i g;rw [if_pos g];exact ih _ r h
    · rename_i g
      rw [if_neg g]
      split at h
      · rename_i g2
        rw [if_pos g2]
        obtain ⟨c,hc,h⟩:=Option.bind_eq_some_iff.1 h
        rw [spec_l4SameTerms.mono _ _ _ _ _ _ k c hc,Option.bind_some]
        exact ih _ r h
      · rename_i g2;rw [if_neg g2];exact ih _ r h
theorem l4tid_mono (k:Nat) (l:List S65):∀ acc,LeO (l4tid k acc l) (l4tid (k + 1) acc l):=by
  induction l with
  | nil=>intro acc r h;exact h
  | cons x t ih =>
    intro acc r h
    simp only [l4tid] at h ⊢
    obtain ⟨s,hs,h⟩:=Option.bind_eq_some_iff.1 h
    have hs2:(if x.f0 = true then some false else spec_l1Same.f (k + 1) x.f1 x.f2) = some s:=by
      split at hs
      · rename_i g;rw [if_pos g];exact hs
      · rename_i g;rw [if_neg g];exact spec_l1Same.mono _ _ k s hs
    rw [hs2,Option.bind_some]
    split at h
    · rename_i g;rw [if_pos g];exact ih _ r h
    · rename_i g
      rw [if_neg g]
      obtain ⟨b,hb,h⟩:=Option.bind_eq_some_iff.1 h
      rw [l4any_mono k x acc false b hb,Option.bind_some]
      split at h
      · rename_i g2;rw [if_pos g2];exact ih _ r h
      · rename_i g2;rw [if_neg g2];exact ih _ r h
theorem spec_l4Tidy.mono (l:List S65) (k:Nat):LeO (spec_l4Tidy.f k l) (spec_l4Tidy.f (k + 1) l):=by
  intro r h
  unfold spec_l4Tidy.f at h ⊢
  split at h
  rotate_left
  · cases h
  rename_i g
  rw [if_pos g]
  obtain ⟨o,ho,h⟩:=Option.bind_eq_some_iff.1 h
  rw [l4tid_mono k l [] o ho,Option.bind_some]
  exact spec_l4Own.mono _ k r h
set_option maxHeartbeats 16000000 in
set_option maxRecDepth 1000000 in
theorem spec_l4Tidy.calls (k:Nat) (A0:Option Addr) (c0:Nat) (l0:List S65) (r:List S65) (w:World) (hr0:Kd.C k65 w A0 l0.length l0) (hc0:l0.length ≤ c0) (h:spec_l4Tidy.f k l0 = some r) :
    Calls Try.prog 118 #[.slice A0 l0.length c0] w fun e w'=>∃ v0_:Value,e = .returned v0_ ∧ Kd.S k65 65 w' w.heap.size (fun _=>True) v0_ r ∧ Below w.heap.size w w':=by
  unfold spec_l4Tidy.f at h
  split at h
  rotate_left
  · cases h
  rename_i hn
  obtain ⟨o,ho,h⟩:=Option.bind_eq_some_iff.1 h
  have H0:=Aside0.mk hr0
  have HO0:=Aside0.mk ho
  have HW:=Aside0.mk h
  clear h hr0 ho
  go_enter Try.func118,Try.ntmps118
  go_wp2
  go_loopw [3,11] (fun v3 v11 wr=>∃ (j:Nat) (acc:List S65),j ≤ l0.length ∧ acc.length ≤ j ∧ v11 = .int .i64 j ∧ Hid (l4tid k acc (l0.drop j) = some o) ∧ Hid (Kd.N k65 65 wr w.heap.size (fun _=>True) v3 acc) ∧ Hid (Below w.heap.size w wr)) (fun _ v11 _=>l0.length - (intOf v11).toNat)
  case atStart=>exact ⟨0,[],Nat.zero_le _,Nat.zero_le _,rfl,HO0.out,Kd.N_nil _ _ _ _ _,Below.refl _ _⟩
  case round =>
    clear HO0
    obtain ⟨j,acc,hj,hal,rfl,htd,hN,hB⟩:=hrel
    unfold Hid at htd hN hB
    obtain ⟨A3,c3,rfl⟩:=Kd.N_slice hN
    by_cases hp:j < l0.length
    · obtain ⟨ad,L1,e1,L2,e2,eA,q0,q1,q2,z1,i1,z2,i2⟩:=at_T65 H0.out (j:Int) (by omega) (by omega)
      have hrd:rd_T65 l0 (j:Int) = l0[j]:=by unfold rd_T65;simp [List.getD_eq_getElem?_getD,hp]
      rw [Int.toNat_natCast] at q0 q1 q2
      rw [hrd] at q0 q1 q2 z1 i1 z2 i2
      subst eA
      rw [List.drop_eq_getElem_cons hp] at htd
      generalize l0[j] = x at htd q0 q1 q2 z1 i1 z2 i2
      clear hrd
      obtain ⟨xp,xa,xb⟩:=x
      simp only at q0 q1 q2 z1 i1 z2 i2
      simp only [l4tid] at htd
      obtain ⟨skip,hskip,htd⟩:=Option.bind_eq_some_iff.1 htd
      have HFK:=Aside0.mk (k65_mkF w (fun k_=>k_ < w.heap.size) (⟨xp,xa,xb⟩:S65) z1 (Kd.C_F (Kd.heap_int _) i1) z2 (Kd.C_F (Kd.heap_int _) i2))
      replace q0:=(hB.cell (World.block_lt_of_cell? w _ q0)).trans q0
      replace q1:=(hB.cell (World.block_lt_of_cell? w _ q1)).trans q1
      replace q2:=(hB.cell (World.block_lt_of_cell? w _ q2)).trans q2
      have I1:=Aside0.mk i1
      have I2:=Aside0.mk i2
      have HSK:=Aside0.mk hskip
      have HR:=Aside0.mk htd
      have HN:=Aside0.mk hN
      have HB:=Aside0.mk hB
      have HAL:=Aside0.mk hal
      have halb:acc.length ≤ 1048576:=by omega
      clear htd hN hB i1 i2 hskip hal
      go_upto_region 5 with fail
      have hbl:=below_alloc (Below.refl wr.heap.size wr) (.cells #[.bool xp,.slice L1 xa.length e1,.slice L2 xb.length e2] 65)
      have HX:=Aside0.mk (heap_alloc_new wr (.cells #[.bool xp,.slice L1 xa.length e1,.slice L2 xb.length e2] 65))
      have HN:=Aside0.mk (Kd.N_alloc HN.out (.cells #[.bool xp,.slice L1 xa.length e1,.slice L2 xb.length e2] 65))
      have HB:=Aside0.mk (below_step HB.out hbl)
      clear q0 q1 q2 hbl
      obtain ⟨g,hg⟩:∃ g,g = wr.heap.size:=⟨_,rfl⟩
      generalize wr.alloc (.cells #[.bool xp,.slice L1 xa.length e1,.slice L2 xb.length e2] 65) = W3 at HX HN HB ⊢
      rw [← hg] at HX ⊢
      clear hg
      have a0:W3.cell? ⟨g,0,none⟩ = some (.bool xp):=(blk_cell HX.out 0).trans rfl
      have a1:W3.cell? ⟨g,1,none⟩ = some (.slice L1 xa.length e1):=(blk_cell HX.out 1).trans rfl
      have a2:W3.cell? ⟨g,2,none⟩ = some (.slice L2 xb.length e2):=(blk_cell HX.out 2).trans rfl
      cases xp with
      | true =>
        have hsk:=HSK.out
        simp only [if_true,Option.some.injEq] at hsk
        subst hsk
        have hr9:=HR.out
        simp only [Bool.false_eq_true,if_false] at hr9
        obtain ⟨there,han,hr9⟩:=Option.bind_eq_some_iff.1 hr9
        have HR:=Aside0.mk hr9
        have HAN:=Aside0.mk han
        clear hr9 han HSK
        go_wp2
        go_loopw [6,27] (fun v6 v27 Wq=>∃ (i:Nat) (b:Bool),i ≤ acc.length ∧ v6 = .bool b ∧ v27 = .int .i64 i ∧ Hid (l4any k (⟨true,xa,xb⟩:S65) (acc.drop i) b = some there) ∧ Hid (Kd.N k65 65 Wq w.heap.size (fun _=>True) (.slice A3 acc.length c3) acc) ∧ Hid (Wq.heap[g]? = some (.cells #[.bool true,.slice L1 xa.length e1,.slice L2 xb.length e2] 65 (0,0))) ∧ Hid (Below w.heap.size w Wq)) (fun _ v27 _=>acc.length - (intOf v27).toNat)
        case atStart=>exact ⟨0,false,Nat.zero_le _,rfl,rfl,HAN.out,HN.out,HX.out,HB.out⟩
        case round =>
          rename World=>Wq
          clear HN HX HB HAN
          obtain ⟨i,b,hi,rfl,rfl,han,hN,hX,hB⟩:=hrel
          unfold Hid at han hN hX hB
          by_cases hq:i < acc.length
          · obtain ⟨ay,M1,f1,M2,f2,eY,p0,p1,p2,y1,g1,y2,g2⟩:=at_T65 (Kd.N_reads' hN).2.2 (i:Int) (by omega) (by omega)
            have hrdy:rd_T65 acc (i:Int) = acc[i]:=by unfold rd_T65;simp [List.getD_eq_getElem?_getD,hq]
            rw [Int.toNat_natCast] at p0 p1 p2
            rw [hrdy] at p0 p1 p2 y1 g1 y2 g2
            subst eY
            rw [List.drop_eq_getElem_cons hq] at han
            generalize acc[i] = y at han p0 p1 p2 y1 g1 y2 g2
            clear hrdy
            simp only [l4any] at han
            have HAN:=Aside0.mk han
            have G1:=Aside0.mk g1
            have G2:=Aside0.mk g2
            have HN:=Aside0.mk hN
            have HX:=Aside0.mk hX
            have HB:=Aside0.mk hB
            clear han hN hX hB g1 g2
            go_upto_region 10 with fail
            have hbl:=below_alloc (Below.refl Wq.heap.size Wq) (.cells #[.bool y.f0,.slice M1 y.f1.length f1,.slice M2 y.f2.length f2] 65)
            have HY:=Aside0.mk (heap_alloc_new Wq (.cells #[.bool y.f0,.slice M1 y.f1.length f1,.slice M2 y.f2.length f2] 65))
            replace HX:=Aside0.mk (blk_alloc HX.out (.cells #[.bool y.f0,.slice M1 y.f1.length f1,.slice M2 y.f2.length f2] 65))
            replace HN:=Aside0.mk (Kd.N_alloc HN.out (.cells #[.bool y.f0,.slice M1 y.f1.length f1,.slice M2 y.f2.length f2] 65))
            replace G1:=Aside0.mk (Kd.C_below G1.out hbl)
            replace G2:=Aside0.mk (Kd.C_below G2.out hbl)
            have HB:=Aside0.mk (below_step HB.out hbl)
            clear p0 p1 p2 hbl
            obtain ⟨gy,hgy⟩:∃ g_,g_ = Wq.heap.size:=⟨_,rfl⟩
            generalize Wq.alloc (.cells #[.bool y.f0,.slice M1 y.f1.length f1,.slice M2 y.f2.length f2] 65) = W4 at HX HY HN HB G1 G2 ⊢
            rw [← hgy] at HY ⊢
            clear hgy
            have a0:W4.cell? ⟨g,0,none⟩ = some (.bool true):=(blk_cell HX.out 0).trans rfl
            have a1:W4.cell? ⟨g,1,none⟩ = some (.slice L1 xa.length e1):=(blk_cell HX.out 1).trans rfl
            have a2:W4.cell? ⟨g,2,none⟩ = some (.slice L2 xb.length e2):=(blk_cell HX.out 2).trans rfl
            have b0:W4.cell? ⟨gy,0,none⟩ = some (.bool y.f0):=(blk_cell HY.out 0).trans rfl
            have b1:W4.cell? ⟨gy,1,none⟩ = some (.slice M1 y.f1.length f1):=(blk_cell HY.out 1).trans rfl
            have b2:W4.cell? ⟨gy,2,none⟩ = some (.slice M2 y.f2.length f2):=(blk_cell HY.out 2).trans rfl
            obtain ⟨yp,ya,yb⟩:=y
            simp only at HAN HY G1 G2 b0 b1 b2 y1 y2 ⊢
            cases b with
            | true =>
              go_wp2
              go_roundw
              case rel=>exact ⟨i + 1,true,hq,rfl,rfl,by have:=HAN.out;unfold Hid;simpa using this,HN.out,HX.out,HB.out⟩
              case measure=>simp [intOf];omega
            | false =>
              cases yp with
              | true =>
                have han:=HAN.out
                simp only [Bool.false_eq_true,if_false,beq_self_eq_true,if_true] at han
                obtain ⟨c9,hc9,han⟩:=Option.bind_eq_some_iff.1 han
                have HAN:=Aside0.mk han
                have hcall:=spec_l4SameTerms.calls k true L1 e1 xa L2 e2 xb true M1 f1 ya M2 f2 yb c9 W4 (Kd.C_below I1.out HB.out) z1 (Kd.C_below I2.out HB.out) z2 G1.out y1 G2.out y2 hc9
                clear han hc9
                go_wp2_with (go_at_call 137;refine hcall.mono ?_;first|rintro e_ W5 rfl hd|rintro e_ W5 ⟨rfl,hd⟩;have HN:=Aside0.mk (Kd.N_below HN.out hd);have HX:=Aside0.mk ((hd.block g (blk_lt HX.out)).trans HX.out);have HB:=Aside0.mk (below_step HB.out hd);clear hd)
                go_roundw
                case rel=>exact ⟨i + 1,c9,hq,rfl,rfl,HAN.out,HN.out,HX.out,HB.out⟩
                case measure=>simp [intOf];omega
              | false =>
                go_wp2
                go_roundw
                case rel=>exact ⟨i + 1,false,hq,rfl,rfl,by have:=HAN.out;unfold Hid;simpa using this,HN.out,HX.out,HB.out⟩
                case measure=>simp [intOf];omega
          · obtain rfl:i = acc.length:=by omega
            rw [List.drop_length] at han
            simp only [l4any,Option.some.injEq] at han
            subst han
            have HN:=Aside0.mk hN
            have HX:=Aside0.mk hX
            have HB:=Aside0.mk hB
            clear hN hX hB
            have a0:Wq.cell? ⟨g,0,none⟩ = some (.bool true):=(blk_cell HX.out 0).trans rfl
            have a1:Wq.cell? ⟨g,1,none⟩ = some (.slice L1 xa.length e1):=(blk_cell HX.out 1).trans rfl
            have a2:Wq.cell? ⟨g,2,none⟩ = some (.slice L2 xb.length e2):=(blk_cell HX.out 2).trans rfl
            cases b with
            | true =>
              go_wp2
              go_roundw
              case rel=>exact ⟨j + 1,acc,hp,by have:=HAL.out;omega,rfl,by have:=HR.out;unfold Hid;simpa using this,HN.out,HB.out⟩
              case measure=>simp [intOf];omega
            | false =>
              go_wp2_with ((with_reducible refine gate_builtin (b:=.append) (xs:=#[.tmp 47,.tmp 49]) rfl ?_);at_builtin;refine Kd.N_append k65 (w0:=w) w.heap.size rfl (.tmp 47) (.tmp 49) 33 65 (.agg #[.bool false,.slice none 0 0,.slice none 0 0]) 56 rfl Try.underlying33 info65 rfl (by decide) (by decide) (.slice A3 acc.length c3) acc (⟨true,xa,xb⟩:S65) [.bool true,.slice L1 xa.length e1,.slice L2 xb.length e2] (fun _=>True) (fun k_=>k_ < w.heap.size) rfl rfl (Kd.FK_below HFK.out HB.out) (fun k_ hk=>⟨trivial,fun q_=>by have:=Kd.N_base HN.out k_ q_.symm;omega⟩) (fun _ _=>trivial) HN.out HB.out HB.out.size (by have:=HAL.out;omega) ?_;intro v1 w1 ho hb hg_ hat_;have HO:=Aside0.mk ho;have HB:=Aside0.mk hb;clear ho hb hg_ hat_)
              go_roundw
              case rel=>exact ⟨j + 1,acc ++ [(⟨true,xa,xb⟩:S65)],hp,by have:=HAL.out;rw [List.length_append,List.length_singleton];omega,rfl,by have:=HR.out;unfold Hid;simpa using this,HO.out,HB.out⟩
              case measure=>simp [intOf];omega
      | false =>
        have hsk:=HSK.out
        simp only [Bool.false_eq_true,if_false] at hsk
        have hcall:=spec_l1Same.calls k L1 e1 xa L2 e2 xb skip W3 (Kd.C_below I1.out HB.out) z1 (Kd.C_below I2.out HB.out) z2 hsk
        clear hsk HSK
        cases skip with
        | true =>
          go_wp2_with (go_at_call 127;refine hcall.mono ?_;first|rintro e_ W4 rfl hd|rintro e_ W4 ⟨rfl,hd⟩;have HN:=Aside0.mk (Kd.N_below HN.out hd.below);have HB:=Aside0.mk (below_step HB.out hd.below);clear hd)
          go_roundw
          case rel=>exact ⟨j + 1,acc,hp,by have:=HAL.out;omega,rfl,by have:=HR.out;unfold Hid;simpa using this,HN.out,HB.out⟩
          case measure=>simp [intOf];omega
        | false =>
          have hr9:=HR.out
          simp only [Bool.false_eq_true,if_false] at hr9
          obtain ⟨there,han,hr9⟩:=Option.bind_eq_some_iff.1 hr9
          have HR:=Aside0.mk hr9
          have HAN:=Aside0.mk han
          clear hr9 han
          go_upto_region 6 with (go_at_call 127;refine hcall.mono ?_;first|rintro e_ W4 rfl hd|rintro e_ W4 ⟨rfl,hd⟩;have HN:=Aside0.mk (Kd.N_below HN.out hd.below);have HX:=Aside0.mk ((hd.below.block g (blk_lt HX.out)).trans HX.out);have HB:=Aside0.mk (below_step HB.out hd.below);clear hd)
          clear hcall a0 a1 a2
          go_wp2
          go_loopw [6,27] (fun v6 v27 Wq=>∃ (i:Nat) (b:Bool),i ≤ acc.length ∧ v6 = .bool b ∧ v27 = .int .i64 i ∧ Hid (l4any k (⟨false,xa,xb⟩:S65) (acc.drop i) b = some there) ∧ Hid (Kd.N k65 65 Wq w.heap.size (fun _=>True) (.slice A3 acc.length c3) acc) ∧ Hid (Wq.heap[g]? = some (.cells #[.bool false,.slice L1 xa.length e1,.slice L2 xb.length e2] 65 (0,0))) ∧ Hid (Below w.heap.size w Wq)) (fun _ v27 _=>acc.length - (intOf v27).toNat)
          case atStart=>exact ⟨0,false,Nat.zero_le _,rfl,rfl,HAN.out,HN.out,HX.out,HB.out⟩
          case round =>
            rename World=>Wq
            clear HN HX HB HAN
            obtain ⟨i,b,hi,rfl,rfl,han,hN,hX,hB⟩:=hrel
            unfold Hid at han hN hX hB
            by_cases hq:i < acc.length
            · obtain ⟨ay,M1,f1,M2,f2,eY,p0,p1,p2,y1,g1,y2,g2⟩:=at_T65 (Kd.N_reads' hN).2.2 (i:Int) (by omega) (by omega)
              have hrdy:rd_T65 acc (i:Int) = acc[i]:=by unfold rd_T65;simp [List.getD_eq_getElem?_getD,hq]
              rw [Int.toNat_natCast] at p0 p1 p2
              rw [hrdy] at p0 p1 p2 y1 g1 y2 g2
              subst eY
              rw [List.drop_eq_getElem_cons hq] at han
              generalize acc[i] = y at han p0 p1 p2 y1 g1 y2 g2
              clear hrdy
              simp only [l4any] at han
              have HAN:=Aside0.mk han
              have G1:=Aside0.mk g1
              have G2:=Aside0.mk g2
              have HN:=Aside0.mk hN
              have HX:=Aside0.mk hX
              have HB:=Aside0.mk hB
              clear han hN hX hB g1 g2
              go_upto_region 10 with fail
              have hbl:=below_alloc (Below.refl Wq.heap.size Wq) (.cells #[.bool y.f0,.slice M1 y.f1.length f1,.slice M2 y.f2.length f2] 65)
              have HY:=Aside0.mk (heap_alloc_new Wq (.cells #[.bool y.f0,.slice M1 y.f1.length f1,.slice M2 y.f2.length f2] 65))
              replace HX:=Aside0.mk (blk_alloc HX.out (.cells #[.bool y.f0,.slice M1 y.f1.length f1,.slice M2 y.f2.length f2] 65))
              replace HN:=Aside0.mk (Kd.N_alloc HN.out (.cells #[.bool y.f0,.slice M1 y.f1.length f1,.slice M2 y.f2.length f2] 65))
              replace G1:=Aside0.mk (Kd.C_below G1.out hbl)
              replace G2:=Aside0.mk (Kd.C_below G2.out hbl)
              have HB:=Aside0.mk (below_step HB.out hbl)
              clear p0 p1 p2 hbl
              obtain ⟨gy,hgy⟩:∃ g_,g_ = Wq.heap.size:=⟨_,rfl⟩
              generalize Wq.alloc (.cells #[.bool y.f0,.slice M1 y.f1.length f1,.slice M2 y.f2.length f2] 65) = W4 at HX HY HN HB G1 G2 ⊢
              rw [← hgy] at HY ⊢
              clear hgy
              have a0:W4.cell? ⟨g,0,none⟩ = some (.bool false):=(blk_cell HX.out 0).trans rfl
              have a1:W4.cell? ⟨g,1,none⟩ = some (.slice L1 xa.length e1):=(blk_cell HX.out 1).trans rfl
              have a2:W4.cell? ⟨g,2,none⟩ = some (.slice L2 xb.length e2):=(blk_cell HX.out 2).trans rfl
              have b0:W4.cell? ⟨gy,0,none⟩ = some (.bool y.f0):=(blk_cell HY.out 0).trans rfl
              have b1:W4.cell? ⟨gy,1,none⟩ = some (.slice M1 y.f1.length f1):=(blk_cell HY.out 1).trans rfl
              have b2:W4.cell? ⟨gy,2,none⟩ = some (.slice M2 y.f2.length f2):=(blk_cell HY.out 2).trans rfl
              obtain ⟨yp,ya,yb⟩:=y
              simp only at HAN HY G1 G2 b0 b1 b2 y1 y2 ⊢
              cases b with
              | true =>
                go_wp2
                go_roundw
                case rel=>exact ⟨i + 1,true,hq,rfl,rfl,by have:=HAN.out;unfold Hid;simpa using this,HN.out,HX.out,HB.out⟩
                case measure=>simp [intOf];omega
              | false =>
                cases yp with
                | true =>
                  go_wp2
                  go_roundw
                  case rel=>exact ⟨i + 1,false,hq,rfl,rfl,by have:=HAN.out;unfold Hid;simpa using this,HN.out,HX.out,HB.out⟩
                  case measure=>simp [intOf];omega
                | false =>
                  have han:=HAN.out
                  simp only [Bool.false_eq_true,if_false,beq_self_eq_true,if_true] at han
                  obtain ⟨c9,hc9,han⟩:=Option.bind_eq_some_iff.1 han
                  have HAN:=Aside0.mk han
                  have hcall:=spec_l4SameTerms.calls k false L1 e1 xa L2 e2 xb false M1 f1 ya M2 f2 yb c9 W4 (Kd.C_below I1.out HB.out) z1 (Kd.C_below I2.out HB.out) z2 G1.out y1 G2.out y2 hc9
                  clear han hc9
                  go_wp2_with (go_at_call 137;refine hcall.mono ?_;first|rintro e_ W5 rfl hd|rintro e_ W5 ⟨rfl,hd⟩;have HN:=Aside0.mk (Kd.N_below HN.out hd);have HX:=Aside0.mk ((hd.block g (blk_lt HX.out)).trans HX.out);have HB:=Aside0.mk (below_step HB.out hd);clear hd)
                  go_roundw
                  case rel=>exact ⟨i + 1,c9,hq,rfl,rfl,HAN.out,HN.out,HX.out,HB.out⟩
                  case measure=>simp [intOf];omega
            · obtain rfl:i = acc.length:=by omega
              rw [List.drop_length] at han
              simp only [l4any,Option.some.injEq] at han
              subst han
              have HN:=Aside0.mk hN
              have HX:=Aside0.mk hX
              have HB:=Aside0.mk hB
              clear hN hX hB
              have a0:Wq.cell? ⟨g,0,none⟩ = some (.bool false):=(blk_cell HX.out 0).trans rfl
              have a1:Wq.cell? ⟨g,1,none⟩ = some (.slice L1 xa.length e1):=(blk_cell HX.out 1).trans rfl
              have a2:Wq.cell? ⟨g,2,none⟩ = some (.slice L2 xb.length e2):=(blk_cell HX.out 2).trans rfl
              cases b with
              | true =>
                go_wp2
                go_roundw
                case rel=>exact ⟨j + 1,acc,hp,by have:=HAL.out;omega,rfl,by have:=HR.out;unfold Hid;simpa using this,HN.out,HB.out⟩
                case measure=>simp [intOf];omega
              | false =>
                go_wp2_with ((with_reducible refine gate_builtin (b:=.append) (xs:=#[.tmp 47,.tmp 49]) rfl ?_);at_builtin;refine Kd.N_append k65 (w0:=w) w.heap.size rfl (.tmp 47) (.tmp 49) 33 65 (.agg #[.bool false,.slice none 0 0,.slice none 0 0]) 56 rfl Try.underlying33 info65 rfl (by decide) (by decide) (.slice A3 acc.length c3) acc (⟨false,xa,xb⟩:S65) [.bool false,.slice L1 xa.length e1,.slice L2 xb.length e2] (fun _=>True) (fun k_=>k_ < w.heap.size) rfl rfl (Kd.FK_below HFK.out HB.out) (fun k_ hk=>⟨trivial,fun q_=>by have:=Kd.N_base HN.out k_ q_.symm;omega⟩) (fun _ _=>trivial) HN.out HB.out HB.out.size (by have:=HAL.out;omega) ?_;intro v1 w1 ho hb hg_ hat_;have HO:=Aside0.mk ho;have HB:=Aside0.mk hb;clear ho hb hg_ hat_)
                go_roundw
                case rel=>exact ⟨j + 1,acc ++ [(⟨false,xa,xb⟩:S65)],hp,by have:=HAL.out;rw [List.length_append,List.length_singleton];omega,rfl,by have:=HR.out;unfold Hid;simpa using this,HO.out,HB.out⟩
                case measure=>simp [intOf];omega
    · obtain rfl:j = l0.length:=by omega
      rw [List.drop_length] at htd
      simp only [l4tid,Option.some.injEq] at htd
      subst htd
      have hcall:=spec_l4Own.calls k A3 c3 acc r wr (Kd.N_reads' hN).2.2 (Kd.N_reads' hN).2.1 HW.out
      have HB:=Aside0.mk hB
      clear hN hB
      go_wp2_with (go_at_call 138;refine hcall.mono ?_;first|rintro e_ W4 v rfl hr hd|rintro e_ W4 ⟨v,rfl,hr,hd⟩;have HR:=Aside0.mk (Kd.S_lower hr HB.out.size);have HB:=Aside0.mk (below_step HB.out hd);clear hr hd)
      go_ret
      exact ⟨_,rfl,HR.out,HB.out⟩

/-! ### spec_l6Out: function 84 -/
def spec_l6Out.f (k:Nat) (l0:List (S65)):Option ((List (S65))):=(spec_l4Tidy.f k l0).bind fun t321=>((spec_l4Rename.f k t321).bind fun t324=>(some t324))
theorem spec_l6Out.mono:∀ a0 k,LeO (spec_l6Out.f k a0) (spec_l6Out.f (k + 1) a0):=by
 intro a0 k
 unfold spec_l6Out.f
 have m0:=@spec_l4Rename.mono
 have m1:=@spec_l4Tidy.mono
 exact mO
set_option maxHeartbeats 8000000 in
set_option maxRecDepth 100000 in
theorem spec_l6Out.calls (k:Nat) (A0:Option Addr) (c0:Nat) (l0:List (S65)) (r:List (S65)) (w:World) (hr0:Kd.C k65 w A0 l0.length l0) (hc0:l0.length ≤ c0) (h:spec_l6Out.f k l0 = some r) :
  Calls Try.prog 84 #[.slice A0 l0.length c0] w fun e w'=>∃ v0_:Value,e = .returned (v0_) ∧ Kd.S k65 65 w' w.heap.size (fun _=>True) v0_ r ∧ Below w.heap.size w w':=by
 have HR0:=Aside0.mk hr0
 have HC0:=Aside0.mk hc0
 clear hr0 hc0
 have HB:=Aside0.mk (Below.refl w.heap.size w)
 have H:((spec_l4Tidy.f k l0).bind fun t321=>((spec_l4Rename.f k t321).bind fun t324=>(some t324))) = some r:=h
 clear h
 replace H:=Option.bind_eq_some_iff.mp H
 obtain ⟨t321,A20,H⟩:=H
 replace H:((spec_l4Rename.f k t321).bind fun t324=>(some t324)) = some r:=H
 have A2:=Aside0.mk A20
 clear A20
 replace H:=Option.bind_eq_some_iff.mp H
 obtain ⟨t324,A30,H⟩:=H
 replace H:(some t324) = some r:=H
 have A3:=Aside0.mk A30
 clear A30
 obtain rfl:=Option.some.inj H
 go_enter Try.func84,Try.ntmps84
 go_wp2_with (first|((with_reducible refine gate_callee (f:=118) rfl ?_);refine goesL_ (some 4) rfl rfl Try.func118 (by kernel_rfl) rfl #[.slice A0 l0.length c0] rfl Ya ?_;(with_reducible refine (spec_l4Tidy.calls k _ _ l0 t321 _ ?side1 ?side2 A2.out).mono ?_);(case side1=>repeat (first|exact HR0.out|(with_reducible refine Kd.C_alloc ?_ _)|(with_reducible refine Kd.C_drewN ?_ _)|(with_reducible refine Kd.C_drew ?_)));(case side2=>exact HC0.out);rintro e w4 ⟨v322,rfl,ho0,hb⟩;refine ⟨_,rfl,?_⟩;have HO323:=Aside0.mk (Kd.S_lower ho0 (below_size bH));replace HB:=Aside0.mk (below_step bH hb);(try clear hb);(try clear hb2);(try clear hk);(try clear hi);(try clear ho0);obtain ⟨Ao5,co5,eo5⟩:=Kd.S_slice HO323.out;subst eo5)|((with_reducible refine gate_callee (f:=117) rfl ?_);refine goesL_ (some 5) rfl rfl Try.func117 (by kernel_rfl) rfl #[.slice Ao5 t321.length co5] rfl Ya ?_;(with_reducible refine (spec_l4Rename.calls k _ _ t321 t324 _ ?side1 ?side2 A3.out).mono ?_);(case side1=>repeat (first|exact (Kd.S_reads' HO323.out).2.2|(with_reducible refine Kd.C_alloc ?_ _)|(with_reducible refine Kd.C_drewN ?_ _)|(with_reducible refine Kd.C_drew ?_)));(case side2=>exact (Kd.S_reads' HO323.out).2.1);rintro e w6 ⟨v325,rfl,ho0,hb⟩;refine ⟨_,rfl,?_⟩;have HO326:=Aside0.mk (Kd.S_lower (Kd.S_new' ho0 (Kd.S_lt (rS HO323))) (below_size bH));replace HO323:=Aside0.mk (Kd.S_elder' (rS HO323) (Kd.S_base ho0) hb);replace HB:=Aside0.mk (below_step bH hb);(try clear hb);(try clear hb2);(try clear hk);(try clear hi);(try clear ho0)))
 go_ret
 exact ⟨_,by first|rfl|(simp [errW_none,errW_some] <;> rfl)|(simp [*,errW_none,errW_some] <;> rfl),by (with_reducible repeat (first|apply Kd.S_alloc|apply Kd.S_drewN|apply Kd.S_drew));exact Kd.S_mono HO326.out (fun _ hk=>trivial),bH⟩

/-! ### spec_l7Clause: function 51 -/
def spec_l7Clause.l0:Nat → List (S65) → List (S65) → Int → List (S65) → Int → Int → List Int → Option ((List (S65)) × Int)
 | 0,_,_,_,_,_,_,_=>none
 | k + 1,x2,x8,x9,x16,x17,x18,x328000=>if x18 < x17 then (if 0 ≤ x18 then (if x18 < (x16.length:Int) then ((spec_l7Normal.f k x328000 ((rd_T65 x16 x18).f1) x2).bind fun bt330=>((spec_l7Normal.f k x328000 ((rd_T65 x16 x18).f2) x2).bind fun bt334=>(if x8.length < 2513169434916 then (spec_l7Clause.l0 k x2 (x8 ++ [(⟨(rd_T65 x16 x18).f0,bt330.1,bt334.1⟩:S65)]) (wrap64 (x9 + (wrap64 (bt330.2 + bt334.2)))) x16 x17 (wrap64 (x18 + 1)) x328000) else (none)))) else (none)) else (none)) else ((spec_l6Out.f k x8).bind fun t341=>(some (t341,x9)))
def spec_l7Clause.f (k:Nat) (l0_0:List Int) (l1:List (S65)) (l2:List (S65)):Option ((List (S65)) × Int):=spec_l7Clause.l0 k l2 ([]:List (S65)) 0 l1 (l1.length:Int) 0 l0_0
theorem spec_l7Clause.mono_l:∀ k,(∀ y0 y1 y2 y3 y4 y5 y6,LeO (spec_l7Clause.l0 k y0 y1 y2 y3 y4 y5 y6) (spec_l7Clause.l0 (k + 1) y0 y1 y2 y3 y4 y5 y6))
 | 0=>fun _ _ _ _ _ _ _ r h=>by simp [spec_l7Clause.l0] at h
 | k + 1=>by
  have ih0:=spec_l7Clause.mono_l k
  ·intro y0 y1 y2 y3 y4 y5 y6
   unfold spec_l7Clause.l0
   have m0:=@spec_l6Out.mono
   have m1:=@spec_l7Normal.mono
   exact mO
theorem spec_l7Clause.mono:∀ a0 a1 a2 k,LeO (spec_l7Clause.f k a0 a1 a2) (spec_l7Clause.f (k + 1) a0 a1 a2):=by
 intro a0 a1 a2 k
 have ih0:=spec_l7Clause.mono_l k
 unfold spec_l7Clause.f
 have m0:=@spec_l6Out.mono
 have m1:=@spec_l7Normal.mono
 exact mO
set_option maxHeartbeats 8000000 in
set_option maxRecDepth 100000 in
theorem spec_l7Clause.calls (k:Nat) (A0_0:Option Addr) (c0_0:Nat) (l0_0:List Int) (A1:Option Addr) (c1:Nat) (l1:List (S65)) (A2:Option Addr) (c2:Nat) (l2:List (S65)) (r1:List (S65)) (r2:Int) (w:World) (hr0_0:Kd.C (Kd.int .i64) w A0_0 l0_0.length l0_0) (hc0_0:l0_0.length ≤ c0_0) (hr1:Kd.C k65 w A1 l1.length l1) (hc1:l1.length ≤ c1) (hr2:Kd.C k65 w A2 l2.length l2) (hc2:l2.length ≤ c2) (h:spec_l7Clause.f k l0_0 l1 l2 = some (r1,r2)) :
  Calls Try.prog 51 #[.agg #[.slice A0_0 l0_0.length c0_0],.slice A1 l1.length c1,.slice A2 l2.length c2] w fun e w'=>∃ v0_:Value,e = .returned (.tuple #[v0_,.int .i64 r2]) ∧ Kd.S k65 65 w' w.heap.size (fun _=>True) v0_ r1 ∧ Below w.heap.size w w':=by
 have hu30:=Try.underlying30
 have hu65:=Try.underlying65
 have HR0_0:=Aside0.mk hr0_0
 have HC0_0:=Aside0.mk hc0_0
 clear hr0_0 hc0_0
 have HR1:=Aside0.mk hr1
 have HC1:=Aside0.mk hc1
 clear hr1 hc1
 have HR2:=Aside0.mk hr2
 have HC2:=Aside0.mk hc2
 clear hr2 hc2
 have HB:=Aside0.mk (Below.refl w.heap.size w)
 have H:(spec_l7Clause.l0 k l2 ([]:List (S65)) 0 l1 (l1.length:Int) 0 l0_0) = some (r1,r2):=h
 clear h
 have H':=Aside0.mk H
 clear H
 go_enter Try.func51,Try.ntmps51
 go_wp2_with (first|((with_reducible refine gate_dst (N:=3) rfl ?_);refine box_event ?hg (N:=3) ?hd (cs:=#[.slice A0_0 l0_0.length c0_0]) (t:=30) ?hr ?_;(case hd=>rfl);(case hg=>rfl);(case hr=>first|(go_simp;done)|(go_simp;rfl));intro gb327 hg w4 hbox hb;have BK327:=Aside0.mk (hbox);have GW327:=Aside0.mk ((hZ:w.heap.size ≤ gb327));have GE327:=Aside0.mk ((hZ:w.heap.size ≤ gb327));replace HB:=Aside0.mk (below_step bH hb);clear hb hbox hg))
 go_loopg [8,9,18] k (fun kq v8 v9 v18 w'=>∃ (x8_1:List (S65)) (x9_1:Int) (x18_1:Int),v9 = .int .i64 x9_1 ∧ v18 = .int .i64 x18_1 ∧ Aside0 (spec_l7Clause.l0 kq l2 x8_1 x9_1 l1 (l1.length:Int) x18_1 l0_0 = some (r1,r2)) ∧ Aside0 (kq ≤ k) ∧ Aside0 (Kd.S k65 65 w' w.heap.size (fun _=>True) v8 x8_1) ∧ Aside0 (w'.heap[gb327]? = some (.cells #[(.slice A0_0 l0_0.length c0_0)] 30 (0,0))) ∧ Aside0 (Below w.heap.size w w'))
 case atStart=>exact ⟨(([]:List (S65))),(0),(0),Yb,Yb,H',⟨Nat.le_refl _⟩,⟨by first|exact Kd.S_nil _ _ _ _ _|exact Kd.N_nil _ _ _ _ _|exact Kd.V_nil _ _ _ _ _|exact Kd.Q_nil _ _ _ _ _|exact Kd.R_nil _ _ _ _ _⟩,⟨by (with_reducible repeat (first|refine blk_drewN ?_ _|refine blk_drew ?_|refine blk_alloc ?_ _));exact BK327.out⟩,⟨bH⟩⟩
 case round =>
  clear H'
  try clear c1
  try clear c2
  try clear p2
  obtain ⟨x8_1,x9_1,x18_1,rfl,rfl,HA,HK1,HO_8,BK327,HB⟩:=hrel
  cases gk with
  | zero=>exact absurd HA.out (by simp [spec_l7Clause.l0])
  | succ k1 =>
   have H:=HA.out
   clear HA
   simp only [spec_l7Clause.l0] at H
   by_cases c5:x18_1 < (l1.length:Int)
   ·rw [if_pos c5] at H
    have c5b0:=decide_eq_true c5
    clear c5
    by_cases c6:0 ≤ x18_1
    ·rw [if_pos c6] at H
     have c6b0:=decide_eq_true c6
     clear c6
     by_cases c7:x18_1 < (l1.length:Int)
     ·rw [if_pos c7] at H
      have c7b0:=decide_eq_true c7
      clear c7
      replace H:=Option.bind_eq_some_iff.mp H
      obtain ⟨⟨t330,t333⟩,A80,H⟩:=H
      replace H:((spec_l7Normal.f k1 l0_0 ((rd_T65 l1 x18_1).f2) l2).bind fun bt334=>(if x8_1.length < 2513169434916 then (spec_l7Clause.l0 k1 l2 (x8_1 ++ [(⟨(rd_T65 l1 x18_1).f0,t330,bt334.1⟩:S65)]) (wrap64 (x9_1 + (wrap64 (t333 + bt334.2)))) l1 (l1.length:Int) (wrap64 (x18_1 + 1)) l0_0) else (none))) = some (r1,r2):=H
      have A8:=Aside0.mk A80
      clear A80
      replace H:=Option.bind_eq_some_iff.mp H
      obtain ⟨⟨t334,t337⟩,A90,H⟩:=H
      replace H:(if x8_1.length < 2513169434916 then (spec_l7Clause.l0 k1 l2 (x8_1 ++ [(⟨(rd_T65 l1 x18_1).f0,t330,t334⟩:S65)]) (wrap64 (x9_1 + (wrap64 (t333 + t337)))) l1 (l1.length:Int) (wrap64 (x18_1 + 1)) l0_0) else (none)) = some (r1,r2):=H
      have A9:=Aside0.mk A90
      clear A90
      by_cases c10:x8_1.length < 2513169434916
      ·rw [if_pos c10] at H
       have LMc10:=Aside0.mk c10
       clear c10
       obtain ⟨y338,hy338⟩:∃ y_:List (S65),y_ = (x8_1 ++ [(⟨(rd_T65 l1 x18_1).f0,t330,t334⟩:S65)]):=⟨_,rfl⟩
       replace H:(spec_l7Clause.l0 k1 l2 y338 (wrap64 (x9_1 + (wrap64 (t333 + t337)))) l1 (l1.length:Int) (wrap64 (x18_1 + 1)) l0_0) = some (r1,r2):=by first|(rw [hy338];with_reducible exact H)|(have H2_:=(Option.bind_some _ _).symm.trans H;rw [hy338];with_reducible exact H2_)|(have H2_:=(Option.bind_some _ _).symm.trans H;with_reducible exact H2_)|with_reducible exact H|(rw [hy338];exact H)|exact H
       have Ny338:=Aside0.mk hy338
       clear hy338
       have H':=Aside0.mk H
       clear H
       have p328:0 ≤ (x18_1:Int):=oD
       have q328:x18_1 < (l1.length:Int):=oD
       obtain ⟨ad328,A328_1,c328_1,A328_2,c328_2,e328,hx328_0,hx328_1,hx328_2,hl328_1,hi328_1,hl328_2,hi328_2⟩:=at_T65 HR1.out x18_1 p328 q328
       cases e328
       replace hx328_0:=(HB.out.cell (World.block_lt_of_cell? w _ hx328_0)).trans hx328_0
       replace hx328_1:=(HB.out.cell (World.block_lt_of_cell? w _ hx328_1)).trans hx328_1
       replace hx328_2:=(HB.out.cell (World.block_lt_of_cell? w _ hx328_2)).trans hx328_2
       have HR328_1:=Aside0.mk hi328_1
       have HC328_1:=Aside0.mk hl328_1
       clear hi328_1 hl328_1
       have HR328_2:=Aside0.mk hi328_2
       have HC328_2:=Aside0.mk hl328_2
       clear hi328_2 hl328_2
       replace p328:=eq_true p328
       replace q328:=eq_true q328
       go_wp2_with (first|((with_reducible refine gate_dst (N:=11) rfl ?_);refine box_event ?hg (N:=11) ?hd (cs:=#[.bool false,.slice none 0 0,.slice none 0 0]) (t:=65) ?hr ?_;(case hd=>rfl);(case hg=>rfl);(case hr=>first|(go_simp;done)|(go_simp;rfl));intro gb329 hg w11 hbox hb;replace HO_8:=Aside0.mk (Kd.S_below (Kd.S_elderB (rS HO_8) gb329 (Nat.le_of_eq hg.symm)) hb);have BK329:=Aside0.mk (hbox);have GW329:=Aside0.mk ((hZ:w.heap.size ≤ gb329));have GE329:=Aside0.mk ((hZ:w.heap.size ≤ gb329));replace HB:=Aside0.mk (below_step bH hb);have NB327_329:=Aside0.mk ((nL BK327:gb327 ≠ gb329));have NB329_327:=Aside0.mk ((nG BK327:gb329 ≠ gb327));replace BK327:=Aside0.mk (blk_below (bB BK327) hb);clear hb hbox hg;have hnb12:=NB329_327.out;have hnc12:=NB327_329.out;have hcz13_0:w11.cell? ⟨gb329,0,none⟩ = some (.bool false):=(blk_cell BK329.out 0).trans rfl;have hcz13_1:w11.cell? ⟨gb329,1,none⟩ = some (.slice none 0 0):=(blk_cell BK329.out 1).trans rfl;have hcz13_2:w11.cell? ⟨gb329,2,none⟩ = some (.slice none 0 0):=(blk_cell BK329.out 2).trans rfl;have hfz13_0:=blk_frozen BK329.out 0;have hfz13_1:=blk_frozen BK329.out 1;have hfz13_2:=blk_frozen BK329.out 2;have hcz14_0:w11.cell? ⟨gb327,0,none⟩ = some (.slice A0_0 l0_0.length c0_0):=(blk_cell BK327.out 0).trans rfl;have hfz14_0:=blk_frozen BK327.out 0)|((with_reducible refine gate_callee (f:=48) rfl ?_);refine goesL_ (some 27) rfl rfl Try.func48 (by kernel_rfl) rfl #[.agg #[.slice A0_0 l0_0.length c0_0],.slice A328_1 ((rd_T65 l1 x18_1).f1).length c328_1,.slice A2 l2.length c2] rfl Ya ?_;(with_reducible refine (spec_l7Normal.calls k1 _ _ l0_0 _ _ ((rd_T65 l1 x18_1).f1) _ _ l2 t330 t333 _ ?side1 ?side2 ?side3 ?side4 ?side5 ?side6 A8.out).mono ?_);(case side1=>exact Kd.C_below HR0_0.out bH);(case side2=>exact HC0_0.out);(case side3=>exact Kd.C_below HR328_1.out bH);(case side4=>exact HC328_1.out);(case side5=>exact Kd.C_below HR2.out bH);(case side6=>exact HC2.out);rintro e w15 ⟨v331,rfl,ho0,hb⟩;refine ⟨_,rfl,?_⟩;replace HO_8:=Aside0.mk (Kd.S_elder' (by (with_reducible repeat (first|apply Kd.S_alloc|apply Kd.S_drewN|apply Kd.S_drew));exact (Kd.S_mono (Kd.S_far (p:=⟨gb329,2,none⟩) (Kd.S_far (p:=⟨gb329,1,none⟩) (Kd.S_far (p:=⟨gb329,0,none⟩) (Kd.S_mono HO_8.out (fun k_ hk=>(⟨hk,hk.2⟩:_ ∧ k_ ≠ gb329))) (fun _ hk=>hk.2) (.bool ((rd_T65 l1 x18_1).f0))) (fun _ hk=>hk.2) (.slice A328_1 ((rd_T65 l1 x18_1).f1).length c328_1)) (fun _ hk=>hk.2) (.slice A328_2 ((rd_T65 l1 x18_1).f2).length c328_2)) (fun _ h_=>h_.1))) (Kd.R_base ho0) hb);have HO332:=Aside0.mk (Kd.R_lower ho0 (below_size bH));replace BK327:=Aside0.mk (blk_below (g:=gb327) (o:=.cells #[.slice A0_0 l0_0.length c0_0] 30 (0,0)) (by (with_reducible repeat (first|refine blk_drewN ?_ _|refine blk_drew ?_|refine blk_alloc ?_ _));refine blk_far ?_ NB327_329.out _;(with_reducible repeat (first|refine blk_drewN ?_ _|refine blk_drew ?_|refine blk_alloc ?_ _));refine blk_far ?_ NB327_329.out _;(with_reducible repeat (first|refine blk_drewN ?_ _|refine blk_drew ?_|refine blk_alloc ?_ _));refine blk_far ?_ NB327_329.out _;(with_reducible repeat (first|refine blk_drewN ?_ _|refine blk_drew ?_|refine blk_alloc ?_ _));exact BK327.out) hb);replace BK329:=Aside0.mk (blk_below (g:=gb329) (o:=.cells #[.bool ((rd_T65 l1 x18_1).f0),.slice A328_1 ((rd_T65 l1 x18_1).f1).length c328_1,.slice A328_2 ((rd_T65 l1 x18_1).f2).length c328_2] 65 (0,0)) (by (with_reducible repeat (first|refine blk_drewN ?_ _|refine blk_drew ?_|refine blk_alloc ?_ _));refine blk_put (cs:=#[.bool ((rd_T65 l1 x18_1).f0),.slice A328_1 ((rd_T65 l1 x18_1).f1).length c328_1,.slice none 0 0]) ?_ 2 _ rfl;(with_reducible repeat (first|refine blk_drewN ?_ _|refine blk_drew ?_|refine blk_alloc ?_ _));refine blk_put (cs:=#[.bool ((rd_T65 l1 x18_1).f0),.slice none 0 0,.slice none 0 0]) ?_ 1 _ rfl;(with_reducible repeat (first|refine blk_drewN ?_ _|refine blk_drew ?_|refine blk_alloc ?_ _));refine blk_put (cs:=#[.bool false,.slice none 0 0,.slice none 0 0]) ?_ 0 _ rfl;(with_reducible repeat (first|refine blk_drewN ?_ _|refine blk_drew ?_|refine blk_alloc ?_ _));exact BK329.out) hb);replace HB:=Aside0.mk (below_step bH hb);(try clear hb);(try clear hb2);(try clear hk);(try clear hi);(try clear ho0);have hcz16_0:w15.cell? ⟨gb327,0,none⟩ = some (.slice A0_0 l0_0.length c0_0):=(blk_cell BK327.out 0).trans rfl;have hfz16_0:=blk_frozen BK327.out 0;have hcz17_0:w15.cell? ⟨gb329,0,none⟩ = some (.bool ((rd_T65 l1 x18_1).f0)):=(blk_cell BK329.out 0).trans rfl;have hcz17_1:w15.cell? ⟨gb329,1,none⟩ = some (.slice A328_1 ((rd_T65 l1 x18_1).f1).length c328_1):=(blk_cell BK329.out 1).trans rfl;have hcz17_2:w15.cell? ⟨gb329,2,none⟩ = some (.slice A328_2 ((rd_T65 l1 x18_1).f2).length c328_2):=(blk_cell BK329.out 2).trans rfl;have hfz17_0:=blk_frozen BK329.out 0;have hfz17_1:=blk_frozen BK329.out 1;have hfz17_2:=blk_frozen BK329.out 2)|((with_reducible refine gate_callee (f:=48) rfl ?_);refine goesL_ (some 35) rfl rfl Try.func48 (by kernel_rfl) rfl #[.agg #[.slice A0_0 l0_0.length c0_0],.slice A328_2 ((rd_T65 l1 x18_1).f2).length c328_2,.slice A2 l2.length c2] rfl Ya ?_;(with_reducible refine (spec_l7Normal.calls k1 _ _ l0_0 _ _ ((rd_T65 l1 x18_1).f2) _ _ l2 t334 t337 _ ?side1 ?side2 ?side3 ?side4 ?side5 ?side6 A9.out).mono ?_);(case side1=>exact sC HR0_0);(case side2=>exact HC0_0.out);(case side3=>exact sC HR328_2);(case side4=>exact HC328_2.out);(case side5=>exact sC HR2);(case side6=>exact HC2.out);rintro e w18 ⟨v335,rfl,ho0,hb⟩;refine ⟨_,rfl,?_⟩;replace HO_8:=Aside0.mk (Kd.S_elder' (rS HO_8) (Kd.R_base ho0) hb);have HO336:=Aside0.mk (Kd.R_lower (Kd.R_new' ho0 (Kd.R_lt (rR HO332))) (below_size bH));replace HO332:=Aside0.mk (Kd.R_elder' (rR HO332) (Kd.R_base ho0) hb);replace BK327:=Aside0.mk (blk_below (bB BK327) hb);replace BK329:=Aside0.mk (blk_below (bB BK329) hb);replace HB:=Aside0.mk (below_step bH hb);(try clear hb);(try clear hb2);(try clear hk);(try clear hi);(try clear ho0);have hcz19_0:w18.cell? ⟨gb329,0,none⟩ = some (.bool ((rd_T65 l1 x18_1).f0)):=(blk_cell BK329.out 0).trans rfl;have hcz19_1:w18.cell? ⟨gb329,1,none⟩ = some (.slice A328_1 ((rd_T65 l1 x18_1).f1).length c328_1):=(blk_cell BK329.out 1).trans rfl;have hcz19_2:w18.cell? ⟨gb329,2,none⟩ = some (.slice A328_2 ((rd_T65 l1 x18_1).f2).length c328_2):=(blk_cell BK329.out 2).trans rfl;have hfz19_0:=blk_frozen BK329.out 0;have hfz19_1:=blk_frozen BK329.out 1;have hfz19_2:=blk_frozen BK329.out 2;obtain ⟨Ao20,co20,eo20⟩:=Kd.R_slice HO336.out;subst eo20;obtain ⟨Ao21,co21,eo21⟩:=Kd.R_slice HO332.out;subst eo21)|((with_reducible refine gate_builtin (b:=.append) (xs:=#[.tmp 43,.tmp 49]) rfl ?_);at_builtin;refine Kd.S_append k65 (w0:=w) w.heap.size rfl (.tmp 43) (.tmp 49) 33 65 (.agg #[(.bool false),(.slice none 0 0),(.slice none 0 0)]) 56 rfl Try.underlying33 info65 rfl (by decide) (by first|decide|omega) u8 x8_1 (⟨(rd_T65 l1 x18_1).f0,t330,t334⟩:S65) [.bool ((rd_T65 l1 x18_1).f0),.slice Ao21 t330.length co21,.slice Ao20 t334.length co20] (fun k_=>k_ ≠ gb329) (fun k_=>some k_ = (.slice Ao21 t330.length co21:Value).ownBlock ∨ some k_ = (.slice Ao20 t334.length co20:Value).ownBlock) rfl rfl ?aP (fun k_ hk_=>hk_.elim (fun h_=>((Kd.R_mono (ok':=fun k_=>((fun k_=>k_ ≠ gb329)) k_ ∧ some k_ ≠ (u8:Value).ownBlock) (Kd.R_types (Kd.R_apart' (HO332.out) (Kd.S_typed HO_8.out) (by decide)) BK329.out (by decide)) (fun k_ hk=>⟨hk.2,hk.1.2⟩))).1 k_ h_.symm) (fun h_=>((Kd.R_mono (ok':=fun k_=>((fun k_=>k_ ≠ gb329)) k_ ∧ some k_ ≠ (u8:Value).ownBlock) (Kd.R_types (Kd.R_apart' (HO336.out) (Kd.S_typed HO_8.out) (by decide)) BK329.out (by decide)) (fun k_ hk=>⟨hk.2,hk.1.2⟩))).1 k_ h_.symm)) ?aF ?aO ?aB ?aS ?aL ?_;(case aP=>exact k65_mkM _ _ _ (⟨(rd_T65 l1 x18_1).f0,t330,t334⟩:S65) (Kd.R_mono (Kd.R_tight rfl (Kd.R_mono (ok':=fun k_=>((fun k_=>k_ ≠ gb329)) k_ ∧ some k_ ≠ (u8:Value).ownBlock) (Kd.R_types (Kd.R_apart' (HO332.out) (Kd.S_typed HO_8.out) (by decide)) BK329.out (by decide)) (fun k_ hk=>⟨hk.2,hk.1.2⟩))) (fun _ h_=>Or.inl h_)) (Kd.R_mono (Kd.R_tight rfl (Kd.R_mono (ok':=fun k_=>((fun k_=>k_ ≠ gb329)) k_ ∧ some k_ ≠ (u8:Value).ownBlock) (Kd.R_types (Kd.R_apart' (HO336.out) (Kd.S_typed HO_8.out) (by decide)) BK329.out (by decide)) (fun k_ hk=>⟨hk.2,hk.1.2⟩))) (fun _ h_=>Or.inr (h_))));(case aB=>exact bH);(case aF=>exact (fun k_ hk=>Kd.freshB (bB BK329) k_ hk));(case aO=>exact (by (with_reducible repeat (first|apply Kd.S_alloc|apply Kd.S_drewN|apply Kd.S_drew));exact Kd.S_mono HO_8.out (fun k_ hk=>⟨hk.1.1.2,fun e_=>e_.elim (fun h_=>hk.1.2 h_) (fun h_=>hk.2 h_)⟩)));(case aS=>exact (below_size bH));(case aL=>have:=LMc10.out;omega);intro v339 w22 ho hb hg hat;rw [← Ny338.out] at ho;have n0_:=Aside0.mk (blk_grown (bB BK327) hg (Kd.S_ne HO_8.out BK327.out (by decide)));have n1_:=Aside0.mk (blk_grown (bB BK329) hg (Kd.S_away HO_8.out (fun _ hk=>hk.1.1.2)));have n2_:=Aside0.mk (hb);have n3_:=Aside0.mk (ho);clear BK327;clear BK329;clear HB;clear HO_8;clear HO332;clear HO336;have BK327:=n0_;have BK329:=n1_;have HB:=n2_;have HO340:=n3_;clear n0_ n1_ n2_ n3_;clear ho hb hg hat))
       go_roundg k1
       case measure=>have:=HK1.out;omega
       case rel=>exact ⟨(y338),(wrap64 (x9_1 + (wrap64 (t333 + t337)))),(wrap64 (x18_1 + 1)),Yb,Yb,H',⟨by have:=HK1.out;omega⟩,⟨by (with_reducible repeat (first|apply Kd.S_alloc|apply Kd.S_drewN|apply Kd.S_drew));exact Kd.S_mono HO340.out (fun _ hk=>trivial)⟩,⟨by (with_reducible repeat (first|refine blk_drewN ?_ _|refine blk_drew ?_|refine blk_alloc ?_ _));exact BK327.out⟩,⟨bH⟩⟩
      ·rw [if_neg c10] at H
       exact absurd H (by simp)
     ·rw [if_neg c7] at H
      exact absurd H (by simp)
    ·rw [if_neg c6] at H
     exact absurd H (by simp)
   ·rw [if_neg c5] at H
    have c5b0:decide (x18_1 < (l1.length:Int)) = false:=decide_eq_false c5
    clear c5
    replace H:=Option.bind_eq_some_iff.mp H
    obtain ⟨t341,A230,H⟩:=H
    replace H:(some (t341,x9_1)) = some (r1,r2):=H
    have A23:=Aside0.mk A230
    clear A230
    simp only [Option.some.injEq,Prod.mk.injEq] at H
    obtain ⟨rfl,rfl⟩:=H
    obtain ⟨Ao24,co24,eo24⟩:=Kd.S_slice HO_8.out
    subst eo24
    go_wp2_with (first|((with_reducible refine gate_callee (f:=84) rfl ?_);refine goesL_ (some 53) rfl rfl Try.func84 (by kernel_rfl) rfl #[.slice Ao24 x8_1.length co24] rfl Ya ?_;(with_reducible refine (spec_l6Out.calls k1 _ _ x8_1 t341 _ ?side1 ?side2 A23.out).mono ?_);(case side1=>repeat (first|exact (Kd.S_reads' HO_8.out).2.2|(with_reducible refine Kd.C_alloc ?_ _)|(with_reducible refine Kd.C_drewN ?_ _)|(with_reducible refine Kd.C_drew ?_)));(case side2=>exact (Kd.S_reads' HO_8.out).2.1);rintro e w25 ⟨v342,rfl,ho0,hb⟩;refine ⟨_,rfl,?_⟩;have HO343:=Aside0.mk (Kd.S_lower (Kd.S_new' ho0 (Kd.S_lt (rS HO_8))) (below_size bH));replace HO_8:=Aside0.mk (Kd.S_elder' (rS HO_8) (Kd.S_base ho0) hb);replace BK327:=Aside0.mk (blk_below (bB BK327) hb);replace HB:=Aside0.mk (below_step bH hb);(try clear hb);(try clear hb2);(try clear hk);(try clear hi);(try clear ho0)))
    go_ret2
    exact ⟨_,by first|rfl|(simp [errW_none,errW_some] <;> rfl)|(simp [*,errW_none,errW_some] <;> rfl),by (with_reducible repeat (first|apply Kd.S_alloc|apply Kd.S_drewN|apply Kd.S_drew));exact Kd.S_mono HO343.out (fun _ hk=>trivial),bH⟩

/-! ### spec_NormalClause: function 27 -/
def spec_NormalClause.f (k:Nat) (l0_0:List Int) (l1:List (S65)) (l2:List (S65)):Option ((List (S65)) × Int × Bool):=(spec_GoodClause.f k l0_0 l1).bind fun t345=>(if t345 = true then ((spec_l7Units.f k l0_0 l2).bind fun t346=>(if t346 = true then ((spec_l7Clause.f k l0_0 l1 l2).bind fun bt347=>(some (bt347.1,bt347.2,true))) else (some (([]:List (S65)),0,false)))) else (some (([]:List (S65)),0,false)))
theorem spec_NormalClause.mono:∀ a0 a1 a2 k,LeO (spec_NormalClause.f k a0 a1 a2) (spec_NormalClause.f (k + 1) a0 a1 a2):=by
 intro a0 a1 a2 k
 unfold spec_NormalClause.f
 have m0:=@spec_GoodClause.mono
 have m1:=@spec_l7Clause.mono
 have m2:=@spec_l7Units.mono
 exact mO
set_option maxHeartbeats 8000000 in
set_option maxRecDepth 100000 in
theorem spec_NormalClause.calls (k:Nat) (A0_0:Option Addr) (c0_0:Nat) (l0_0:List Int) (A1:Option Addr) (c1:Nat) (l1:List (S65)) (A2:Option Addr) (c2:Nat) (l2:List (S65)) (r1:List (S65)) (r2:Int) (r3:Bool) (w:World) (hr0_0:Kd.C (Kd.int .i64) w A0_0 l0_0.length l0_0) (hc0_0:l0_0.length ≤ c0_0) (hr1:Kd.C k65 w A1 l1.length l1) (hc1:l1.length ≤ c1) (hr2:Kd.C k65 w A2 l2.length l2) (hc2:l2.length ≤ c2) (h:spec_NormalClause.f k l0_0 l1 l2 = some (r1,r2,r3)) :
  Calls Try.prog 27 #[.agg #[.slice A0_0 l0_0.length c0_0],.slice A1 l1.length c1,.slice A2 l2.length c2] w fun e w'=>∃ v0_:Value,e = .returned (.tuple #[v0_,.int .i64 r2,.bool r3]) ∧ Kd.S k65 65 w' w.heap.size (fun _=>True) v0_ r1 ∧ Below w.heap.size w w':=by
 have hu30:=Try.underlying30
 have HR0_0:=Aside0.mk hr0_0
 have HC0_0:=Aside0.mk hc0_0
 clear hr0_0 hc0_0
 have HR1:=Aside0.mk hr1
 have HC1:=Aside0.mk hc1
 clear hr1 hc1
 have HR2:=Aside0.mk hr2
 have HC2:=Aside0.mk hc2
 clear hr2 hc2
 have HB:=Aside0.mk (Below.refl w.heap.size w)
 have H:((spec_GoodClause.f k l0_0 l1).bind fun t345=>(if t345 = true then ((spec_l7Units.f k l0_0 l2).bind fun t346=>(if t346 = true then ((spec_l7Clause.f k l0_0 l1 l2).bind fun bt347=>(some (bt347.1,bt347.2,true))) else (some (([]:List (S65)),0,false)))) else (some (([]:List (S65)),0,false)))) = some (r1,r2,r3):=h
 clear h
 replace H:=Option.bind_eq_some_iff.mp H
 obtain ⟨t345,A40,H⟩:=H
 replace H:(if t345 = true then ((spec_l7Units.f k l0_0 l2).bind fun t346=>(if t346 = true then ((spec_l7Clause.f k l0_0 l1 l2).bind fun bt347=>(some (bt347.1,bt347.2,true))) else (some (([]:List (S65)),0,false)))) else (some (([]:List (S65)),0,false))) = some (r1,r2,r3):=H
 have A4:=Aside0.mk A40
 clear A40
 by_cases c5:t345 = true
 ·subst c5
  have H1:((spec_l7Units.f k l0_0 l2).bind fun t346=>(if t346 = true then ((spec_l7Clause.f k l0_0 l1 l2).bind fun bt347=>(some (bt347.1,bt347.2,true))) else (some (([]:List (S65)),0,false)))) = some (r1,r2,r3):=by rw [if_pos rfl] at H;exact H
  clear H
  have H:=H1
  clear H1
  replace H:=Option.bind_eq_some_iff.mp H
  obtain ⟨t346,A60,H⟩:=H
  replace H:(if t346 = true then ((spec_l7Clause.f k l0_0 l1 l2).bind fun bt347=>(some (bt347.1,bt347.2,true))) else (some (([]:List (S65)),0,false))) = some (r1,r2,r3):=H
  have A6:=Aside0.mk A60
  clear A60
  by_cases c7:t346 = true
  ·subst c7
   have H1:((spec_l7Clause.f k l0_0 l1 l2).bind fun bt347=>(some (bt347.1,bt347.2,true))) = some (r1,r2,r3):=by rw [if_pos rfl] at H;exact H
   clear H
   have H:=H1
   clear H1
   replace H:=Option.bind_eq_some_iff.mp H
   obtain ⟨⟨t347,t350⟩,A80,H⟩:=H
   replace H:(some (t347,t350,true)) = some (r1,r2,r3):=H
   have A8:=Aside0.mk A80
   clear A80
   simp only [Option.some.injEq,Prod.mk.injEq] at H
   obtain ⟨rfl,rfl,rfl⟩:=H
   go_enter Try.func27,Try.ntmps27
   go_wp2_with (first|((with_reducible refine gate_dst (N:=3) rfl ?_);refine box_event ?hg (N:=3) ?hd (cs:=#[.slice A0_0 l0_0.length c0_0]) (t:=30) ?hr ?_;(case hd=>rfl);(case hg=>rfl);(case hr=>first|(go_simp;done)|(go_simp;rfl));intro gb344 hg w9 hbox hb;have BK344:=Aside0.mk (hbox);have GW344:=Aside0.mk ((hZ:w.heap.size ≤ gb344));have GE344:=Aside0.mk ((hZ:w.heap.size ≤ gb344));replace HB:=Aside0.mk (below_step bH hb);clear hb hbox hg;have hcz10_0:w9.cell? ⟨gb344,0,none⟩ = some (.slice A0_0 l0_0.length c0_0):=(blk_cell BK344.out 0).trans rfl;have hfz10_0:=blk_frozen BK344.out 0)|((with_reducible refine gate_callee (f:=50) rfl ?_);refine goesL_ (some 13) rfl rfl Try.func50 (by kernel_rfl) rfl #[.agg #[.slice A0_0 l0_0.length c0_0],.slice A1 l1.length c1] rfl Ya ?_;(with_reducible refine (spec_GoodClause.calls k _ _ l0_0 _ _ l1 true _ ?side1 ?side2 ?side3 ?side4 A4.out).mono ?_);(case side1=>exact sC HR0_0);(case side2=>exact HC0_0.out);(case side3=>exact sC HR1);(case side4=>exact HC1.out);rintro e w11 ⟨rfl,hb⟩;refine ⟨_,rfl,?_⟩;replace BK344:=Aside0.mk (blk_below (bB BK344) hb);replace HB:=Aside0.mk (below_step bH hb);(try clear hb);(try clear hb2);(try clear hk);(try clear hi);have hcz12_0:w11.cell? ⟨gb344,0,none⟩ = some (.slice A0_0 l0_0.length c0_0):=(blk_cell BK344.out 0).trans rfl;have hfz12_0:=blk_frozen BK344.out 0)|(go_at_call 41;(with_reducible refine (spec_l7Units.calls k _ _ l0_0 _ _ l2 true _ ?side1 ?side2 ?side3 ?side4 A6.out).mono ?_);(case side1=>exact sC HR0_0);(case side2=>exact HC0_0.out);(case side3=>exact sC HR2);(case side4=>exact HC2.out);rintro e w13 ⟨rfl,hb⟩;replace BK344:=Aside0.mk (blk_below (bB BK344) hb);replace HB:=Aside0.mk (below_step bH hb);(try clear hb);(try clear hb2);(try clear hk);(try clear hi);have hcz14_0:w13.cell? ⟨gb344,0,none⟩ = some (.slice A0_0 l0_0.length c0_0):=(blk_cell BK344.out 0).trans rfl;have hfz14_0:=blk_frozen BK344.out 0)|((with_reducible refine gate_callee (f:=51) rfl ?_);refine goesL_ (some 25) rfl rfl Try.func51 (by kernel_rfl) rfl #[.agg #[.slice A0_0 l0_0.length c0_0],.slice A1 l1.length c1,.slice A2 l2.length c2] rfl Ya ?_;(with_reducible refine (spec_l7Clause.calls k _ _ l0_0 _ _ l1 _ _ l2 t347 t350 _ ?side1 ?side2 ?side3 ?side4 ?side5 ?side6 A8.out).mono ?_);(case side1=>exact sC HR0_0);(case side2=>exact HC0_0.out);(case side3=>exact sC HR1);(case side4=>exact HC1.out);(case side5=>exact sC HR2);(case side6=>exact HC2.out);rintro e w15 ⟨v348,rfl,ho0,hb⟩;refine ⟨_,rfl,?_⟩;have HO349:=Aside0.mk (Kd.S_lower ho0 (below_size bH));replace BK344:=Aside0.mk (blk_below (bB BK344) hb);replace HB:=Aside0.mk (below_step bH hb);(try clear hb);(try clear hb2);(try clear hk);(try clear hi);(try clear ho0)))
   go_ret3
   exact ⟨_,by first|rfl|(simp [errW_none,errW_some] <;> rfl)|(simp [*,errW_none,errW_some] <;> rfl),rS HO349,bH⟩
  ·replace c7:=Bool.eq_false_iff.mpr c7
   subst c7
   have H1:(some (([]:List (S65)),0,false)) = some (r1,r2,r3):=by rw [if_neg (show ¬ (false = true) by decide)] at H;exact H
   clear H
   have H:=H1
   clear H1
   simp only [Option.some.injEq,Prod.mk.injEq] at H
   obtain ⟨rfl,rfl,rfl⟩:=H
   go_enter Try.func27,Try.ntmps27
   go_wp2_with (first|((with_reducible refine gate_dst (N:=3) rfl ?_);refine box_event ?hg (N:=3) ?hd (cs:=#[.slice A0_0 l0_0.length c0_0]) (t:=30) ?hr ?_;(case hd=>rfl);(case hg=>rfl);(case hr=>first|(go_simp;done)|(go_simp;rfl));intro gb344 hg w16 hbox hb;have BK344:=Aside0.mk (hbox);have GW344:=Aside0.mk ((hZ:w.heap.size ≤ gb344));have GE344:=Aside0.mk ((hZ:w.heap.size ≤ gb344));replace HB:=Aside0.mk (below_step bH hb);clear hb hbox hg;have hcz17_0:w16.cell? ⟨gb344,0,none⟩ = some (.slice A0_0 l0_0.length c0_0):=(blk_cell BK344.out 0).trans rfl;have hfz17_0:=blk_frozen BK344.out 0)|((with_reducible refine gate_callee (f:=50) rfl ?_);refine goesL_ (some 13) rfl rfl Try.func50 (by kernel_rfl) rfl #[.agg #[.slice A0_0 l0_0.length c0_0],.slice A1 l1.length c1] rfl Ya ?_;(with_reducible refine (spec_GoodClause.calls k _ _ l0_0 _ _ l1 true _ ?side1 ?side2 ?side3 ?side4 A4.out).mono ?_);(case side1=>exact sC HR0_0);(case side2=>exact HC0_0.out);(case side3=>exact sC HR1);(case side4=>exact HC1.out);rintro e w18 ⟨rfl,hb⟩;refine ⟨_,rfl,?_⟩;replace BK344:=Aside0.mk (blk_below (bB BK344) hb);replace HB:=Aside0.mk (below_step bH hb);(try clear hb);(try clear hb2);(try clear hk);(try clear hi);have hcz19_0:w18.cell? ⟨gb344,0,none⟩ = some (.slice A0_0 l0_0.length c0_0):=(blk_cell BK344.out 0).trans rfl;have hfz19_0:=blk_frozen BK344.out 0)|(go_at_call 41;(with_reducible refine (spec_l7Units.calls k _ _ l0_0 _ _ l2 false _ ?side1 ?side2 ?side3 ?side4 A6.out).mono ?_);(case side1=>exact sC HR0_0);(case side2=>exact HC0_0.out);(case side3=>exact sC HR2);(case side4=>exact HC2.out);rintro e w20 ⟨rfl,hb⟩;replace BK344:=Aside0.mk (blk_below (bB BK344) hb);replace HB:=Aside0.mk (below_step bH hb);(try clear hb);(try clear hb2);(try clear hk);(try clear hi)))
   go_ret3
   exact ⟨_,by first|rfl|(simp [errW_none,errW_some] <;> rfl)|(simp [*,errW_none,errW_some] <;> rfl),by first|exact Kd.S_nil _ _ _ _ _|exact Kd.N_nil _ _ _ _ _|exact Kd.V_nil _ _ _ _ _|exact Kd.Q_nil _ _ _ _ _|exact Kd.R_nil _ _ _ _ _,bH⟩
 ·replace c5:=Bool.eq_false_iff.mpr c5
  subst c5
  have H1:(some (([]:List (S65)),0,false)) = some (r1,r2,r3):=by rw [if_neg (show ¬ (false = true) by decide)] at H;exact H
  clear H
  have H:=H1
  clear H1
  simp only [Option.some.injEq,Prod.mk.injEq] at H
  obtain ⟨rfl,rfl,rfl⟩:=H
  go_enter Try.func27,Try.ntmps27
  go_wp2_with (first|((with_reducible refine gate_dst (N:=3) rfl ?_);refine box_event ?hg (N:=3) ?hd (cs:=#[.slice A0_0 l0_0.length c0_0]) (t:=30) ?hr ?_;(case hd=>rfl);(case hg=>rfl);(case hr=>first|(go_simp;done)|(go_simp;rfl));intro gb344 hg w21 hbox hb;have BK344:=Aside0.mk (hbox);have GW344:=Aside0.mk ((hZ:w.heap.size ≤ gb344));have GE344:=Aside0.mk ((hZ:w.heap.size ≤ gb344));replace HB:=Aside0.mk (below_step bH hb);clear hb hbox hg;have hcz22_0:w21.cell? ⟨gb344,0,none⟩ = some (.slice A0_0 l0_0.length c0_0):=(blk_cell BK344.out 0).trans rfl;have hfz22_0:=blk_frozen BK344.out 0)|((with_reducible refine gate_callee (f:=50) rfl ?_);refine goesL_ (some 13) rfl rfl Try.func50 (by kernel_rfl) rfl #[.agg #[.slice A0_0 l0_0.length c0_0],.slice A1 l1.length c1] rfl Ya ?_;(with_reducible refine (spec_GoodClause.calls k _ _ l0_0 _ _ l1 false _ ?side1 ?side2 ?side3 ?side4 A4.out).mono ?_);(case side1=>exact sC HR0_0);(case side2=>exact HC0_0.out);(case side3=>exact sC HR1);(case side4=>exact HC1.out);rintro e w23 ⟨rfl,hb⟩;refine ⟨_,rfl,?_⟩;replace BK344:=Aside0.mk (blk_below (bB BK344) hb);replace HB:=Aside0.mk (below_step bH hb);(try clear hb);(try clear hb2);(try clear hk);(try clear hi)))
  go_ret3
  exact ⟨_,by first|rfl|(simp [errW_none,errW_some] <;> rfl)|(simp [*,errW_none,errW_some] <;> rfl),by first|exact Kd.S_nil _ _ _ _ _|exact Kd.N_nil _ _ _ _ _|exact Kd.V_nil _ _ _ _ _|exact Kd.Q_nil _ _ _ _ _|exact Kd.R_nil _ _ _ _ _,bH⟩

/-! ### impl_Sign_args: function 108 -/
def impl_Sign_args.f (l0_0:List Int) (a1:Int):Option (Int):=if a1 < 0 then (some 0) else (if 0 ≤ a1 then (if a1 < (l0_0.length:Int) then (some (rd l0_0 a1)) else (none)) else (none))
set_option maxHeartbeats 8000000 in
set_option maxRecDepth 100000 in
theorem impl_Sign_args.calls (A0_0:Option Addr) (c0_0:Nat) (l0_0:List Int) (a1:Int) (r:Int) (w:World) (hr0_0:Kd.C (Kd.int .i64) w A0_0 l0_0.length l0_0) (hc0_0:l0_0.length ≤ c0_0) (h:impl_Sign_args.f l0_0 a1 = some r) :
  Calls Try.prog 108 #[.agg #[.slice A0_0 l0_0.length c0_0],.int .i64 a1] w fun e w'=>e = .returned (.int .i64 r) ∧ Below w.heap.size w w':=by
 have hu30:=Try.underlying30
 have HR0_0:=Aside0.mk hr0_0
 have HC0_0:=Aside0.mk hc0_0
 clear hr0_0 hc0_0
 have HB:=Aside0.mk (Below.refl w.heap.size w)
 have H:(if a1 < 0 then (some 0) else (if 0 ≤ a1 then (if a1 < (l0_0.length:Int) then (some (rd l0_0 a1)) else (none)) else (none))) = some r:=h
 clear h
 by_cases c3:a1 < 0
 ·rw [if_pos c3] at H
  have c3b0:=decide_eq_true c3
  clear c3
  obtain rfl:=Option.some.inj H
  go_enter Try.func108,Try.ntmps108
  go_wp2_with (first|((with_reducible refine gate_dst (N:=2) rfl ?_);refine box_event ?hg (N:=2) ?hd (cs:=#[.slice A0_0 l0_0.length c0_0]) (t:=30) ?hr ?_;(case hd=>rfl);(case hg=>rfl);(case hr=>first|(go_simp;done)|(go_simp;rfl));intro gb351 hg w4 hbox hb;have BK351:=Aside0.mk (hbox);have GW351:=Aside0.mk ((hZ:w.heap.size ≤ gb351));have GE351:=Aside0.mk ((hZ:w.heap.size ≤ gb351));replace HB:=Aside0.mk (below_step bH hb);clear hb hbox hg))
  go_ret
  exact ⟨by first|rfl|(simp [errW_none,errW_some] <;> rfl)|(simp [*,errW_none,errW_some] <;> rfl),bH⟩
 ·rw [if_neg c3] at H
  have c3b0:decide (a1 < 0) = false:=decide_eq_false c3
  clear c3
  by_cases c5:0 ≤ a1
  ·rw [if_pos c5] at H
   have c5b0:=decide_eq_true c5
   clear c5
   by_cases c6:a1 < (l0_0.length:Int)
   ·rw [if_pos c6] at H
    have c6b0:=decide_eq_true c6
    clear c6
    obtain rfl:=Option.some.inj H
    go_enter Try.func108,Try.ntmps108
    go_wp2_with (first|((with_reducible refine gate_dst (N:=2) rfl ?_);refine box_event ?hg (N:=2) ?hd (cs:=#[.slice A0_0 l0_0.length c0_0]) (t:=30) ?hr ?_;(case hd=>rfl);(case hg=>rfl);(case hr=>first|(go_simp;done)|(go_simp;rfl));intro gb351 hg w7 hbox hb;have BK351:=Aside0.mk (hbox);have GW351:=Aside0.mk ((hZ:w.heap.size ≤ gb351));have GE351:=Aside0.mk ((hZ:w.heap.size ≤ gb351));replace HB:=Aside0.mk (below_step bH hb);clear hb hbox hg;have hcz8_0:w7.cell? ⟨gb351,0,none⟩ = some (.slice A0_0 l0_0.length c0_0):=(blk_cell BK351.out 0).trans rfl;have hfz8_0:=blk_frozen BK351.out 0;have p352:0 ≤ (a1:Int):=oD;have q352:a1 < (l0_0.length:Int):=oD;obtain ⟨ad352,e352,hx352_0⟩:=Kd.at_int HR0_0.out a1 p352 q352;cases e352;replace hx352_0:=(HB.out.cell (World.block_lt_of_cell? w _ hx352_0)).trans hx352_0;replace p352:=eq_true p352;replace q352:=eq_true q352))
    go_ret
    exact ⟨by first|rfl|(simp [errW_none,errW_some] <;> rfl)|(simp [*,errW_none,errW_some] <;> rfl),bH⟩
   ·rw [if_neg c6] at H
    exact absurd H (by simp)
  ·rw [if_neg c5] at H
   exact absurd H (by simp)

/-! ### impl_Sign_isTerm: function 74 -/
def impl_Sign_isTerm.l0:Nat → Int → List Int → Int → Int → List Int → Option (Bool)
 | 0,_,_,_,_,_=>none
 | k + 1,x5,x11,x12,x13,x354000=>if x13 < x12 then (if 0 ≤ x13 then (if x13 < (x11.length:Int) then (if x5 = 0 then (some false) else (if (rd x11 x13) < (-12) then (some false) else (if (rd x11 x13) ≥ (x354000.length:Int) then (some false) else ((impl_Sign_args.f x354000 (rd x11 x13)).bind fun t355=>(impl_Sign_isTerm.l0 k (wrap64 (x5 + (wrap64 (t355 - 1)))) x11 x12 (wrap64 (x13 + 1)) x354000))))) else (none)) else (none)) else (some (x5 == 0))
def impl_Sign_isTerm.f (k:Nat) (l0_0:List Int) (l1:List Int):Option (Bool):=if (l1.length:Int) > 40 then (some false) else (impl_Sign_isTerm.l0 k 1 l1 (l1.length:Int) 0 l0_0)
theorem impl_Sign_isTerm.mono_l:∀ k,(∀ y0 y1 y2 y3 y4,LeO (impl_Sign_isTerm.l0 k y0 y1 y2 y3 y4) (impl_Sign_isTerm.l0 (k + 1) y0 y1 y2 y3 y4))
 | 0=>fun _ _ _ _ _ r h=>by simp [impl_Sign_isTerm.l0] at h
 | k + 1=>by
  have ih0:=impl_Sign_isTerm.mono_l k
  ·intro y0 y1 y2 y3 y4
   unfold impl_Sign_isTerm.l0
   exact mO
theorem impl_Sign_isTerm.mono:∀ a0 a1 k,LeO (impl_Sign_isTerm.f k a0 a1) (impl_Sign_isTerm.f (k + 1) a0 a1):=by
 intro a0 a1 k
 have ih0:=impl_Sign_isTerm.mono_l k
 unfold impl_Sign_isTerm.f
 exact mO
set_option maxHeartbeats 8000000 in
set_option maxRecDepth 100000 in
theorem impl_Sign_isTerm.calls (k:Nat) (A0_0:Option Addr) (c0_0:Nat) (l0_0:List Int) (A1:Option Addr) (c1:Nat) (l1:List Int) (r:Bool) (w:World) (hr0_0:Kd.C (Kd.int .i64) w A0_0 l0_0.length l0_0) (hc0_0:l0_0.length ≤ c0_0) (hr1:Kd.C (Kd.int .i64) w A1 l1.length l1) (hc1:l1.length ≤ c1) (h:impl_Sign_isTerm.f k l0_0 l1 = some r) :
  Calls Try.prog 74 #[.agg #[.slice A0_0 l0_0.length c0_0],.slice A1 l1.length c1] w fun e w'=>e = .returned (.bool r) ∧ Below w.heap.size w w':=by
 have hu30:=Try.underlying30
 have HR0_0:=Aside0.mk hr0_0
 have HC0_0:=Aside0.mk hc0_0
 clear hr0_0 hc0_0
 have HR1:=Aside0.mk hr1
 have HC1:=Aside0.mk hc1
 clear hr1 hc1
 have HB:=Aside0.mk (Below.refl w.heap.size w)
 have H:(if (l1.length:Int) > 40 then (some false) else (impl_Sign_isTerm.l0 k 1 l1 (l1.length:Int) 0 l0_0)) = some r:=h
 clear h
 by_cases c3:(l1.length:Int) > 40
 ·rw [if_pos c3] at H
  have c3b0:decide (40 < (l1.length:Int)) = true:=decide_eq_true c3
  have c3b1:decide (40 < l1.length) = true:=decide_eq_true (by omega)
  clear c3
  obtain rfl:=Option.some.inj H
  go_enter Try.func74,Try.ntmps74
  go_wp2_with (first|((with_reducible refine gate_dst (N:=2) rfl ?_);(try (refine gate_guard (by rfl) ?_;dsimp only));refine box_event ?hg (N:=2) ?hd (cs:=#[.slice A0_0 l0_0.length c0_0]) (t:=30) ?hr ?_;(case hd=>rfl);(case hg=>rfl);(case hr=>first|(go_simp;done)|(go_simp;rfl));intro gb353 hg w4 hbox hb;have BK353:=Aside0.mk (hbox);have GW353:=Aside0.mk ((hZ:w.heap.size ≤ gb353));have GE353:=Aside0.mk ((hZ:w.heap.size ≤ gb353));replace HB:=Aside0.mk (below_step bH hb);clear hb hbox hg))
  go_ret
  exact ⟨by first|rfl|(simp [errW_none,errW_some] <;> rfl)|(simp [*,errW_none,errW_some] <;> rfl),bH⟩
 ·rw [if_neg c3] at H
  have c3b0:decide (40 < (l1.length:Int)) = false:=decide_eq_false c3
  have c3b1:decide (40 < l1.length) = false:=decide_eq_false (by omega)
  clear c3
  have H':=Aside0.mk H
  clear H
  go_enter Try.func74,Try.ntmps74
  go_wp2_with (first|((with_reducible refine gate_dst (N:=2) rfl ?_);(try (refine gate_guard (by rfl) ?_;dsimp only));refine box_event ?hg (N:=2) ?hd (cs:=#[.slice A0_0 l0_0.length c0_0]) (t:=30) ?hr ?_;(case hd=>rfl);(case hg=>rfl);(case hr=>first|(go_simp;done)|(go_simp;rfl));intro gb353 hg w5 hbox hb;have BK353:=Aside0.mk (hbox);have GW353:=Aside0.mk ((hZ:w.heap.size ≤ gb353));have GE353:=Aside0.mk ((hZ:w.heap.size ≤ gb353));replace HB:=Aside0.mk (below_step bH hb);clear hb hbox hg))
  go_loopg [5,13] k (fun kq v5 v13 w'=>∃ (x5_1:Int) (x13_1:Int),v5 = .int .i64 x5_1 ∧ v13 = .int .i64 x13_1 ∧ Aside0 (impl_Sign_isTerm.l0 kq x5_1 l1 (l1.length:Int) x13_1 l0_0 = some r) ∧ Aside0 (kq ≤ k) ∧ Aside0 (w'.heap[gb353]? = some (.cells #[(.slice A0_0 l0_0.length c0_0)] 30 (0,0))) ∧ Aside0 (Below w.heap.size w w'))
  case atStart=>exact ⟨(1),(0),Yb,Yb,H',⟨Nat.le_refl _⟩,⟨by (with_reducible repeat (first|refine blk_drewN ?_ _|refine blk_drew ?_|refine blk_alloc ?_ _));exact BK353.out⟩,⟨bH⟩⟩
  case round =>
   clear H'
   try clear c1
   try clear p2
   try clear c3
   try clear c3b0
   try clear c3b1
   obtain ⟨x5_1,x13_1,rfl,rfl,HA,HK1,BK353,HB⟩:=hrel
   cases gk with
   | zero=>exact absurd HA.out (by simp [impl_Sign_isTerm.l0])
   | succ k1 =>
    have H:=HA.out
    clear HA
    simp only [impl_Sign_isTerm.l0] at H
    by_cases c6:x13_1 < (l1.length:Int)
    ·rw [if_pos c6] at H
     have c6b0:=decide_eq_true c6
     clear c6
     by_cases c7:0 ≤ x13_1
     ·rw [if_pos c7] at H
      have c7b0:=decide_eq_true c7
      clear c7
      by_cases c8:x13_1 < (l1.length:Int)
      ·rw [if_pos c8] at H
       have c8b0:=decide_eq_true c8
       clear c8
       by_cases c9:x5_1 = 0
       ·rw [if_pos c9] at H
        have c9b0:(x5_1 == 0) = true:=beq_iff_eq.mpr c9
        have c9b1:(x5_1 != 0) = false:=bne_eq_false_iff_eq.mpr c9
        clear c9
        obtain rfl:=Option.some.inj H
        have p354:0 ≤ (x13_1:Int):=oD
        have q354:x13_1 < (l1.length:Int):=oD
        obtain ⟨ad354,e354,hx354_0⟩:=Kd.at_int HR1.out x13_1 p354 q354
        cases e354
        replace hx354_0:=(HB.out.cell (World.block_lt_of_cell? w _ hx354_0)).trans hx354_0
        replace p354:=eq_true p354
        replace q354:=eq_true q354
        go_wp2
        go_ret
        exact ⟨by first|rfl|(simp [errW_none,errW_some] <;> rfl)|(simp [*,errW_none,errW_some] <;> rfl),bH⟩
       ·rw [if_neg c9] at H
        have c9b0:(x5_1 == 0) = false:=beq_eq_false_iff_ne.mpr c9
        have c9b1:(x5_1 != 0) = true:=bne_iff_ne.mpr c9
        by_cases c10:(rd l1 x13_1) < (-12)
        ·rw [if_pos c10] at H
         have c10b0:=decide_eq_true c10
         clear c10
         obtain rfl:=Option.some.inj H
         have p354:0 ≤ (x13_1:Int):=oD
         have q354:x13_1 < (l1.length:Int):=oD
         obtain ⟨ad354,e354,hx354_0⟩:=Kd.at_int HR1.out x13_1 p354 q354
         cases e354
         replace hx354_0:=(HB.out.cell (World.block_lt_of_cell? w _ hx354_0)).trans hx354_0
         replace p354:=eq_true p354
         replace q354:=eq_true q354
         go_wp2
         go_ret
         exact ⟨by first|rfl|(simp [errW_none,errW_some] <;> rfl)|(simp [*,errW_none,errW_some] <;> rfl),bH⟩
        ·rw [if_neg c10] at H
         have c10b0:decide ((rd l1 x13_1) < (-12)) = false:=decide_eq_false c10
         clear c10
         by_cases c11:(rd l1 x13_1) ≥ (l0_0.length:Int)
         ·rw [if_pos c11] at H
          have c11b0:decide ((l0_0.length:Int) ≤ (rd l1 x13_1)) = true:=decide_eq_true c11
          clear c11
          obtain rfl:=Option.some.inj H
          have p354:0 ≤ (x13_1:Int):=oD
          have q354:x13_1 < (l1.length:Int):=oD
          obtain ⟨ad354,e354,hx354_0⟩:=Kd.at_int HR1.out x13_1 p354 q354
          cases e354
          replace hx354_0:=(HB.out.cell (World.block_lt_of_cell? w _ hx354_0)).trans hx354_0
          replace p354:=eq_true p354
          replace q354:=eq_true q354
          have hcz12_0:wr.cell? ⟨gb353,0,none⟩ = some (.slice A0_0 l0_0.length c0_0):=(blk_cell BK353.out 0).trans rfl
          have hfz12_0:=blk_frozen BK353.out 0
          go_wp2
          go_ret
          exact ⟨by first|rfl|(simp [errW_none,errW_some] <;> rfl)|(simp [*,errW_none,errW_some] <;> rfl),bH⟩
         ·rw [if_neg c11] at H
          have c11b0:decide ((l0_0.length:Int) ≤ (rd l1 x13_1)) = false:=decide_eq_false c11
          clear c11
          replace H:=Option.bind_eq_some_iff.mp H
          obtain ⟨t355,A130,H⟩:=H
          replace H:(impl_Sign_isTerm.l0 k1 (wrap64 (x5_1 + (wrap64 (t355 - 1)))) l1 (l1.length:Int) (wrap64 (x13_1 + 1)) l0_0) = some r:=H
          have A13:=Aside0.mk A130
          clear A130
          have H':=Aside0.mk H
          clear H
          have p354:0 ≤ (x13_1:Int):=oD
          have q354:x13_1 < (l1.length:Int):=oD
          obtain ⟨ad354,e354,hx354_0⟩:=Kd.at_int HR1.out x13_1 p354 q354
          cases e354
          replace hx354_0:=(HB.out.cell (World.block_lt_of_cell? w _ hx354_0)).trans hx354_0
          replace p354:=eq_true p354
          replace q354:=eq_true q354
          have hcz14_0:wr.cell? ⟨gb353,0,none⟩ = some (.slice A0_0 l0_0.length c0_0):=(blk_cell BK353.out 0).trans rfl
          have hfz14_0:=blk_frozen BK353.out 0
          go_wp2_with (first|((with_reducible refine gate_callee (f:=108) rfl ?_);refine goesL_ (some 33) rfl rfl Try.func108 (by kernel_rfl) rfl #[.agg #[.slice A0_0 l0_0.length c0_0],.int .i64 (rd l1 x13_1)] rfl Ya ?_;(with_reducible refine (impl_Sign_args.calls _ _ l0_0 (rd l1 x13_1) t355 _ ?side1 ?side2 A13.out).mono ?_);(case side1=>exact sC HR0_0);(case side2=>exact HC0_0.out);rintro e w15 ⟨rfl,hb⟩;refine ⟨_,rfl,?_⟩;replace BK353:=Aside0.mk (blk_below (bB BK353) hb);replace HB:=Aside0.mk (below_step bH hb);(try clear hb);(try clear hb2);(try clear hk);(try clear hi)))
          go_roundg k1
          case measure=>have:=HK1.out;omega
          case rel=>exact ⟨(wrap64 (x5_1 + (wrap64 (t355 - 1)))),(wrap64 (x13_1 + 1)),Yb,Yb,H',⟨by have:=HK1.out;omega⟩,⟨by (with_reducible repeat (first|refine blk_drewN ?_ _|refine blk_drew ?_|refine blk_alloc ?_ _));exact BK353.out⟩,⟨bH⟩⟩
      ·rw [if_neg c8] at H
       exact absurd H (by simp)
     ·rw [if_neg c7] at H
      exact absurd H (by simp)
    ·rw [if_neg c6] at H
     have c6b0:decide (x13_1 < (l1.length:Int)) = false:=decide_eq_false c6
     clear c6
     obtain rfl:=Option.some.inj H
     go_wp2
     go_ret
     exact ⟨by first|rfl|(simp [errW_none,errW_some] <;> rfl)|(simp [*,errW_none,errW_some] <;> rfl),bH⟩

end Go.Proofs.Ytlgnanbnicmdaab.QFnExactNormalClause
