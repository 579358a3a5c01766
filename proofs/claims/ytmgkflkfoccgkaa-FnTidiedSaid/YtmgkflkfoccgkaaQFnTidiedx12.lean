-- Written by this session's own program (wip/x/xprint.py, over the kit's printer); Lean checks it.
import Derived.Test.YtmgkflkfoccgkaaQFnTidiedx0
import Derived.Test.YtmgkflkfoccgkaaQFnTidiedx11
namespace Go.Proofs.Ytmgkflkfoccgkaa.QFnTidied
open Go.RowKit Go.Proofs.YtmgkflkfoccgkaaW.PrintWords Go.Proofs.YtmgkflkfoccgkaaW.PrintLast Go.Proofs.YtmgkflkfoccgkaaW.PrintMore
attribute [local go_sem] max2_int min2_int max_two min_two max_three min_three max_four min_four   -- for this text's walks alone
set_option linter.unusedVariables false
set_option linter.unusedSimpArgs false

/-! ### spec_l4Tidy: function 60, by a walk of this session's own -/
def l4any (k:Nat) (x:S83):List S83 → Bool → Option Bool
 | [],b=>some b
 | y :: t,b=>if b = true then l4any k x t true else if (x.f0 == y.f0) = true then (spec_l4SameTerms.f k x.f0 x.f1 x.f2 y.f0 y.f1 y.f2).bind fun c=>l4any k x t c else l4any k x t false
def l4tid (k:Nat):List S83 → List S83 → Option (List S83)
 | acc,[]=>some acc
 | acc,x :: t=>(if x.f0 = true then some false else spec_l1Same.f k x.f1 x.f2).bind fun skip=>if skip = true then l4tid k acc t else (l4any k x acc false).bind fun there=>if there = true then l4tid k acc t else l4tid k (acc ++ [x]) t
def spec_l4Tidy.f (k:Nat) (l:List S83):Option (List S83):=if l.length ≤ 1048576 then (l4tid k [] l).bind fun o=>spec_l4Own.f k o else none
theorem l4any_mono (k:Nat) (x:S83) (l:List S83):∀ b,LeO (l4any k x l b) (l4any (k + 1) x l b):=by
 induction l with
 | nil=>intro b r h;exact h
 | cons y t ih =>
  intro b r h
  simp only [l4any] at h ⊢
  split at h
  ·rename_i g;rw [if_pos g];exact ih _ r h
  ·rename_i g
   rw [if_neg g]
   split at h
   ·rename_i g2
    rw [if_pos g2]
    obtain ⟨c,hc,h⟩:=Option.bind_eq_some_iff.1 h
    rw [spec_l4SameTerms.mono _ _ _ _ _ _ k c hc,Option.bind_some]
    exact ih _ r h
   ·rename_i g2;rw [if_neg g2];exact ih _ r h
theorem l4tid_mono (k:Nat) (l:List S83):∀ acc,LeO (l4tid k acc l) (l4tid (k + 1) acc l):=by
 induction l with
 | nil=>intro acc r h;exact h
 | cons x t ih =>
  intro acc r h
  simp only [l4tid] at h ⊢
  obtain ⟨s,hs,h⟩:=Option.bind_eq_some_iff.1 h
  have hs2:(if x.f0 = true then some false else spec_l1Same.f (k + 1) x.f1 x.f2) = some s:=by
   split at hs
   ·rename_i g;rw [if_pos g];exact hs
   ·rename_i g;rw [if_neg g];exact spec_l1Same.mono _ _ k s hs
  rw [hs2,Option.bind_some]
  split at h
  ·rename_i g;rw [if_pos g];exact ih _ r h
  ·rename_i g
   rw [if_neg g]
   obtain ⟨b,hb,h⟩:=Option.bind_eq_some_iff.1 h
   rw [l4any_mono k x acc false b hb,Option.bind_some]
   split at h
   ·rename_i g2;rw [if_pos g2];exact ih _ r h
   ·rename_i g2;rw [if_neg g2];exact ih _ r h
theorem spec_l4Tidy.mono (l:List S83) (k:Nat):LeO (spec_l4Tidy.f k l) (spec_l4Tidy.f (k + 1) l):=by
 intro r h
 unfold spec_l4Tidy.f at h ⊢
 split at h
 rotate_left
 ·cases h
 rename_i g
 rw [if_pos g]
 obtain ⟨o,ho,h⟩:=Option.bind_eq_some_iff.1 h
 rw [l4tid_mono k l [] o ho,Option.bind_some]
 exact spec_l4Own.mono _ k r h
set_option maxHeartbeats 16000000 in
set_option maxRecDepth 1000000 in
theorem spec_l4Tidy.calls (k:Nat) (A0:Option Addr) (c0:Nat) (l0:List S83) (r:List S83) (w:World) (hr0:Kd.C k83 w A0 l0.length l0) (hc0:l0.length ≤ c0) (h:spec_l4Tidy.f k l0 = some r) :
  Calls Try.prog 60 #[.slice A0 l0.length c0] w fun e w'=>∃ v0_:Value,e = .returned v0_ ∧ Kd.S k83 83 w' w.heap.size (fun _=>True) v0_ r ∧ Below w.heap.size w w':=by
 unfold spec_l4Tidy.f at h
 split at h
 rotate_left
 ·cases h
 rename_i hn
 obtain ⟨o,ho,h⟩:=Option.bind_eq_some_iff.1 h
 have H0:=Aside0.mk hr0
 have HO0:=Aside0.mk ho
 have HW:=Aside0.mk h
 clear h hr0 ho
 go_enter Try.func60,Try.ntmps60
 go_wp2
 go_loopw [3,11] (fun v3 v11 wr=>∃ (j:Nat) (acc:List S83),j ≤ l0.length ∧ acc.length ≤ j ∧ v11 = .int .i64 j ∧ Hid (l4tid k acc (l0.drop j) = some o) ∧ Hid (Kd.N k83 83 wr w.heap.size (fun _=>True) v3 acc) ∧ Hid (Below w.heap.size w wr)) (fun _ v11 _=>l0.length - (intOf v11).toNat)
 case atStart=>exact ⟨0,[],Nat.zero_le _,Nat.zero_le _,rfl,HO0.out,Kd.N_nil _ _ _ _ _,Below.refl _ _⟩
 case round =>
  clear HO0
  obtain ⟨j,acc,hj,hal,rfl,htd,hN,hB⟩:=hrel
  unfold Hid at htd hN hB
  obtain ⟨A3,c3,rfl⟩:=Kd.N_slice hN
  by_cases hp:j < l0.length
  ·obtain ⟨ad,L1,e1,L2,e2,eA,q0,q1,q2,z1,i1,z2,i2⟩:=at_T83 H0.out (j:Int) (by omega) (by omega)
   have hrd:rd_T83 l0 (j:Int) = l0[j]:=by unfold rd_T83;simp [List.getD_eq_getElem?_getD,hp]
   rw [Int.toNat_natCast] at q0 q1 q2
   rw [hrd] at q0 q1 q2 z1 i1 z2 i2
   subst eA
   rw [List.drop_eq_getElem_cons hp] at htd
   generalize l0[j] = x at htd q0 q1 q2 z1 i1 z2 i2
   clear hrd
   obtain ⟨xp,xa,xb⟩:=x
   simp only at q0 q1 q2 z1 i1 z2 i2
   simp only [l4tid] at htd
   obtain ⟨skip,hskip,htd⟩:=Option.bind_eq_some_iff.1 htd
   have HFK:=Aside0.mk (k83_mkF w (fun k_=>k_ < w.heap.size) (⟨xp,xa,xb⟩:S83) z1 (Kd.C_F (Kd.heap_int _) i1) z2 (Kd.C_F (Kd.heap_int _) i2))
   replace q0:=(hB.cell (World.block_lt_of_cell? w _ q0)).trans q0
   replace q1:=(hB.cell (World.block_lt_of_cell? w _ q1)).trans q1
   replace q2:=(hB.cell (World.block_lt_of_cell? w _ q2)).trans q2
   have I1:=Aside0.mk i1
   have I2:=Aside0.mk i2
   have HSK:=Aside0.mk hskip
   have HR:=Aside0.mk htd
   have HN:=Aside0.mk hN
   have HB:=Aside0.mk hB
   have HAL:=Aside0.mk hal
   have halb:acc.length ≤ 1048576:=by omega
   clear htd hN hB i1 i2 hskip hal
   go_upto_region 5 with fail
   have hbl:=below_alloc (Below.refl wr.heap.size wr) (.cells #[.bool xp,.slice L1 xa.length e1,.slice L2 xb.length e2] 83)
   have HX:=Aside0.mk (heap_alloc_new wr (.cells #[.bool xp,.slice L1 xa.length e1,.slice L2 xb.length e2] 83))
   have HN:=Aside0.mk (Kd.N_alloc HN.out (.cells #[.bool xp,.slice L1 xa.length e1,.slice L2 xb.length e2] 83))
   have HB:=Aside0.mk (below_step HB.out hbl)
   clear q0 q1 q2 hbl
   obtain ⟨g,hg⟩:∃ g,g = wr.heap.size:=⟨_,rfl⟩
   generalize wr.alloc (.cells #[.bool xp,.slice L1 xa.length e1,.slice L2 xb.length e2] 83) = W3 at HX HN HB ⊢
   rw [← hg] at HX ⊢
   clear hg
   have a0:=qc3_0 HX
   have a1:=qc3_1 HX
   have a2:=qc3_2 HX
   cases xp with
   | true =>
    have hsk:=HSK.out
    simp only [if_true,Option.some.injEq] at hsk
    subst hsk
    have hr9:=HR.out
    simp only [Bool.false_eq_true,if_false] at hr9
    obtain ⟨there,han,hr9⟩:=Option.bind_eq_some_iff.1 hr9
    have HR:=Aside0.mk hr9
    have HAN:=Aside0.mk han
    clear hr9 han HSK
    go_wp2
    go_loopw [6,27] (fun v6 v27 Wq=>∃ (i:Nat) (b:Bool),i ≤ acc.length ∧ v6 = .bool b ∧ v27 = .int .i64 i ∧ Hid (l4any k (⟨true,xa,xb⟩:S83) (acc.drop i) b = some there) ∧ Hid (Kd.N k83 83 Wq w.heap.size (fun _=>True) (.slice A3 acc.length c3) acc) ∧ Hid (Wq.heap[g]? = some (.cells #[.bool true,.slice L1 xa.length e1,.slice L2 xb.length e2] 83 (0,0))) ∧ Hid (Below w.heap.size w Wq)) (fun _ v27 _=>acc.length - (intOf v27).toNat)
    case atStart=>exact ⟨0,false,Nat.zero_le _,rfl,rfl,HAN.out,HN.out,HX.out,HB.out⟩
    case round =>
     rename World=>Wq
     clear HN HX HB HAN
     obtain ⟨i,b,hi,rfl,rfl,han,hN,hX,hB⟩:=hrel
     unfold Hid at han hN hX hB
     by_cases hq:i < acc.length
     ·obtain ⟨ay,M1,f1,M2,f2,eY,p0,p1,p2,y1,g1,y2,g2⟩:=at_T83 (Kd.N_reads' hN).2.2 (i:Int) (by omega) (by omega)
      have hrdy:rd_T83 acc (i:Int) = acc[i]:=by unfold rd_T83;simp [List.getD_eq_getElem?_getD,hq]
      rw [Int.toNat_natCast] at p0 p1 p2
      rw [hrdy] at p0 p1 p2 y1 g1 y2 g2
      subst eY
      rw [List.drop_eq_getElem_cons hq] at han
      generalize acc[i] = y at han p0 p1 p2 y1 g1 y2 g2
      clear hrdy
      simp only [l4any] at han
      have HAN:=Aside0.mk han
      have G1:=Aside0.mk g1
      have G2:=Aside0.mk g2
      have HN:=Aside0.mk hN
      have HX:=Aside0.mk hX
      have HB:=Aside0.mk hB
      clear han hN hX hB g1 g2
      go_upto_region 10 with fail
      have hbl:=below_alloc (Below.refl Wq.heap.size Wq) (.cells #[.bool y.f0,.slice M1 y.f1.length f1,.slice M2 y.f2.length f2] 83)
      have HY:=Aside0.mk (heap_alloc_new Wq (.cells #[.bool y.f0,.slice M1 y.f1.length f1,.slice M2 y.f2.length f2] 83))
      replace HX:=Aside0.mk (blk_alloc HX.out (.cells #[.bool y.f0,.slice M1 y.f1.length f1,.slice M2 y.f2.length f2] 83))
      replace HN:=Aside0.mk (Kd.N_alloc HN.out (.cells #[.bool y.f0,.slice M1 y.f1.length f1,.slice M2 y.f2.length f2] 83))
      replace G1:=Aside0.mk (Kd.C_below G1.out hbl)
      replace G2:=Aside0.mk (Kd.C_below G2.out hbl)
      have HB:=Aside0.mk (below_step HB.out hbl)
      clear p0 p1 p2 hbl
      obtain ⟨gy,hgy⟩:∃ g_,g_ = Wq.heap.size:=⟨_,rfl⟩
      generalize Wq.alloc (.cells #[.bool y.f0,.slice M1 y.f1.length f1,.slice M2 y.f2.length f2] 83) = W4 at HX HY HN HB G1 G2 ⊢
      rw [← hgy] at HY ⊢
      clear hgy
      have a0:=qc3_0 HX
      have a1:=qc3_1 HX
      have a2:=qc3_2 HX
      have b0:W4.cell? ⟨gy,0,none⟩ = some (.bool y.f0):=(blk_cell HY.out 0).trans rfl
      have b1:W4.cell? ⟨gy,1,none⟩ = some (.slice M1 y.f1.length f1):=(blk_cell HY.out 1).trans rfl
      have b2:W4.cell? ⟨gy,2,none⟩ = some (.slice M2 y.f2.length f2):=(blk_cell HY.out 2).trans rfl
      obtain ⟨yp,ya,yb⟩:=y
      simp only at HAN HY G1 G2 b0 b1 b2 y1 y2 ⊢
      cases b with
      | true =>
       go_wp2
       go_roundw
       case rel=>exact ⟨i + 1,true,hq,rfl,rfl,by have:=HAN.out;unfold Hid;simpa using this,HN.out,HX.out,HB.out⟩
       case measure=>simp [intOf];omega
      | false =>
       cases yp with
       | true =>
        have han:=HAN.out
        simp only [Bool.false_eq_true,if_false,beq_self_eq_true,if_true] at han
        obtain ⟨c9,hc9,han⟩:=Option.bind_eq_some_iff.1 han
        have HAN:=Aside0.mk han
        have hcall:=spec_l4SameTerms.calls k true L1 e1 xa L2 e2 xb true M1 f1 ya M2 f2 yb c9 W4 (Kd.C_below I1.out HB.out) z1 (Kd.C_below I2.out HB.out) z2 G1.out y1 G2.out y2 hc9
        clear han hc9
        go_wp2_with (go_at_call 102;refine hcall.mono ?_;first|rintro e_ W5 rfl hd|rintro e_ W5 ⟨rfl,hd⟩;have HN:=Aside0.mk (Kd.N_below HN.out hd);have HX:=Aside0.mk ((hd.block g (blk_lt HX.out)).trans HX.out);have HB:=Aside0.mk (below_step HB.out hd);clear hd)
        go_roundw
        case rel=>exact ⟨i + 1,c9,hq,rfl,rfl,HAN.out,HN.out,HX.out,HB.out⟩
        case measure=>simp [intOf];omega
       | false =>
        go_wp2
        go_roundw
        case rel=>exact ⟨i + 1,false,hq,rfl,rfl,by have:=HAN.out;unfold Hid;simpa using this,HN.out,HX.out,HB.out⟩
        case measure=>simp [intOf];omega
     ·obtain rfl:i = acc.length:=by omega
      rw [List.drop_length] at han
      simp only [l4any,Option.some.injEq] at han
      subst han
      have HN:=Aside0.mk hN
      have HX:=Aside0.mk hX
      have HB:=Aside0.mk hB
      clear hN hX hB
      have a0:=qc3_0 HX
      have a1:=qc3_1 HX
      have a2:=qc3_2 HX
      cases b with
      | true =>
       go_wp2
       go_roundw
       case rel=>exact ⟨j + 1,acc,hp,by have:=HAL.out;omega,rfl,YV,HN.out,HB.out⟩
       case measure=>simp [intOf];omega
      | false =>
       go_wp2_with ((with_reducible refine gate_builtin (b:=.append) (xs:=#[.tmp 47,.tmp 49]) rfl ?_);at_builtin;refine Kd.N_append k83 (w0:=w) w.heap.size rfl (.tmp 47) (.tmp 49) 40 83 (.agg #[.bool false,.slice none 0 0,.slice none 0 0]) 56 rfl Try.underlying40 info83 rfl (by decide) (by decide) (.slice A3 acc.length c3) acc (⟨true,xa,xb⟩:S83) [.bool true,.slice L1 xa.length e1,.slice L2 xb.length e2] (fun _=>True) (fun k_=>k_ < w.heap.size) rfl rfl (Kd.FK_below HFK.out HB.out) (fun k_ hk=>⟨trivial,fun q_=>by have:=Kd.N_base HN.out k_ q_.symm;omega⟩) (fun _ _=>trivial) HN.out HB.out HB.out.size (by have:=HAL.out;omega) ?_;intro v1 w1 ho hb hg_ hat_;have HO:=Aside0.mk ho;have HB:=Aside0.mk hb;clear ho hb hg_ hat_)
       go_roundw
       case rel=>exact ⟨j + 1,acc ++ [(⟨true,xa,xb⟩:S83)],hp,Zb,rfl,YV,HO.out,HB.out⟩
       case measure=>simp [intOf];omega
   | false =>
    have hsk:=HSK.out
    simp only [Bool.false_eq_true,if_false] at hsk
    have hcall:=spec_l1Same.calls k L1 e1 xa L2 e2 xb skip W3 (Kd.C_below I1.out HB.out) z1 (Kd.C_below I2.out HB.out) z2 hsk
    clear hsk HSK
    cases skip with
    | true =>
     go_wp2_with (go_at_call 101;refine hcall.mono ?_;first|rintro e_ W4 rfl hd|rintro e_ W4 ⟨rfl,hd⟩;have HN:=Aside0.mk (Kd.N_below HN.out hd.below);have HB:=Aside0.mk (below_step HB.out hd.below);clear hd)
     go_roundw
     case rel=>exact ⟨j + 1,acc,hp,by have:=HAL.out;omega,rfl,YV,HN.out,HB.out⟩
     case measure=>simp [intOf];omega
    | false =>
     have hr9:=HR.out
     simp only [Bool.false_eq_true,if_false] at hr9
     obtain ⟨there,han,hr9⟩:=Option.bind_eq_some_iff.1 hr9
     have HR:=Aside0.mk hr9
     have HAN:=Aside0.mk han
     clear hr9 han
     go_upto_region 6 with (go_at_call 101;refine hcall.mono ?_;first|rintro e_ W4 rfl hd|rintro e_ W4 ⟨rfl,hd⟩;have HN:=Aside0.mk (Kd.N_below HN.out hd.below);have HX:=Aside0.mk ((hd.below.block g (blk_lt HX.out)).trans HX.out);have HB:=Aside0.mk (below_step HB.out hd.below);clear hd)
     clear hcall a0 a1 a2
     go_wp2
     go_loopw [6,27] (fun v6 v27 Wq=>∃ (i:Nat) (b:Bool),i ≤ acc.length ∧ v6 = .bool b ∧ v27 = .int .i64 i ∧ Hid (l4any k (⟨false,xa,xb⟩:S83) (acc.drop i) b = some there) ∧ Hid (Kd.N k83 83 Wq w.heap.size (fun _=>True) (.slice A3 acc.length c3) acc) ∧ Hid (Wq.heap[g]? = some (.cells #[.bool false,.slice L1 xa.length e1,.slice L2 xb.length e2] 83 (0,0))) ∧ Hid (Below w.heap.size w Wq)) (fun _ v27 _=>acc.length - (intOf v27).toNat)
     case atStart=>exact ⟨0,false,Nat.zero_le _,rfl,rfl,HAN.out,HN.out,HX.out,HB.out⟩
     case round =>
      rename World=>Wq
      clear HN HX HB HAN
      obtain ⟨i,b,hi,rfl,rfl,han,hN,hX,hB⟩:=hrel
      unfold Hid at han hN hX hB
      by_cases hq:i < acc.length
      ·obtain ⟨ay,M1,f1,M2,f2,eY,p0,p1,p2,y1,g1,y2,g2⟩:=at_T83 (Kd.N_reads' hN).2.2 (i:Int) (by omega) (by omega)
       have hrdy:rd_T83 acc (i:Int) = acc[i]:=by unfold rd_T83;simp [List.getD_eq_getElem?_getD,hq]
       rw [Int.toNat_natCast] at p0 p1 p2
       rw [hrdy] at p0 p1 p2 y1 g1 y2 g2
       subst eY
       rw [List.drop_eq_getElem_cons hq] at han
       generalize acc[i] = y at han p0 p1 p2 y1 g1 y2 g2
       clear hrdy
       simp only [l4any] at han
       have HAN:=Aside0.mk han
       have G1:=Aside0.mk g1
       have G2:=Aside0.mk g2
       have HN:=Aside0.mk hN
       have HX:=Aside0.mk hX
       have HB:=Aside0.mk hB
       clear han hN hX hB g1 g2
       go_upto_region 10 with fail
       have hbl:=below_alloc (Below.refl Wq.heap.size Wq) (.cells #[.bool y.f0,.slice M1 y.f1.length f1,.slice M2 y.f2.length f2] 83)
       have HY:=Aside0.mk (heap_alloc_new Wq (.cells #[.bool y.f0,.slice M1 y.f1.length f1,.slice M2 y.f2.length f2] 83))
       replace HX:=Aside0.mk (blk_alloc HX.out (.cells #[.bool y.f0,.slice M1 y.f1.length f1,.slice M2 y.f2.length f2] 83))
       replace HN:=Aside0.mk (Kd.N_alloc HN.out (.cells #[.bool y.f0,.slice M1 y.f1.length f1,.slice M2 y.f2.length f2] 83))
       replace G1:=Aside0.mk (Kd.C_below G1.out hbl)
       replace G2:=Aside0.mk (Kd.C_below G2.out hbl)
       have HB:=Aside0.mk (below_step HB.out hbl)
       clear p0 p1 p2 hbl
       obtain ⟨gy,hgy⟩:∃ g_,g_ = Wq.heap.size:=⟨_,rfl⟩
       generalize Wq.alloc (.cells #[.bool y.f0,.slice M1 y.f1.length f1,.slice M2 y.f2.length f2] 83) = W4 at HX HY HN HB G1 G2 ⊢
       rw [← hgy] at HY ⊢
       clear hgy
       have a0:=qc3_0 HX
       have a1:=qc3_1 HX
       have a2:=qc3_2 HX
       have b0:W4.cell? ⟨gy,0,none⟩ = some (.bool y.f0):=(blk_cell HY.out 0).trans rfl
       have b1:W4.cell? ⟨gy,1,none⟩ = some (.slice M1 y.f1.length f1):=(blk_cell HY.out 1).trans rfl
       have b2:W4.cell? ⟨gy,2,none⟩ = some (.slice M2 y.f2.length f2):=(blk_cell HY.out 2).trans rfl
       obtain ⟨yp,ya,yb⟩:=y
       simp only at HAN HY G1 G2 b0 b1 b2 y1 y2 ⊢
       cases b with
       | true =>
        go_wp2
        go_roundw
        case rel=>exact ⟨i + 1,true,hq,rfl,rfl,by have:=HAN.out;unfold Hid;simpa using this,HN.out,HX.out,HB.out⟩
        case measure=>simp [intOf];omega
       | false =>
        cases yp with
        | true =>
         go_wp2
         go_roundw
         case rel=>exact ⟨i + 1,false,hq,rfl,rfl,by have:=HAN.out;unfold Hid;simpa using this,HN.out,HX.out,HB.out⟩
         case measure=>simp [intOf];omega
        | false =>
         have han:=HAN.out
         simp only [Bool.false_eq_true,if_false,beq_self_eq_true,if_true] at han
         obtain ⟨c9,hc9,han⟩:=Option.bind_eq_some_iff.1 han
         have HAN:=Aside0.mk han
         have hcall:=spec_l4SameTerms.calls k false L1 e1 xa L2 e2 xb false M1 f1 ya M2 f2 yb c9 W4 (Kd.C_below I1.out HB.out) z1 (Kd.C_below I2.out HB.out) z2 G1.out y1 G2.out y2 hc9
         clear han hc9
         go_wp2_with (go_at_call 102;refine hcall.mono ?_;first|rintro e_ W5 rfl hd|rintro e_ W5 ⟨rfl,hd⟩;have HN:=Aside0.mk (Kd.N_below HN.out hd);have HX:=Aside0.mk ((hd.block g (blk_lt HX.out)).trans HX.out);have HB:=Aside0.mk (below_step HB.out hd);clear hd)
         go_roundw
         case rel=>exact ⟨i + 1,c9,hq,rfl,rfl,HAN.out,HN.out,HX.out,HB.out⟩
         case measure=>simp [intOf];omega
      ·obtain rfl:i = acc.length:=by omega
       rw [List.drop_length] at han
       simp only [l4any,Option.some.injEq] at han
       subst han
       have HN:=Aside0.mk hN
       have HX:=Aside0.mk hX
       have HB:=Aside0.mk hB
       clear hN hX hB
       have a0:=qc3_0 HX
       have a1:=qc3_1 HX
       have a2:=qc3_2 HX
       cases b with
       | true =>
        go_wp2
        go_roundw
        case rel=>exact ⟨j + 1,acc,hp,by have:=HAL.out;omega,rfl,YV,HN.out,HB.out⟩
        case measure=>simp [intOf];omega
       | false =>
        go_wp2_with ((with_reducible refine gate_builtin (b:=.append) (xs:=#[.tmp 47,.tmp 49]) rfl ?_);at_builtin;refine Kd.N_append k83 (w0:=w) w.heap.size rfl (.tmp 47) (.tmp 49) 40 83 (.agg #[.bool false,.slice none 0 0,.slice none 0 0]) 56 rfl Try.underlying40 info83 rfl (by decide) (by decide) (.slice A3 acc.length c3) acc (⟨false,xa,xb⟩:S83) [.bool false,.slice L1 xa.length e1,.slice L2 xb.length e2] (fun _=>True) (fun k_=>k_ < w.heap.size) rfl rfl (Kd.FK_below HFK.out HB.out) (fun k_ hk=>⟨trivial,fun q_=>by have:=Kd.N_base HN.out k_ q_.symm;omega⟩) (fun _ _=>trivial) HN.out HB.out HB.out.size (by have:=HAL.out;omega) ?_;intro v1 w1 ho hb hg_ hat_;have HO:=Aside0.mk ho;have HB:=Aside0.mk hb;clear ho hb hg_ hat_)
        go_roundw
        case rel=>exact ⟨j + 1,acc ++ [(⟨false,xa,xb⟩:S83)],hp,Zb,rfl,YV,HO.out,HB.out⟩
        case measure=>simp [intOf];omega
  ·obtain rfl:j = l0.length:=by omega
   rw [List.drop_length] at htd
   simp only [l4tid,Option.some.injEq] at htd
   subst htd
   have hcall:=spec_l4Own.calls k A3 c3 acc r wr (Kd.N_reads' hN).2.2 (Kd.N_reads' hN).2.1 HW.out
   have HB:=Aside0.mk hB
   clear hN hB
   go_wp2_with (go_at_call 103;refine hcall.mono ?_;first|rintro e_ W4 v rfl hr hd|rintro e_ W4 ⟨v,rfl,hr,hd⟩;have HR:=Aside0.mk (Kd.S_lower hr HB.out.size);have HB:=Aside0.mk (below_step HB.out hd);clear hr hd)
   go_ret
   exact ⟨_,rfl,HR.out,HB.out⟩

/-! ### spec_TidyClause: function 20 -/
def spec_TidyClause.f (k:Nat) (l0_0:List Int) (l1:List (S83)):Option ((List (S83)) × Bool):=(spec_GoodClause.f k l0_0 l1).bind fun t415=>(if t415 = true then ((spec_l4Tidy.f k l1).bind fun t416=>(some (t416,true))) else (some (([]:List (S83)),false)))
theorem spec_TidyClause.mono:∀ a0 a1 k,LeO (spec_TidyClause.f k a0 a1) (spec_TidyClause.f (k + 1) a0 a1):=by
 intro a0 a1 k
 unfold spec_TidyClause.f
 have m0:=@spec_GoodClause.mono
 have m1:=@spec_l4Tidy.mono
 exact mO
set_option maxHeartbeats 8000000 in
set_option maxRecDepth 100000 in
theorem spec_TidyClause.calls (k:Nat) (A0_0:Option Addr) (c0_0:Nat) (l0_0:List Int) (A1:Option Addr) (c1:Nat) (l1:List (S83)) (r1:List (S83)) (r2:Bool) (w:World) (hr0_0:Kd.C (Kd.int .i64) w A0_0 l0_0.length l0_0) (hc0_0:l0_0.length ≤ c0_0) (hr1:Kd.C k83 w A1 l1.length l1) (hc1:l1.length ≤ c1) (h:spec_TidyClause.f k l0_0 l1 = some (r1,r2)) :
  Calls Try.prog 20 #[.agg #[.slice A0_0 l0_0.length c0_0],.slice A1 l1.length c1] w fun e w'=>∃ v0_:Value,e = .returned (.tuple #[v0_,.bool r2]) ∧ Kd.S k83 83 w' w.heap.size (fun _=>True) v0_ r1 ∧ Below w.heap.size w w':=by
 have hu26:=Try.underlying26
 have HR0_0:=Aside0.mk hr0_0
 have HC0_0:=Aside0.mk hc0_0
 clear hr0_0 hc0_0
 have HR1:=Aside0.mk hr1
 have HC1:=Aside0.mk hc1
 clear hr1 hc1
 have HB:=Aside0.mk (Below.refl w.heap.size w)
 have H:((spec_GoodClause.f k l0_0 l1).bind fun t415=>(if t415 = true then ((spec_l4Tidy.f k l1).bind fun t416=>(some (t416,true))) else (some (([]:List (S83)),false)))) = some (r1,r2):=h
 clear h
 replace H:=bI H;obtain ⟨t415,A3,H⟩:=H
 by_cases c4:t415 = true
 ·subst c4
  replace H:=pT H
  replace H:=bI H;obtain ⟨t416,A5,H⟩:=H
  simp only [Option.some.injEq,Prod.mk.injEq] at H
  obtain ⟨rfl,rfl⟩:=H
  go_enter Try.func20,Try.ntmps20
  go_wp2_with (first|(refine xB 2 #[.slice A0_0 l0_0.length c0_0] 26 ?_;intro gb414 hg w6 hbox hb;have BK414:=Aside0.mk (hbox);have GW414:=gZ w gb414;have GE414:=GW414;replace HB:=bS hb;clear hb hbox hg;have hcz7_0:=qc1_0 BK414;have hfz7_0:=fz BK414 0)|((with_reducible refine gate_callee (f:=27) rfl ?_);refine goesL_ (some 8) rfl rfl Try.func27 (by kernel_rfl) rfl #[.agg #[.slice A0_0 l0_0.length c0_0],.slice A1 l1.length c1] rfl Ya ?_;(with_reducible refine (spec_GoodClause.calls k _ _ l0_0 _ _ l1 true _ ?side1 ?side2 ?side3 ?side4 A3.out).mono ?_);(case side1=>exact Yx);(case side2=>exact Yw);(case side3=>exact sC HR1);(case side4=>exact HC1.out);rintro e w8 ⟨rfl,hb⟩;refine ⟨_,rfl,?_⟩;replace BK414:=bb BK414 hb;replace HB:=bS hb;clear hb)|((with_reducible refine gate_callee (f:=60) rfl ?_);refine goesL_ (some 11) rfl rfl Try.func60 (by kernel_rfl) rfl #[.slice A1 l1.length c1] rfl Ya ?_;(with_reducible refine (spec_l4Tidy.calls k _ _ l1 t416 _ ?side1 ?side2 A5.out).mono ?_);(case side1=>exact sC HR1);(case side2=>exact HC1.out);rintro e w9 ⟨v417,rfl,ho0,hb⟩;refine ⟨_,rfl,?_⟩;have HO418:=Aside0.mk (Kd.S_lower ho0 (below_size bH));replace BK414:=bb BK414 hb;replace HB:=bS hb;clear hb ho0))
  go_ret2
  exact ⟨_,Yb,rS HO418,bH⟩
 ·replace c4:=Bool.eq_false_iff.mpr c4
  subst c4
  replace H:=pF H
  simp only [Option.some.injEq,Prod.mk.injEq] at H
  obtain ⟨rfl,rfl⟩:=H
  go_enter Try.func20,Try.ntmps20
  go_wp2_with (first|(refine xB 2 #[.slice A0_0 l0_0.length c0_0] 26 ?_;intro gb414 hg w10 hbox hb;have BK414:=Aside0.mk (hbox);have GW414:=gZ w gb414;have GE414:=GW414;replace HB:=bS hb;clear hb hbox hg;have hcz11_0:=qc1_0 BK414;have hfz11_0:=fz BK414 0)|((with_reducible refine gate_callee (f:=27) rfl ?_);refine goesL_ (some 8) rfl rfl Try.func27 (by kernel_rfl) rfl #[.agg #[.slice A0_0 l0_0.length c0_0],.slice A1 l1.length c1] rfl Ya ?_;(with_reducible refine (spec_GoodClause.calls k _ _ l0_0 _ _ l1 false _ ?side1 ?side2 ?side3 ?side4 A3.out).mono ?_);(case side1=>exact Yx);(case side2=>exact Yw);(case side3=>exact sC HR1);(case side4=>exact HC1.out);rintro e w12 ⟨rfl,hb⟩;refine ⟨_,rfl,?_⟩;replace BK414:=bb BK414 hb;replace HB:=bS hb;clear hb))
  go_ret2
  exact ⟨_,Yb,Yl,bH⟩

/-! ### impl_termsOf: function 71, by a walk of this session's own -/
def flatT:List S83 → List (List Int)
 | []=>[]
 | x :: t=>x.f1 :: x.f2 :: flatT t
theorem flat_snoc (l:List S83) (x:S83):flatT (l ++ [x]) = flatT l ++ [x.f1,x.f2]:=by
 induction l with
 | nil=>rfl
 | cons y t ih=>simp only [List.cons_append,flatT,ih]
theorem flat_len (l:List S83):(flatT l).length = 2 * l.length:=by
 induction l with
 | nil=>rfl
 | cons y t ih=>simp only [flatT,List.length_cons,ih];omega
theorem reps2 {α:Type} {R:α → List Value → Prop} {x y:α} {u v:Value} (h1:R x [u]) (h2:R y [v]):Reps R 1 [x,y] [u,v]:=by
 refine ⟨rfl,fun j p hj=>?_⟩
 match j with
 | 0=>cases hj;exact h1
 | 1=>cases hj;exact h2
 | j + 2=>simp at hj
theorem fk_slice {α:Type} {d:Kd α} {e c:Nat} {W:World} {ok:Nat → Prop} {A:Option Addr} {l:List α} (hl:l.length ≤ c) (hf:Kd.F d W ok A l.length l):Kd.FK (Kd.slice e d) W ok l [.slice A l.length c]:=fun W' hW=>⟨A,c,rfl,hl,hf W' hW⟩
def impl_termsOf.f (l:List S83):Option (List (List Int)):=if l.length ≤ 1048576 then some (flatT l) else none
set_option maxHeartbeats 8000000 in
set_option maxRecDepth 1000000 in
theorem impl_termsOf.calls (A0:Option Addr) (c0:Nat) (l0:List S83) (r:List (List Int)) (w:World) (hr0:Kd.C k83 w A0 l0.length l0) (hc0:l0.length ≤ c0) (h:impl_termsOf.f l0 = some r) :
  Calls Try.prog 71 #[.slice A0 l0.length c0] w fun e w'=>∃ v0_:Value,e = .returned v0_ ∧ Kd.N (Kd.slice 3 (Kd.int .i64)) 24 w' w.heap.size (fun _=>True) v0_ r ∧ Below w.heap.size w w':=by
 unfold impl_termsOf.f at h
 split at h
 rotate_left
 ·cases h
 rename_i hn
 obtain rfl:=Option.some.inj h
 have H0:=Aside0.mk hr0
 clear h hr0
 go_enter Try.func71,Try.ntmps71
 go_wp2
 go_loopw [3,8] (fun v3 v8 wr=>∃ j:Nat,j ≤ l0.length ∧ v8 = .int .i64 j ∧ Hid (Kd.N (Kd.slice 3 (Kd.int .i64)) 24 wr w.heap.size (fun _=>True) v3 (flatT (l0.take j))) ∧ Hid (Below w.heap.size w wr)) (fun _ v8 _=>l0.length - (intOf v8).toNat)
 case atStart=>exact ⟨0,Nat.zero_le _,rfl,Kd.N_nil _ _ _ _ _,Below.refl _ _⟩
 case round =>
  obtain ⟨j,hj,rfl,hN,hB⟩:=hrel
  unfold Hid at hN hB
  by_cases hp:j < l0.length
  ·obtain ⟨ad,L1,e1,L2,e2,eA,q0,q1,q2,z1,i1,z2,i2⟩:=at_T83 H0.out (j:Int) (by omega) (by omega)
   have hrd:rd_T83 l0 (j:Int) = l0[j]:=by unfold rd_T83;simp [List.getD_eq_getElem?_getD,hp]
   rw [Int.toNat_natCast] at q0 q1 q2
   rw [hrd] at q0 q1 q2 z1 i1 z2 i2
   subst eA
   have htk:l0.take (j + 1) = l0.take j ++ [l0[j]]:=by rw [List.take_succ_eq_append_getElem hp]
   generalize l0[j] = x at htk q0 q1 q2 z1 i1 z2 i2
   replace q0:=(hB.cell (World.block_lt_of_cell? w _ q0)).trans q0
   replace q1:=(hB.cell (World.block_lt_of_cell? w _ q1)).trans q1
   replace q2:=(hB.cell (World.block_lt_of_cell? w _ q2)).trans q2
   have I1:=Aside0.mk (fk_slice (e:=3) z1 (Kd.C_F (Kd.heap_int _) i1))
   have I2:=Aside0.mk (fk_slice (e:=3) z2 (Kd.C_F (Kd.heap_int _) i2))
   have HTK:=Aside0.mk htk
   have HN:=Aside0.mk hN
   have HB:=Aside0.mk hB
   clear hN hB i1 i2 htk hrd z1 z2
   go_upto_region 5 with fail
   have HX:=Aside0.mk (heap_alloc_new wr (.cells #[.bool x.f0,.slice L1 x.f1.length e1,.slice L2 x.f2.length e2] 83))
   have HN:=Aside0.mk (Kd.N_alloc HN.out (.cells #[.bool x.f0,.slice L1 x.f1.length e1,.slice L2 x.f2.length e2] 83))
   have HB:=Aside0.mk (Below.alloc HB.out HB.out.size (.cells #[.bool x.f0,.slice L1 x.f1.length e1,.slice L2 x.f2.length e2] 83))
   clear q0 q1 q2
   obtain ⟨g,hg⟩:∃ g,g = wr.heap.size:=⟨_,rfl⟩
   generalize wr.alloc (.cells #[.bool x.f0,.slice L1 x.f1.length e1,.slice L2 x.f2.length e2] 83) = W1 at HX HN HB ⊢
   rw [← hg] at HX ⊢
   clear hg
   have b1:W1.cell? ⟨g,1,none⟩ = some (.slice L1 x.f1.length e1):=(blk_cell HX.out 1).trans rfl
   have b2:W1.cell? ⟨g,2,none⟩ = some (.slice L2 x.f2.length e2):=(blk_cell HX.out 2).trans rfl
   go_wp2_with (first
    | ((with_reducible refine gate_dst (N:=17) rfl ?_);refine Kd.N_lit (Kd.slice 3 (Kd.int .i64)) (w0:=w) w.heap.size 24 ?hg (N':=17) ?hd (xs:=[x.f1,x.f2]) (inner:=[.slice L1 x.f1.length e1,.slice L2 x.f2.length e2]) (ok:=fun k_=>k_ < w.heap.size ∨ W1.heap.size ≤ k_) (okp:=fun k_=>k_ < w.heap.size) ?hr (reps2 (Kd.FK_below I1.out HB.out) (Kd.FK_below I2.out HB.out)) (fun k_ h=>.inl h) (.inr (Nat.le_refl _)) HB.out HB.out.size (by simp) ?_;(case hd=>rfl);(case hg=>rfl);(case hr=>exact Yc);intro vl Wl hl_ hb hg_ hat_;have HL:=Aside0.mk hl_;have HBl:=Aside0.mk hb;have HN2:=Aside0.mk (Kd.N_grown HN.out hg_ (fun _ _=>by simp));have HNL:=Aside0.mk (Kd.N_lt HN.out);clear hl_ hb hg_ hat_ HN HB;obtain ⟨Al,cl,rfl⟩:=Kd.N_slice HL.out)
    | ((with_reducible refine gate_builtin (b:=.append) (xs:=#[.tmp 12,.tmp 17]) rfl ?_);at_builtin;refine Kd.N_append_rows (Kd.slice 3 (Kd.int .i64)) (w0:=w) w.heap.size rfl (.tmp 12) (.tmp 17) 27 24 (.slice none 0 0) 24 rfl Try.underlying27 info24 rfl (by decide) (by decide) _ (flatT (l0.take j)) [x.f1,x.f2] Al 2 cl (fun _=>True) (fun k_=>k_ < w.heap.size ∨ W1.heap.size ≤ k_) rfl rfl HN2.out (Kd.N_F HL.out) (fun k_ hk=>⟨trivial,fun q_=>by have h1:=Kd.N_base HN2.out k_ q_.symm;have h2:=HNL.out k_ q_.symm;omega⟩) (fun _ _=>trivial) HBl.out HBl.out.size ?aL ?_;(case aL=>rw [flat_len,List.length_take];omega);intro v1 w1 ho hb hg_ hat_;have HO:=Aside0.mk ho;have HBo:=Aside0.mk hb;clear ho hb hg_ hat_))
   go_roundw
   case rel=>exact ⟨j + 1,by omega,rfl,by have:=HO.out;unfold Hid;rw [HTK.out,flat_snoc];exact this,HBo.out⟩
   case measure=>simp [intOf];omega
  ·obtain rfl:j = l0.length:=by omega
   rw [List.take_length] at hN
   have HN:=Aside0.mk hN
   have HB:=Aside0.mk hB
   clear hN hB
   go_wp2
   go_ret
   exact ⟨_,rfl,HN.out,HB.out⟩

/-! ### impl_withTerms: function 104 -/
def impl_withTerms.l0:Nat → List (List Int) → List (S83) → List (S83) → Int → Int → Option ((List (S83)))
 | 0,_,_,_,_,_=>none
 | k + 1,x1,x5,x8,x9,x10=>if x10 < x9 then (if 0 ≤ x10 then (if x10 < (x8.length:Int) then (if 0 ≤ (wrap64 (2 * x10)) then (if (wrap64 (2 * x10)) < (x1.length:Int) then (if 0 ≤ (wrap64 ((wrap64 (2 * x10)) + 1)) then (if (wrap64 ((wrap64 (2 * x10)) + 1)) < (x1.length:Int) then (if x5.length < 2513169434916 then (impl_withTerms.l0 k x1 (x5 ++ [(⟨(rd_T83 x8 x10).f0,rd_L2 x1 (wrap64 (2 * x10)),rd_L2 x1 (wrap64 ((wrap64 (2 * x10)) + 1))⟩:S83)]) x8 x9 (wrap64 (x10 + 1))) else (none)) else (none)) else (none)) else (none)) else (none)) else (none)) else (none)) else (some x5)
def impl_withTerms.f (k:Nat) (l0:List (S83)) (l1:List (List Int)):Option ((List (S83))):=impl_withTerms.l0 k l1 ([]:List (S83)) l0 (l0.length:Int) 0
theorem impl_withTerms.mono_l:∀ k,(∀ y0 y1 y2 y3 y4,LeO (impl_withTerms.l0 k y0 y1 y2 y3 y4) (impl_withTerms.l0 (k + 1) y0 y1 y2 y3 y4))
 | 0=>fun _ _ _ _ _ r h=>by simp [impl_withTerms.l0] at h
 | k + 1=>by
  have ih0:=impl_withTerms.mono_l k
  ·intro y0 y1 y2 y3 y4
   unfold impl_withTerms.l0
   exact mO
theorem impl_withTerms.mono:∀ a0 a1 k,LeO (impl_withTerms.f k a0 a1) (impl_withTerms.f (k + 1) a0 a1):=by
 intro a0 a1 k
 have ih0:=impl_withTerms.mono_l k
 unfold impl_withTerms.f
 exact mO
def impl_withTerms.T5:Bool × List (List Nat × List Nat):=(true,[([],[]),([],[]),([1],[1]),([],[]),([],[]),([4],[4]),([3,5],[3,5]),([6],[6]),([],[]),([],[]),([9],[9]),([10],[10]),([8,11],[8,11]),([12],[12]),([2,7,13],[2,7,13]),([14],[14]),([0,15],[0,15]),([16,16,0,1,2,3,4,5,6,7,8,9,10,11,12,13,14,15,16],[0,16])])
def impl_withTerms.B5:List Nat:=[0,0,2,0,0,16,56,120,0,0,512,1536,3840,7936,16382,32766,65535,131071]
theorem impl_withTerms.tab5:rtab .any (opsOf Try.f104 5) = impl_withTerms.T5:=by kernel_rfl
theorem impl_withTerms.bits5:waitsOk impl_withTerms.T5.2 impl_withTerms.B5 = true:=by kernel_rfl
set_option maxHeartbeats 8000000 in
set_option maxRecDepth 100000 in
theorem impl_withTerms.calls (k:Nat) (A0:Option Addr) (c0:Nat) (l0:List (S83)) (P1_:Nat → Prop) (A1:Option Addr) (c1:Nat) (l1:List (List Int)) (r:List (S83)) (w:World) (hr0:Kd.C k83 w A0 l0.length l0) (hc0:l0.length ≤ c0) (hs1:Kd.V (Kd.slice 3 (Kd.int .i64)) 24 w w.heap.size (fun k_=>P1_ k_) (.slice A1 l1.length c1) l1) (h:impl_withTerms.f k l0 l1 = some r) :
  Calls Try.prog 104 #[.slice A0 l0.length c0,.slice A1 l1.length c1] w fun e w'=>∃ v0_:Value,e = .returned (v0_) ∧ Kd.N k83 83 w' w.heap.size (fun k_=>(P1_ k_ ∨ w.heap.size ≤ k_)) v0_ r ∧ Below w.heap.size w w':=by
 have hu83:=Try.underlying83
 have HR0:=Aside0.mk hr0
 have HC0:=Aside0.mk hc0
 clear hr0 hc0
 have HO1:=Aside0.mk (show Kd.V (Kd.slice 3 (Kd.int .i64)) 24 w w.heap.size (fun k_=>(P1_ k_ ∨ w.heap.size ≤ k_)) (.slice A1 l1.length c1) l1 from Kd.V_mono hs1 (fun k_ hk=>.inl hk))
 have HB:=Aside0.mk (Below.refl w.heap.size w)
 have H:(impl_withTerms.l0 k l1 ([]:List (S83)) l0 (l0.length:Int) 0) = some r:=h
 clear h
 have H':=Aside0.mk H
 clear H
 go_enter Try.func104,Try.ntmps104
 go_wp2
 go_loopg [5,10] k (fun kq v5 v10 w'=>∃ (x5_1:List (S83)) (x10_1:Int),v10 = .int .i64 x10_1 ∧ Aside0 (impl_withTerms.l0 kq l1 x5_1 l0 (l0.length:Int) x10_1 = some r) ∧ Aside0 (kq ≤ k) ∧ Aside0 (Kd.V (Kd.slice 3 (Kd.int .i64)) 24 w' w.heap.size (fun k_=>(P1_ k_ ∨ w.heap.size ≤ k_) ∧ some k_ ≠ (v5:Value).ownBlock) (.slice A1 l1.length c1) l1) ∧ Aside0 (Kd.N k83 83 w' w.heap.size (fun k_=>(P1_ k_ ∨ w.heap.size ≤ k_)) v5 x5_1) ∧ Aside0 (Below w.heap.size w w'))
 case atStart=>exact ⟨(([]:List (S83))),(0),Yd,H',⟨Nat.le_refl _⟩,⟨by (with_reducible repeat (first|apply Kd.V_alloc|apply Kd.V_drewN|apply Kd.V_drew));exact Kd.V_mono HO1.out (fun _ hk=>⟨hk,(by simp [Value.ownBlock])⟩)⟩,⟨Yl⟩,⟨bH⟩⟩
 case round =>
  clear H'
  (try clear c1)
  obtain ⟨x5_1,x10_1,rfl,HA,HK1,HO_1,HO_5,HB⟩:=hrel
  cases gk with
  | zero=>exact absurd HA.out (by simp [impl_withTerms.l0])
  | succ k1 =>
   have H:=HA.out
   clear HA
   simp only [impl_withTerms.l0] at H
   by_cases c3:x10_1 < (l0.length:Int)
   ·rw [if_pos c3] at H
    have c3b0:=decide_eq_true c3
    clear c3
    replace H:=gI H;obtain ⟨c4b0,H⟩:=H
    replace H:=gI H;obtain ⟨c5b0,H⟩:=H
    obtain ⟨ji6,hji6⟩:∃ j_:Int,(wrap64 (2 * x10_1)) = j_:=⟨_,rfl⟩
    replace H:(if 0 ≤ (ji6) then (if (ji6) < (l1.length:Int) then (if 0 ≤ (wrap64 ((ji6) + 1)) then (if (wrap64 ((ji6) + 1)) < (l1.length:Int) then (if x5_1.length < 2513169434916 then (impl_withTerms.l0 k1 l1 (x5_1 ++ [(⟨(rd_T83 l0 x10_1).f0,rd_L2 l1 (ji6),rd_L2 l1 (wrap64 ((ji6) + 1))⟩:S83)]) l0 (l0.length:Int) (wrap64 (x10_1 + 1))) else (none)) else (none)) else (none)) else (none)) else (none)) = some r:=by first|(rw [hji6] at H;exact H)|(simp only [hji6] at H ⊢;exact H)
    have hji6w:(IntKind.i64.wrap (2 * x10_1)) = ji6:=(i64_w _).trans hji6
    replace H:=gI H;obtain ⟨c7b0,H⟩:=H
    replace H:=gI H;obtain ⟨c8b0,H⟩:=H
    obtain ⟨ji9,hji9⟩:∃ j_:Int,(wrap64 ((ji6) + 1)) = j_:=⟨_,rfl⟩
    replace H:(if 0 ≤ (ji9) then (if (ji9) < (l1.length:Int) then (if x5_1.length < 2513169434916 then (impl_withTerms.l0 k1 l1 (x5_1 ++ [(⟨(rd_T83 l0 x10_1).f0,rd_L2 l1 (ji6),rd_L2 l1 (ji9)⟩:S83)]) l0 (l0.length:Int) (wrap64 (x10_1 + 1))) else (none)) else (none)) else (none)) = some r:=by first|(rw [hji9] at H;exact H)|(simp only [hji9] at H ⊢;exact H)
    have hji9w:(IntKind.i64.wrap ((ji6) + 1)) = ji9:=(i64_w _).trans hji9
    replace H:=gI H;obtain ⟨c10b0,H⟩:=H
    replace H:=gI H;obtain ⟨c11b0,H⟩:=H
    replace H:=gK H;obtain ⟨LMc12,H⟩:=H
    obtain ⟨y423,hy423⟩:∃ y_:List (S83),y_ = (x5_1 ++ [(⟨(rd_T83 l0 x10_1).f0,rd_L2 l1 (ji6),rd_L2 l1 (ji9)⟩:S83)]):=⟨_,rfl⟩
    replace H:(impl_withTerms.l0 k1 l1 y423 l0 (l0.length:Int) (wrap64 (x10_1 + 1))) = some r:=by first|(rw [hy423];with_reducible exact H)|(have H2_:=(Option.bind_some _ _).symm.trans H;rw [hy423];with_reducible exact H2_)|(have H2_:=(Option.bind_some _ _).symm.trans H;with_reducible exact H2_)|with_reducible exact H|(rw [hy423];exact H)|exact H
    have Ny423:=Aside0.mk hy423
    clear hy423
    have H':=Aside0.mk H
    clear H
    have p419:0 ≤ (x10_1:Int):=oD
    have q419:x10_1 < (l0.length:Int):=oD
    obtain ⟨ad419,A419_1,c419_1,A419_2,c419_2,e419,hx419_0,hx419_1,hx419_2,hl419_1,hi419_1,hl419_2,hi419_2⟩:=at_T83 HR0.out x10_1 p419 q419
    cases e419
    replace hx419_0:=(HB.out.cell (World.block_lt_of_cell? w _ hx419_0)).trans hx419_0
    replace hx419_1:=(HB.out.cell (World.block_lt_of_cell? w _ hx419_1)).trans hx419_1
    replace hx419_2:=(HB.out.cell (World.block_lt_of_cell? w _ hx419_2)).trans hx419_2
    have HR419_1:=Aside0.mk hi419_1
    have HC419_1:=Aside0.mk hl419_1
    clear hi419_1 hl419_1
    have HR419_2:=Aside0.mk hi419_2
    have HC419_2:=Aside0.mk hl419_2
    clear hi419_2 hl419_2
    replace p419:=eq_true p419
    replace q419:=eq_true q419
    try go_wp2_with (first|(refine xB 7 #[.bool false,.slice none 0 0,.slice none 0 0] 83 ?_;intro gb420 hg w13 hbox hb;replace HO_1:=Aside0.mk (Kd.V_below (Kd.V_elderB (rV HO_1) gb420 (Nat.le_of_eq hg.symm)) hb);replace HO_5:=Aside0.mk (Kd.N_below (Kd.N_elderB (rN HO_5) gb420 (Nat.le_of_eq hg.symm)) hb);have BK420:=Aside0.mk (hbox);have GW420:=gZ w gb420;have GE420:=GW420;replace HB:=bS hb;clear hb hbox hg;have hcz14_0:=qc3_0 BK420;have hcz14_1:=qc3_1 BK420;have hcz14_2:=qc3_2 BK420;have hfz14_0:=fz BK420 0;have hfz14_1:=fz BK420 1;have hfz14_2:=fz BK420 2))
    have n0_:Aside0 (Kd.V (Kd.slice 3 (Kd.int .i64)) 24 (((w13.setCell ⟨gb420,0,none⟩ (.bool ((rd_T83 l0 x10_1).f0))).setCell ⟨gb420,1,none⟩ (.slice A419_1 ((rd_T83 l0 x10_1).f1).length c419_1)).setCell ⟨gb420,2,none⟩ (.slice A419_2 ((rd_T83 l0 x10_1).f2).length c419_2)) w.heap.size (fun k_=>(P1_ k_ ∨ w.heap.size ≤ k_) ∧ some k_ ≠ (u5:Value).ownBlock ∧ k_ ≠ gb420) (.slice A1 l1.length c1) l1):=⟨by (with_reducible repeat (first|apply Kd.V_alloc|apply Kd.V_drewN|apply Kd.V_drew));exact Kd.V_mono (Kd.V_far (p:=⟨gb420,2,none⟩) (Kd.V_far (p:=⟨gb420,1,none⟩) (Kd.V_far (p:=⟨gb420,0,none⟩) (Kd.V_mono HO_1.out (fun k_ hk=>(⟨hk,hk.2⟩:_ ∧ k_ ≠ gb420))) (fun _ hk=>hk.2) (.bool ((rd_T83 l0 x10_1).f0))) (fun _ hk=>hk.2) (.slice A419_1 ((rd_T83 l0 x10_1).f1).length c419_1)) (fun _ hk=>hk.2) (.slice A419_2 ((rd_T83 l0 x10_1).f2).length c419_2)) (fun _ hk=>⟨hk.1.1.1,⟨hk.1.1.2,hk.1.2⟩⟩)⟩
    have n1_:Aside0 (Kd.N k83 83 (((w13.setCell ⟨gb420,0,none⟩ (.bool ((rd_T83 l0 x10_1).f0))).setCell ⟨gb420,1,none⟩ (.slice A419_1 ((rd_T83 l0 x10_1).f1).length c419_1)).setCell ⟨gb420,2,none⟩ (.slice A419_2 ((rd_T83 l0 x10_1).f2).length c419_2)) w.heap.size (fun k_=>(P1_ k_ ∨ w.heap.size ≤ k_) ∧ k_ ≠ gb420) u5 x5_1):=⟨by (with_reducible repeat (first|apply Kd.N_alloc|apply Kd.N_drewN|apply Kd.N_drew));exact Kd.N_mono (Kd.N_far (p:=⟨gb420,2,none⟩) (Kd.N_far (p:=⟨gb420,1,none⟩) (Kd.N_far (p:=⟨gb420,0,none⟩) (Kd.N_mono HO_5.out (fun k_ hk=>(⟨hk,hk.2⟩:_ ∧ k_ ≠ gb420))) (fun _ hk=>hk.2) (.bool ((rd_T83 l0 x10_1).f0))) (fun _ hk=>hk.2) (.slice A419_1 ((rd_T83 l0 x10_1).f1).length c419_1)) (fun _ hk=>hk.2) (.slice A419_2 ((rd_T83 l0 x10_1).f2).length c419_2)) (fun _ hk=>⟨hk.1.1,hk.1.2⟩)⟩
    have n2_:Aside0 ((((w13.setCell ⟨gb420,0,none⟩ (.bool ((rd_T83 l0 x10_1).f0))).setCell ⟨gb420,1,none⟩ (.slice A419_1 ((rd_T83 l0 x10_1).f1).length c419_1)).setCell ⟨gb420,2,none⟩ (.slice A419_2 ((rd_T83 l0 x10_1).f2).length c419_2)).heap[gb420]? = some (.cells #[.bool ((rd_T83 l0 x10_1).f0),.slice A419_1 ((rd_T83 l0 x10_1).f1).length c419_1,.slice A419_2 ((rd_T83 l0 x10_1).f2).length c419_2] 83 (0,0))):=⟨by (with_reducible repeat (first|refine blk_drewN ?_ _|refine blk_drew ?_|refine blk_alloc ?_ _));refine blk_put (cs:=#[.bool ((rd_T83 l0 x10_1).f0),.slice A419_1 ((rd_T83 l0 x10_1).f1).length c419_1,.slice none 0 0]) ?_ 2 _ rfl;(with_reducible repeat (first|refine blk_drewN ?_ _|refine blk_drew ?_|refine blk_alloc ?_ _));refine blk_put (cs:=#[.bool ((rd_T83 l0 x10_1).f0),.slice none 0 0,.slice none 0 0]) ?_ 1 _ rfl;(with_reducible repeat (first|refine blk_drewN ?_ _|refine blk_drew ?_|refine blk_alloc ?_ _));refine blk_put (cs:=#[.bool false,.slice none 0 0,.slice none 0 0]) ?_ 0 _ rfl;(with_reducible repeat (first|refine blk_drewN ?_ _|refine blk_drew ?_|refine blk_alloc ?_ _));exact BK420.out⟩
    have n3_:Aside0 (Below w.heap.size w (((w13.setCell ⟨gb420,0,none⟩ (.bool ((rd_T83 l0 x10_1).f0))).setCell ⟨gb420,1,none⟩ (.slice A419_1 ((rd_T83 l0 x10_1).f1).length c419_1)).setCell ⟨gb420,2,none⟩ (.slice A419_2 ((rd_T83 l0 x10_1).f2).length c419_2))):=⟨bH⟩
    (try clear HO_1);(try clear HO_5);(try clear BK420);(try clear HB)
    generalize (((w13.setCell ⟨gb420,0,none⟩ (.bool ((rd_T83 l0 x10_1).f0))).setCell ⟨gb420,1,none⟩ (.slice A419_1 ((rd_T83 l0 x10_1).f1).length c419_1)).setCell ⟨gb420,2,none⟩ (.slice A419_2 ((rd_T83 l0 x10_1).f2).length c419_2)) = w15 at n0_ n1_ n2_ n3_ ⊢
    have HO_1:=n0_
    have HO_5:=n1_
    have BK420:=n2_
    have HB:=n3_
    clear n0_ n1_ n2_ n3_
    replace HO_1:=Aside0.mk (Kd.V_drew HO_1.out);replace HO_5:=Aside0.mk (Kd.N_drew HO_5.out);replace BK420:=Aside0.mk (blk_drew BK420.out);replace HB:=Aside0.mk (below_drew1 HB.out)
    have p421:0 ≤ ((ji6):Int):=oD
    have q421:(ji6) < (l1.length:Int):=oD
    obtain ⟨ad421,A421_0,c421_0,e421,hx421_0,hl421_0,hi421_0⟩:=at_L2 (Kd.V_reads' HO_1.out).2.2 (ji6) p421 q421
    cases e421
    obtain ⟨ce421,hce421,hMe421,hcc421⟩:=Kd.V_get HO_1.out [] (ji6) p421 (by first|exact q421|exact oD|(have e_:=(Kd.V_reads' HO_1.out).1;omega))
    obtain ⟨ua421_0,uc421_0,rfl,ul421_0,ge421_0⟩:=Kd.FK_slice_open hMe421
    have hv421_0:=hcc421 0 _ rfl
    rw [Nat.add_zero,show ((Kd.slice 3 (Kd.int .i64))).sz = 1 from rfl,Nat.mul_one] at hv421_0
    replace hv421_0:=Option.some.inj (hv421_0.symm.trans hx421_0)
    injection hv421_0 with hva_ hvn_ hvc_
    rw [hva_] at ge421_0
    rw [hvc_] at ul421_0
    have HL421_0:=Aside0.mk (show Kd.V (Kd.int .i64) 3 _ w.heap.size _ _ (rd_L2 l1 (ji6)) from Kd.V_mk ul421_0 ge421_0)
    clear hva_ hvn_ hvc_ ge421_0 ul421_0
    clear hcc421 hce421
    have HR421_0:=Aside0.mk hi421_0
    have HC421_0:=Aside0.mk hl421_0
    clear hi421_0 hl421_0
    replace p421:=eq_true p421
    replace q421:=eq_true q421
    have p422:0 ≤ ((ji9):Int):=oD
    have q422:(ji9) < (l1.length:Int):=oD
    obtain ⟨ad422,A422_0,c422_0,e422,hx422_0,hl422_0,hi422_0⟩:=at_L2 (Kd.V_reads' HO_1.out).2.2 (ji9) p422 q422
    obtain rfl:ad421 = ad422:=(by injection e422)
    obtain ⟨ce422,hce422,hMe422,hcc422⟩:=Kd.V_get HO_1.out [] (ji9) p422 (by first|exact q422|exact oD|(have e_:=(Kd.V_reads' HO_1.out).1;omega))
    obtain ⟨ua422_0,uc422_0,rfl,ul422_0,ge422_0⟩:=Kd.FK_slice_open hMe422
    have hv422_0:=hcc422 0 _ rfl
    rw [Nat.add_zero,show ((Kd.slice 3 (Kd.int .i64))).sz = 1 from rfl,Nat.mul_one] at hv422_0
    replace hv422_0:=Option.some.inj (hv422_0.symm.trans hx422_0)
    injection hv422_0 with hva_ hvn_ hvc_
    rw [hva_] at ge422_0
    rw [hvc_] at ul422_0
    have HL422_0:=Aside0.mk (show Kd.V (Kd.int .i64) 3 _ w.heap.size _ _ (rd_L2 l1 (ji9)) from Kd.V_mk ul422_0 ge422_0)
    clear hva_ hvn_ hvc_ ge422_0 ul422_0
    clear hcc422 hce422
    have HR422_0:=Aside0.mk hi422_0
    have HC422_0:=Aside0.mk hl422_0
    clear hi422_0 hl422_0
    replace p422:=eq_true p422
    replace q422:=eq_true q422
    refine start_ (n:=18) (S:=fun w'=>w'.cell? ⟨gb420,0,none⟩ = some (.bool ((rd_T83 l0 x10_1).f0)) ∧ w'.cell? ⟨gb420,1,none⟩ = some (.slice A419_1 ((rd_T83 l0 x10_1).f1).length c419_1) ∧ w'.cell? ⟨gb420,2,none⟩ = some (.slice A419_2 ((rd_T83 l0 x10_1).f2).length c419_2) ∧ w'.cell? (ad421.add ((ji6)).toNat) = some (.slice A421_0 (rd_L2 l1 (ji6)).length c421_0) ∧ w'.cell? (ad421.add ((ji9)).toNat) = some (.slice A422_0 (rd_L2 l1 (ji9)).length c422_0)) (ds:=[15,16]) #[false,false,false,false,false,false,false,false,false,false,false,false,false,false,false,false,false,false] (by kernel_rfl) rfl rfl ⟨(blk_cell BK420.out 0).trans rfl,(blk_cell BK420.out 1).trans rfl,(blk_cell BK420.out 2).trans rfl,hx421_0,hx422_0⟩ (fun hHeld=>?_);refine with_tabW impl_withTerms.tab5 impl_withTerms.bits5 (fun HT_ HW_=>?_)
    generalize w15.drew = w16 at HO_1 HO_5 BK420 HB HL421_0 HL422_0 HR421_0 HR422_0 hx421_0 hx422_0 hHeld ⊢
    refine pV 0 (some 15) (bs 18 1) HT_ ?_
    refine pV 1 (some 16) (bs 18 3) HT_ ?_
    refine pV 3 (some 18) (bs 18 11) HT_ ?_
    refine pV 4 (some 19) (bs 18 27) HT_ ?_
    refine pV 5 (some 20) (bs 18 59) HT_ ?_
    refine pV 6 (some 21) (bs 18 123) HT_ ?_
    refine pV 8 (some 23) (bs 18 379) HT_ ?_
    refine pV 9 (some 24) (bs 18 891) HT_ ?_
    refine pV 10 (some 25) (bs 18 1915) HT_ ?_
    refine pV 11 (some 26) (bs 18 3963) HT_ ?_
    refine pV 12 (some 27) (bs 18 8059) HT_ ?_
    refine tV5 2 (some 17) (bs 18 8063) HT_ HW_ hHeld ?_
    refine tV5 7 (some 22) (bs 18 8191) HT_ HW_ hHeld ?_
    refine tV5 13 (some 28) (bs 18 16383) HT_ HW_ hHeld ?_
    refine pV 14 (some 29) (bs 18 32767) HT_ ?_
    refine last_ (i:=15) (N:=some 30) #[true,true,true,true,true,true,true,true,true,true,true,true,true,true,true,true,false,false] rfl rfl (one_of HT_.out (by kernel_rfl)) (by decide) (fun K hK=>?_)
    refine value_ (w1:=?_) (v:=?_) (by rfl) rfl ?_ ?_
    rotate_left 2
    ·go_simp
     constructor
     ·rfl
     ·rfl
    refine hK.out _ _ ?_
    clear hK K
    refine nM (N:=some 30) ?_
    refine last_ (i:=16) (N:=some 31) #[true,true,true,true,true,true,true,true,true,true,true,true,true,true,true,true,true,false] rfl rfl (one_of HT_.out (by kernel_rfl)) (by decide) (fun K hK=>?_)
    refine Kd.N_append_step k83 (w0:=w) w.heap.size (by rfl) (.tmp 15) (.tmp 30) 40 83 (.agg #[(.bool false),(.slice none 0 0),(.slice none 0 0)]) 56 rfl Try.underlying40 info83 rfl (by decide) YP u5 x5_1 (⟨(rd_T83 l0 x10_1).f0,rd_L2 l1 (ji6),rd_L2 l1 (ji9)⟩:S83) [.bool ((rd_T83 l0 x10_1).f0),.slice A421_0 (rd_L2 l1 (ji6)).length c421_0,.slice A422_0 (rd_L2 l1 (ji9)).length c422_0] (fun k_=>(P1_ k_ ∨ w.heap.size ≤ k_) ∧ k_ ≠ gb420) (fun k_=>((fun k_=>(P1_ k_ ∨ w.heap.size ≤ k_) ∧ k_ ≠ gb420)) k_ ∧ some k_ ≠ (u5:Value).ownBlock) rfl rfl ?aP (fun _ hk=>hk) ?aF ?aO ?aB ?aS ?aL ?_
    (case aP=>exact (k83_mkF _ _ (⟨(rd_T83 l0 x10_1).f0,rd_L2 l1 (ji6),rd_L2 l1 (ji9)⟩:S83) (Kd.V_reads' (Kd.V_mono (ok':=(fun k_=>((fun k_=>(P1_ k_ ∨ w.heap.size ≤ k_) ∧ k_ ≠ gb420)) k_ ∧ some k_ ≠ (u5:Value).ownBlock)) (HL421_0.out) (fun k_ hk=>⟨⟨hk.1,hk.2.2⟩,hk.2.1⟩))).2.1 (Kd.V_F (Kd.V_mono (ok':=(fun k_=>((fun k_=>(P1_ k_ ∨ w.heap.size ≤ k_) ∧ k_ ≠ gb420)) k_ ∧ some k_ ≠ (u5:Value).ownBlock)) (HL421_0.out) (fun k_ hk=>⟨⟨hk.1,hk.2.2⟩,hk.2.1⟩))) (Kd.V_reads' (Kd.V_mono (ok':=(fun k_=>((fun k_=>(P1_ k_ ∨ w.heap.size ≤ k_) ∧ k_ ≠ gb420)) k_ ∧ some k_ ≠ (u5:Value).ownBlock)) (HL422_0.out) (fun k_ hk=>⟨⟨hk.1,hk.2.2⟩,hk.2.1⟩))).2.1 (Kd.V_F (Kd.V_mono (ok':=(fun k_=>((fun k_=>(P1_ k_ ∨ w.heap.size ≤ k_) ∧ k_ ≠ gb420)) k_ ∧ some k_ ≠ (u5:Value).ownBlock)) (HL422_0.out) (fun k_ hk=>⟨⟨hk.1,hk.2.2⟩,hk.2.1⟩)))))
    (case aB=>exact bH)
    (case aF=>exact (fun k_ hk=>⟨(.inr (Nat.le_trans (below_size bH) hk)),Kd.freshB (bB BK420) k_ hk⟩))
    (case aO=>exact (rN HO_5))
    (case aS=>exact YR)
    (case aL=>have:=LMc12.out;omega)
    intro v424 w17 ho hb hg hat
    rw [← Ny423.out] at ho
    have n0_:=Aside0.mk (Kd.V_afterv (ok:=(fun k_=>(P1_ k_ ∨ w.heap.size ≤ k_) ∧ k_ ≠ gb420)) (by (with_reducible repeat (first|apply Kd.V_alloc|apply Kd.V_drewN|apply Kd.V_drew));exact Kd.V_mono HO_1.out (fun _ hk=>⟨⟨hk.1,hk.2.2⟩,hk.2.1⟩)) hg hat);have n1_:=Aside0.mk (blk_grown (bB BK420) hg (Kd.N_away HO_5.out (fun _ hk=>hk.2)));have n2_:=Aside0.mk (Kd.V_afterv (ok:=(fun k_=>(P1_ k_ ∨ w.heap.size ≤ k_) ∧ k_ ≠ gb420)) (by (with_reducible repeat (first|apply Kd.V_alloc|apply Kd.V_drewN|apply Kd.V_drew));exact Kd.V_mono HL421_0.out (fun _ hk=>⟨⟨hk.1,hk.2.2⟩,hk.2.1⟩)) hg hat);have n3_:=Aside0.mk (Kd.V_afterv (ok:=(fun k_=>(P1_ k_ ∨ w.heap.size ≤ k_) ∧ k_ ≠ gb420)) (by (with_reducible repeat (first|apply Kd.V_alloc|apply Kd.V_drewN|apply Kd.V_drew));exact Kd.V_mono HL422_0.out (fun _ hk=>⟨⟨hk.1,hk.2.2⟩,hk.2.1⟩)) hg hat);have n4_:=Aside0.mk (hb);have n5_:=Aside0.mk (ho);clear HO_1;clear BK420;clear HL421_0;clear HL422_0;clear HB;clear HO_5;have HO_1:=n0_;have BK420:=n1_;have HL421_0:=n2_;have HL422_0:=n3_;have HB:=n4_;have HO425:=n5_;clear n0_ n1_ n2_ n3_ n4_ n5_
    clear ho hb hg hat
    refine hK.out _ _ ?_
    clear hK K
    refine nM (N:=some 31) ?_
    refine pV 17 (some 5) (bs 18 262143) HT_ ?_
    refine done_ (done_of HT_.out (by kernel_rfl)) ?_
    try go_wp2
    go_roundg k1
    case measure=>have:=HK1.out;omega
    case rel=>exact ⟨(y423),(wrap64 (x10_1 + 1)),Yd,H',⟨YH⟩,⟨by (with_reducible repeat (first|apply Kd.V_alloc|apply Kd.V_drewN|apply Kd.V_drew));exact Kd.V_mono HO_1.out (fun _ hk=>⟨hk.1.1,hk.2⟩)⟩,⟨by (with_reducible repeat (first|apply Kd.N_alloc|apply Kd.N_drewN|apply Kd.N_drew));exact Kd.N_mono HO425.out (fun _ hk=>hk.1)⟩,⟨bH⟩⟩
   ·rw [if_neg c3] at H
    have c3b0:decide (x10_1 < (l0.length:Int)) = false:=decide_eq_false c3
    clear c3
    obtain rfl:=Option.some.inj H
    go_wp2
    go_ret
    exact ⟨_,Yb,rN HO_5,bH⟩

end Go.Proofs.Ytmgkflkfoccgkaa.QFnTidied
