-- Written by this session's own program (wip/x/xprint.py, over the kit's printer); Lean checks it.
import Derived.Test.YtlgnanbnicmdaaaQFnExactSubsumesx0
import Derived.Test.YtlgnanbnicmdaaaQFnExactSubsumesx5
import Derived.Test.YtlgnanbnicmdaaaQFnExactSubsumesx7
namespace Go.Proofs.Ytlgnanbnicmdaaa.QFnExactSubsumes
open Go.RowKit Go.Proofs.YtlgnanbnicmdaaaW.PrintWords Go.Proofs.YtlgnanbnicmdaaaW.PrintLast Go.Proofs.YtlgnanbnicmdaaaW.PrintMore
attribute [local go_sem] max2_int min2_int max_two min_two max_three min_three max_four min_four   -- for this text's walks alone
set_option linter.unusedVariables false
set_option linter.unusedSimpArgs false

/-! ### impl_Sign_subsumes: function 70, by a walk of this session's own -/
theorem rowsX_of_own {w w1:World} {base g cg:Nat} {v:Value} {xs:List (List Int)} {vals:List Value} (h:RowsX w base g cg xs) (hb:Below w.heap.size w w1) (ho:w1.ownsRow w.heap.size 22 1 v xs.length vals) (hbs:base ≤ w.heap.size) (h0:0 < xs.length) (hv:∀ j,j < xs.length → ∃ u,vals[j]? = some u ∧ w.cell? ⟨g,j,none⟩ = some u) :
    ∃ g' c',v = .slice (some ⟨g',0,none⟩) xs.length c' ∧ RowsX w1 base g' c' xs ∧ w.heap.size ≤ g' ∧ xs.length ≤ c':=by
  have ho1:=ho
  rcases ho.2 with ⟨_,hz⟩|⟨g',cap,cur,rfl,hb1,hg1,h1,h2,h3,h4⟩
  · omega
  obtain ⟨f,_,hl,hr⟩:=h
  refine ⟨g',cap,rfl,⟨f,⟨cur,hg1,by have:cur.size = cap * 1:=h3;omega⟩,⟨h1,by unfold maxLen at h2;exact h2,by omega⟩,fun j hj=>?_⟩,hb1,h1⟩
  obtain ⟨u,hu,hc⟩:=hv j hj
  obtain ⟨v,hv1,hv2⟩:=hr j hj
  obtain rfl:u = v:=Option.some.inj (hc.symm.trans hv1)
  refine ⟨u,?_,?_⟩
  · have:=ho1.cells (g:=g') (by rfl) j u hu
    rw [add_plain] at this
    exact this
  · refine Kd.R_mono (Kd.R_below (Kd.R_bound hv2) hb) (fun k hk=>⟨hk.1.1,?_⟩)
    have:=hk.2.2.1
    omega
set_option maxHeartbeats 8000000 in
set_option maxRecDepth 1000000 in
theorem clone22 (base g c cg:Nat) (xs:List (List Int)) (w:World) (h0:0 < xs.length) (hn:xs.length ≤ 1000000) (hbs:base ≤ w.heap.size) (h:RowsX w base g cg xs) :
    Calls Try.prog 136 #[.slice (some ⟨g,0,none⟩) xs.length c] w fun e w'=>∃ v,e = .returned v ∧ Aside0 (Below w.heap.size w w' ∧ ∃ g' c',v = .slice (some ⟨g',0,none⟩) xs.length c' ∧ RowsX w' base g' c' xs ∧ w.heap.size ≤ g' ∧ xs.length ≤ c'):=by
  obtain ⟨i0,hi,hz0,hz1,hz2⟩:=info_parts Try.rows_info
  have q22:∀ (w:World) (a:Option Addr) (n c n' c':Nat),(binOp .eql 52 (.slice a n c) (.slice none n' c')).run Try.prog w = .ok (.bool a.isNone) w:=fun w a n c n' c'=>Lib.run_eql_slice_nil w _ _ a n c n' c' Try.underlying52
  have H:=Aside0.mk h
  obtain ⟨vals,hvl,hvc⟩:∃ vals:List Value,vals.length = xs.length ∧ ∀ j,j < xs.length → ∃ A c,vals[j]? = some (.slice A (xs.getD j []).length c) ∧ w.cell? ⟨g,j,none⟩ = some (.slice A (xs.getD j []).length c) ∧ (xs.getD j []).length ≤ c ∧ CI w A (xs.getD j []):=by
    refine ⟨(List.range xs.length).map fun j=>(w.cell? ⟨g,j,none⟩).getD undef,by simp,fun j hj=>?_⟩
    obtain ⟨A,c,h1,h2,h3⟩:=h.rd j hj
    exact ⟨A,c,by rw [List.getElem?_map,List.getElem?_range hj,Option.map_some,h1];rfl,h1,h2,h3⟩
  have HV:=Aside0.mk hvc
  have HS:=Aside0.mk h.lt
  clear h hvc
  go_enter Try.func136,Try.ntmps136
  go_wp2_with (at_builtin;refine wpList_append_own _ rfl _ _ 52 rfl w.heap.size 22 i0 (.slice none 0 0) 1 24 Try.underlying52 hi hz0 hz1 hz2 rfl (by decide) _ _ _ rfl (World.ownsRow_made w #[] 0 (Nat.le_refl _) (Nat.zero_le _) rfl) ⟨g,0,none⟩ xs.length c vals rfl ?qc1 ?qc2 ?qc3 ?qc4 ?qc5 ?qc6 ?_)
  case qc1=>omega
  case qc2 =>
    intro j u hj
    have hjn:j < xs.length:=by have:=(List.getElem?_eq_some_iff.1 hj).1;omega
    obtain ⟨A,c',h1,h2,_⟩:=HV.out j hjn
    rw [h1] at hj
    rw [add_plain]
    refine Lib.cell?_alloc_some _ ?_
    rw [h2]
    exact hj
  case qc3 =>
    intro u hu
    obtain ⟨j,hj,rfl⟩:=List.mem_iff_getElem.1 hu
    obtain ⟨A,c',h1,_⟩:=HV.out j (by omega)
    rw [List.getElem?_eq_getElem hj] at h1
    rw [Option.some.inj h1]
    rfl
  case qc4=>unfold maxLen;omega
  case qc5=>omega
  case qc6=>simp
  intro v' w1 hown hgrow hnil
  have hB:Aside0 (Below w.heap.size w w1):=⟨((Below.refl _ w).alloc (Nat.le_refl _) _).grown hgrow (by simp) (by intro k hk;simp [Value.ownBlock] at hk;omega)⟩
  try rw [Nat.zero_add] at hown
  try rw [List.nil_append] at hown
  have hr:=rowsX_of_own H.out hB.out hown hbs h0 (fun j hj=>by
    obtain ⟨A,c',h1,h2,_⟩:=HV.out j hj
    exact ⟨_,h1,h2⟩)
  obtain ⟨g',c',rfl,hr,hg',hc'⟩:=hr
  have HR:=Aside0.mk hr
  have HG:=Aside0.mk hg'
  clear hr hg' hown hgrow hnil
  go_wp2
  go_ret
  exact ⟨_,rfl,⟨hB.out,g',c',rfl,HR.out,HG.out,hc'⟩⟩
def impl_Sign_match.go (k:Nat) (s t:List Int):List Int → List (List Int) → Nat → Option (List (List Int) × Bool)
  | [],b,j=>some (b,decide (j = t.length))
  | n :: p,b,j=>if j < t.length then (if 0 ≤ n then (if rd t (j:Int) = n then impl_Sign_match.go k s t p b (j + 1) else some ([],false))
    else if -1 - n < (b.length:Int) ∧ -1000000 ≤ n then (impl_Sign_end.f k s t (j:Int)).bind fun en=>if (j:Int) ≤ en ∧ en ≤ (t.length:Int) then
      (if (b.getD (-1 - n).toNat []).length = 0 then impl_Sign_match.go k s t p (b.set (-1 - n).toNat ((t.take en.toNat).drop j)) en.toNat
       else (slices_Equal_int_int.f k (b.getD (-1 - n).toNat []) ((t.take en.toNat).drop j)).bind fun e=>if e = true then impl_Sign_match.go k s t p b en.toNat else some ([],false)) else none
    else none) else some ([],false)
set_option maxHeartbeats 8000000 in
set_option maxRecDepth 1000000 in
theorem impl_Sign_match.walk (k:Nat) (A0:Option Addr) (c0:Nat) (s:List Int) (base g0 cb c9:Nat) (b:List (List Int)) (A2:Option Addr) (c2:Nat) (p:List Int) (A3:Option Addr) (c3:Nat) (t:List Int) (r:List (List Int) × Bool) (w:World) (hs:CI w A0 s) (hs2:s.length ≤ c0) (hbs:base ≤ w.heap.size) (hb:RowsX w base g0 c9 b) (hb0:0 < b.length) (hb1:b.length ≤ 1000000) (hp:CI w A2 p) (hp2:p.length ≤ c2) (ht:CI w A3 t) (ht2:t.length ≤ c3) (htl:t.length ≤ 1000000) (hpl:p.length ≤ 1000000)
    (h:impl_Sign_match.go k s t p b 0 = some r) :
    Calls Try.prog 126 #[.agg #[.slice A0 s.length c0],.slice (some ⟨g0,0,none⟩) b.length cb,.slice A2 p.length c2,.slice A3 t.length c3] w fun e w'=>∃ v,e = .returned (.tuple #[v,.bool r.2]) ∧ Aside0 (Below w.heap.size w w' ∧ (r.2 = true → ∃ g c,v = .slice (some ⟨g,0,none⟩) b.length c ∧ r.1.length = b.length ∧ RowsX w' base g c r.1 ∧ w.heap.size ≤ g ∧ b.length ≤ c)):=by
  have HS:=Aside0.mk hs
  have HP:=Aside0.mk hp
  have HT:=Aside0.mk ht
  have H:=Aside0.mk h
  clear hs hp ht h
  have bx:Aside0 (Bx (w.alloc (.cells #[.slice A0 s.length c0] 30)) w.heap.size (.slice A0 s.length c0) 30):=⟨heap_alloc_new w _⟩
  have ha:Below w.heap.size w (w.alloc (.cells #[.slice A0 s.length c0] 30)):=Below.alloc (Below.refl _ _) (Nat.le_refl _) _
  have HR:=Aside0.mk (hb.below ha)
  have HB:=Aside0.mk ha
  clear ha hb
  go_enter Try.func126,Try.ntmps126
  go_upto_region 1 with fail
  generalize w.alloc (.cells #[.slice A0 s.length c0] 30) = W0 at bx HR HB ⊢
  have hcall:=clone22 base g0 cb c9 b W0 hb0 hb1 (Nat.le_trans hbs HB.out.size) HR.out
  go_wp2_with (go_at_call 136;refine hcall.mono ?_)
  first|rintro e W1 v rfl hf|rintro e W1 ⟨v,rfl,hf⟩
  obtain ⟨hd,g,cg,rfl,hR,hg,hcg⟩:=hf.out
  have HCG:=Aside0.mk hcg
  clear hcg
  have HG:Aside0 (w.heap.size < g):=⟨Nat.lt_of_lt_of_le bx.out.lt hg⟩
  have bx:=Aside0.mk (bx.out.below hd)
  have HB:=Aside0.mk (below_step HB.out hd)
  have HR:=Aside0.mk hR
  clear hd hR hg hf hcall
  go_wp2
  go_loopw [10,20] (fun v10 v20 wr=>∃ (i j:Nat) (b':List (List Int)),i ≤ p.length ∧ j ≤ 1000000 ∧ v20 = .int .i64 i ∧ v10 = .int .i64 j ∧ Hid (b'.length = b.length) ∧ Hid (impl_Sign_match.go k s t (p.drop i) b' j = some r) ∧ Hid (RowsX wr base g cg b') ∧ Hid (Bx wr w.heap.size (.slice A0 s.length c0) 30) ∧ Hid (Below w.heap.size w wr)) (fun _ v20 _=>p.length - (intOf v20).toNat)
  case atStart=>exact ⟨0,0,b,Nat.zero_le _,by omega,rfl,rfl,rfl,H.out,HR.out,bx.out,HB.out⟩
  case round =>
    clear HR bx HB H
    obtain ⟨i,j,b',hi,hj,rfl,rfl,hbl,hgo,hR,hbx,hB⟩:=hrel
    unfold Hid at hbl hgo hR hbx hB
    have HR:=Aside0.mk hR
    have BX:=Aside0.mk hbx
    have HB:=Aside0.mk hB
    by_cases hp:i < p.length
    · rw [List.drop_eq_getElem_cons hp] at hgo
      obtain ⟨ap,eap,hpc⟩:=ci_elem (Kd.C_below HP.out hB) i hp
      have hrd:rd p (i:Int) = p[i]:=by unfold rd;simp [List.getD_eq_getElem?_getD,hp]
      rw [hrd] at hpc
      subst eap
      generalize p[i] = n at hgo hpc hrd
      clear hrd
      simp only [impl_Sign_match.go] at hgo
      by_cases g1:j < t.length
      rotate_left
      · rw [if_neg g1] at hgo
        obtain rfl:=Option.some.inj hgo
        clear hgo hR hbx hB
        go_wp2
        go_ret2
        exact ⟨⟨_,rfl⟩,⟨HB.out⟩⟩
      rw [if_pos g1] at hgo
      obtain ⟨at_,eat,htc⟩:=ci_elem (Kd.C_below HT.out hB) j g1
      subst eat
      by_cases g0:0 ≤ n
      · rw [if_pos g0] at hgo
        by_cases g2:rd t (j:Int) = n
        · rw [if_pos g2] at hgo
          rw [g2] at htc
          have HGO:=Aside0.mk hgo
          clear hgo hR hbx hB g2
          go_wp2
          go_roundw
          case rel=>exact ⟨i + 1,j + 1,b',by omega,by omega,rfl,rfl,hbl,HGO.out,HR.out,BX.out,HB.out⟩
          case measure=>simp [intOf];omega
        · rw [if_neg g2] at hgo
          obtain rfl:=Option.some.inj hgo
          clear hgo hR hbx hB
          go_wp2
          go_ret2
          exact ⟨⟨_,rfl⟩,⟨HB.out⟩⟩
      · rw [if_neg g0] at hgo
        by_cases gv:-1 - n < (b'.length:Int) ∧ -1000000 ≤ n
        rotate_left
        · rw [if_neg gv] at hgo
          cases hgo
        rw [if_pos gv] at hgo
        obtain ⟨vn,hvn⟩:∃ vn:Nat,-1 - n = (vn:Int):=⟨(-1 - n).toNat,by omega⟩
        rw [hvn,Int.toNat_natCast] at hgo
        have hvl:vn < b'.length:=by omega
        have hvl2:vn < b.length:=by omega
        obtain ⟨en,hen,hgo⟩:=Option.bind_eq_some_iff.1 hgo
        have hcall:=impl_Sign_end.calls k A0 c0 s (some at_) c3 t (j:Int) en wr (Kd.C_below HS.out hB) hs2 (Kd.C_below HT.out hB) ht2 hen
        have hbc:=Bx.cell BX.out
        have HGO:=Aside0.mk hgo
        clear hgo hR hbx hB hen htc
        go_wp2_with (go_at_call 137;refine hcall.mono ?_)
        first|rintro e W2 rfl hd|rintro e W2 ⟨rfl,hd⟩
        have HR:=Aside0.mk (HR.out.below hd)
        have BX:=Aside0.mk (BX.out.below hd)
        have HB:=Aside0.mk (below_step HB.out hd)
        clear hd hbc hcall
        have hgo:=HGO.out
        by_cases gx:(j:Int) ≤ en ∧ en ≤ (t.length:Int)
        rotate_left
        · rw [if_neg gx] at hgo
          cases hgo
        rw [if_pos gx] at hgo
        obtain ⟨em,rfl⟩:∃ em:Nat,en = (em:Int):=⟨en.toNat,by omega⟩
        rw [Int.toNat_natCast] at hgo
        obtain ⟨hgx1,hgx2⟩:=gx
        have hcut:=cut_mid (P:=Try.prog) 22 3 .i64 .i64 Try.underlying22 (info_parts info3).choose_spec.1 1 (info_parts info3).choose_spec.2.2.1 (some at_) t.length c3 (j:Int) (em:Int) (by omega) hgx1 hgx2 ht2
        rw [Int.toNat_natCast,Int.toNat_natCast] at hcut
        have hown:=Kd.C_mid (lo:=j) (hi:=em) (Kd.C_below HT.out HB.out) (by omega) (by omega) ht2
        obtain ⟨AO,hAO⟩:∃ AO,AO = (if c3 = j then some at_ else (some at_).map (·.add (j * 1))):=⟨_,rfl⟩
        have hl0:((t.take em).drop j).length = em - j:=by rw [List.length_drop,List.length_take];omega
        rw [← hAO] at hcut
        have hown2:CI W2 AO ((t.take em).drop j):=by rw [hAO];exact hown
        clear hown hAO
        generalize (t.take em).drop j = ow at hgo hown2 hl0
        have HO:=Aside0.mk hown2
        have HGO2:=Aside0.mk hgo
        clear hown2 hgo HGO
        obtain ⟨AD,cD,hD,hDc,hDr⟩:=HR.out.rd vn hvl
        have hfz:=HR.out.frozen vn
        have hgsz:=HR.out.lt
        have hgo:=HGO2.out
        by_cases go:(b'.getD vn []).length = 0
        · rw [if_pos go] at hgo
          have hcl:slices_Clone_int_int_78.f ow = some ow:=by unfold slices_Clone_int_int_78.f;rw [if_pos (by omega)]
          have hcall:=slices_Clone_int_int_78.calls AO (c3 - j) ow ow W2 HO.out (by omega) hcl
          rw [hl0] at hcall
          have HL0:=Aside0.mk hl0
          clear hl0
          have HGO:=Aside0.mk hgo
          clear hgo HGO2 hcl
          generalize b'.getD vn [] = old at hD go hDc hDr
          go_wp2_with (go_at_call 78;refine hcall.mono ?_)
          first|rintro e W3 v rfl hr hd|rintro e W3 ⟨v,rfl,hr,hd⟩
          obtain ⟨AX,cX,rfl⟩:=Kd.R_slice hr
          have hX:=(Kd.R_reads' hr).2.2
          have hXc:=(Kd.R_reads' hr).2.1
          replace hD:=(Below.cell hd hgsz).trans hD
          have hset:=Aside0.mk (HR.out.set_new hd hr vn hvl (Nat.le_trans hbs HB.out.size))
          have HR:=Aside0.mk (HR.out.below hd)
          have BX:=Aside0.mk (BX.out.below hd)
          have HB:=Aside0.mk (below_step HB.out hd)
          replace hfz:=HR.out.frozen vn
          clear hr hd hcall
          have bset:Aside0 (Bx (W3.setCell ⟨g,vn,none⟩ (.slice AX ow.length cX)) w.heap.size (.slice A0 s.length c0) 30):=⟨Bx.set (u0:=undef) BX.out (by have:=HG.out;omega)⟩
          have Bset:Aside0 (Below w.heap.size w (W3.setCell ⟨g,vn,none⟩ (.slice AX ow.length cX))):=⟨below_set HB.out (Nat.le_of_lt HG.out)⟩
          have hlen2:(b'.set vn ow).length = b.length:=by rw [List.length_set];exact hbl
          clear hX
          go_wp2
          go_roundw
          case rel=>exact ⟨i + 1,em,b'.set vn ow,by omega,by omega,rfl,rfl,hlen2,HGO.out,hset.out,bset.out,Bset.out⟩
          case measure=>simp [intOf];omega
        · rw [if_neg go] at hgo
          obtain ⟨q,hq,hgo⟩:=Option.bind_eq_some_iff.1 hgo
          have hcall:=slices_Equal_int_int.calls k AD cD (b'.getD vn []) AO (c3 - j) ow q W2 hDr hDc HO.out (by omega) hq
          rw [hl0] at hcall
          have HL0:=Aside0.mk hl0
          clear hl0
          have HGO:=Aside0.mk hgo
          clear hgo HGO2 hDr hq
          generalize b'.getD vn [] = old at hD go hDc hcall
          go_wp2_with (go_at_call 116;refine hcall.mono ?_)
          first|rintro e W3 rfl hd|rintro e W3 ⟨rfl,hd⟩
          have hd:=hd.below
          have HR:=Aside0.mk (HR.out.below hd)
          have BX:=Aside0.mk (BX.out.below hd)
          have HB:=Aside0.mk (below_step HB.out hd)
          clear hd hcall
          have hgo:=HGO.out
          cases q with
          | true =>
            rw [if_pos rfl] at hgo
            have HGO:=Aside0.mk hgo
            clear hgo
            go_wp2
            go_roundw
            case rel=>exact ⟨i + 1,em,b',by omega,by omega,rfl,rfl,hbl,HGO.out,HR.out,BX.out,HB.out⟩
            case measure=>simp [intOf];omega
          | false =>
            rw [if_neg (by decide)] at hgo
            obtain rfl:=Option.some.inj hgo
            clear hgo
            go_wp2
            go_ret2
            exact ⟨⟨_,rfl⟩,⟨HB.out⟩⟩
    · obtain rfl:i = p.length:=by omega
      rw [List.drop_length] at hgo
      simp only [impl_Sign_match.go,Option.some.injEq] at hgo
      obtain ⟨ok,hok⟩:∃ ok:Bool,ok = decide (j = t.length):=⟨_,rfl⟩
      rw [← hok] at hgo
      have HOK:Aside0 (ok = ((j:Int) == (t.length:Int))):=⟨by rw [hok,Bool.eq_iff_iff];simp;omega⟩
      subst hgo
      clear hok
      clear hR hbx hB
      go_wp2
      go_ret2
      refine ⟨.slice (some ⟨g,0,none⟩) b.length cg,?_,⟨HB.out,fun _=>?_⟩⟩
      · rw [HOK.out]
        rfl
      · exact ⟨g,cg,rfl,HR.out,Nat.le_of_lt HG.out,HCG.out⟩
def impl_bare.go:Nat → Nat → List (List Int) → Option (List (List Int))
  | 0,_,b=>some b
  | m + 1,i,b=>(impl_isItself.f (b.getD i []) (i:Int)).bind fun q=>impl_bare.go m (i + 1) (if q = true then b.set i [] else b)
set_option maxHeartbeats 8000000 in
set_option maxRecDepth 1000000 in
theorem impl_bare.walk (base g c cg:Nat) (b r:List (List Int)) (w0 w:World) (hB0:Below w0.heap.size w0 w) (hg:w0.heap.size ≤ g) (hb1:b.length ≤ 1000000) (hb:RowsX w base g cg b) (h:impl_bare.go b.length 0 b = some r) :
    Calls Try.prog 101 #[.slice (some ⟨g,0,none⟩) b.length c] w fun e w'=>e = .returned (.slice (some ⟨g,0,none⟩) b.length c) ∧ Aside0 (Below w0.heap.size w0 w' ∧ KI w w' ∧ r.length = b.length ∧ RowsX w' base g cg r):=by
  have H:=Aside0.mk h
  have HR:=Aside0.mk hb
  have HB:=Aside0.mk hB0
  have HG:=Aside0.mk hg
  clear h hb hB0 hg
  go_enter Try.func101,Try.ntmps101
  go_wp2
  go_loopw [7] (fun v7 wr=>∃ (i m:Nat) (b':List (List Int)),i + m = b.length ∧ v7 = .int .i64 i ∧ Hid (b'.length = b.length) ∧ Hid (impl_bare.go m i b' = some r) ∧ Hid (RowsX wr base g cg b') ∧ Hid (KI w wr) ∧ Hid (Below w0.heap.size w0 wr)) (fun v7 _=>b.length - (intOf v7).toNat)
  case atStart=>exact ⟨0,b.length,b,by omega,rfl,rfl,H.out,HR.out,KI.refl w,HB.out⟩
  case round =>
    clear HR HB H
    obtain ⟨i,m,b',him,rfl,hbl,hgo,hR,hI,hB⟩:=hrel
    unfold Hid at hbl hgo hR hI hB
    have HR:=Aside0.mk hR
    have HI:=Aside0.mk hI
    have HB:=Aside0.mk hB
    by_cases hp:i < b.length
    · obtain ⟨m,rfl⟩:∃ m',m = m' + 1:=⟨m - 1,by omega⟩
      simp only [impl_bare.go] at hgo
      obtain ⟨q,hq,hgo⟩:=Option.bind_eq_some_iff.1 hgo
      obtain ⟨AD,cD,hD,hDc,hDr⟩:=HR.out.rd i (by omega)
      have hgsz:=HR.out.lt
      have hcall:=impl_isItself.calls AD cD (b'.getD i []) (i:Int) q wr hDr hDc hq
      have HGO:=Aside0.mk hgo
      have HBL:=Aside0.mk hbl
      clear hgo hR hI hB hq hDr hbl
      generalize b'.getD i [] = old at hD hDc hcall
      go_wp2_with (go_at_call 127;refine hcall.mono ?_)
      first|rintro e W1 rfl hd|rintro e W1 ⟨rfl,hd⟩
      have hd:=hd.below
      replace hD:=(Below.cell hd hgsz).trans hD
      have HR:=Aside0.mk (HR.out.below hd)
      have HI:=Aside0.mk (HI.out.below hd)
      have HB:=Aside0.mk (below_step HB.out hd)
      have hfz:=HR.out.frozen i
      clear hd hcall hDc
      have hgo:=HGO.out
      cases q with
      | true =>
        rw [if_pos rfl] at hgo
        have HGO:=Aside0.mk hgo
        have hset:=Aside0.mk (HR.out.set_nil i (by have:=HBL.out;omega))
        have iset:=Aside0.mk (HI.out.set hD (.slice none 0 0))
        have Bset:Aside0 (Below w0.heap.size w0 (W1.setCell ⟨g,i,none⟩ (.slice none 0 0))):=⟨below_set HB.out HG.out⟩
        have hlen2:Aside0 ((b'.set i []).length = b.length):=⟨by rw [List.length_set];exact HBL.out⟩
        clear hgo
        go_wp2
        go_roundw
        case rel=>exact ⟨i + 1,m,b'.set i [],by omega,rfl,hlen2.out,HGO.out,hset.out,iset.out,Bset.out⟩
        case measure=>simp [intOf];omega
      | false =>
        rw [if_neg (by decide)] at hgo
        have HGO:=Aside0.mk hgo
        clear hgo
        go_wp2
        go_roundw
        case rel=>exact ⟨i + 1,m,b',by omega,rfl,HBL.out,HGO.out,HR.out,HI.out,HB.out⟩
        case measure=>simp [intOf];omega
    · obtain rfl:i = b.length:=by omega
      obtain rfl:m = 0:=by omega
      simp only [impl_bare.go,Option.some.injEq] at hgo
      subst hgo
      have HBL:=Aside0.mk hbl
      clear hR hI hB hbl
      go_wp2
      go_ret
      exact ⟨rfl,⟨HB.out,HI.out,HBL.out,HR.out⟩⟩
set_option maxHeartbeats 8000000 in
set_option maxRecDepth 1000000 in
theorem impl_Lit_side.walk (p:Bool) (A1:Option Addr) (n1 c1:Nat) (A2:Option Addr) (n2 c2:Nat) (n:Int) (w:World) :
    Calls Try.prog 125 #[.agg #[.bool p,.slice A1 n1 c1,.slice A2 n2 c2],.int .i64 n] w fun e w'=>e = .returned (if n = 0 then .tuple #[.slice A1 n1 c1,.slice A2 n2 c2] else .tuple #[.slice A2 n2 c2,.slice A1 n1 c1]) ∧ Aside0 (Below w.heap.size w w'):=by
  have hb:=heap_alloc_new w (.cells #[.bool p,.slice A1 n1 c1,.slice A2 n2 c2] 72)
  have HB:Aside0 (Below w.heap.size w (w.alloc (.cells #[.bool p,.slice A1 n1 c1,.slice A2 n2 c2] 72))):=⟨Below.alloc (Below.refl _ _) (Nat.le_refl _) _⟩
  go_enter Try.func125,Try.ntmps125
  go_upto_region 1 with fail
  generalize w.alloc (.cells #[.bool p,.slice A1 n1 c1,.slice A2 n2 c2] 72) = W0 at hb HB ⊢
  generalize w.heap.size = g at hb ⊢
  have h1:W0.cell? ⟨g,1,none⟩ = some (.slice A1 n1 c1):=(blk_cell hb 1).trans rfl
  have h2:W0.cell? ⟨g,2,none⟩ = some (.slice A2 n2 c2):=(blk_cell hb 2).trans rfl
  clear hb
  by_cases hn:n = 0
  · subst hn
    go_upto_region 2 with fail
    go_region
    go_wp2
    go_ret2
    exact ⟨rfl,⟨below_drew1 HB.out⟩⟩
  · go_upto_region 3 with fail
    go_region
    go_wp2
    go_ret2
    exact ⟨by first|rfl|(rw [if_neg hn];rfl),⟨below_drew1 HB.out⟩⟩
def impl_Sign_subsume.sides (k:Nat) (s:List Int) (R:List (List Int) → Option (List (List Int) × Bool)) (c0:S72) (b:List (List Int)) (x:S72):Nat → Nat → Option (Option (List (List Int)))
  | 0,_=>some none
  | m + 1,n=>(impl_Sign_match.go k s (if n = 0 then x.f1 else x.f2) c0.f1 b 0).bind fun m1=>if m1.2 = true then (impl_Sign_match.go k s (if n = 0 then x.f2 else x.f1) c0.f2 m1.1 0).bind fun m2=>if m2.2 = true then (R m2.1).bind fun o=>if o.2 = true then some (some o.1) else impl_Sign_subsume.sides k s R c0 b x m (n + 1) else impl_Sign_subsume.sides k s R c0 b x m (n + 1) else impl_Sign_subsume.sides k s R c0 b x m (n + 1)
def impl_Sign_subsume.row (k:Nat) (s:List Int) (R:List (List Int) → Option (List (List Int) × Bool)) (c0:S72) (b:List (List Int)):List S72 → Option (Option (List (List Int)))
  | []=>some none
  | x :: t=>if x.f0 = c0.f0 then (impl_Sign_subsume.sides k s R c0 b x 2 0).bind fun o=>match o with|some y=>some (some y)|none=>impl_Sign_subsume.row k s R c0 b t else impl_Sign_subsume.row k s R c0 b t
def impl_Sign_subsume.go (k:Nat) (s:List Int) (d:List S72):List S72 → List (List Int) → Option (List (List Int) × Bool)
  | [],b=>some (b,true)
  | c0 :: c,b=>(impl_Sign_subsume.row k s (fun b'=>impl_Sign_subsume.go k s d c b') c0 b d).bind fun o=>match o with|some y=>some (y,true)|none=>some ([],false)
set_option maxHeartbeats 16000000 in
set_option maxRecDepth 1000000 in
theorem impl_Sign_subsume.walk (k:Nat) (A0:Option Addr) (c0:Nat) (s:List Int) (hs2:s.length ≤ c0) (A3:Option Addr) (c3:Nat) (d:List S72) (hd2:d.length ≤ c3) (hdm:∀ x ∈ d,smL x) (base:Nat) (c:List S72):∀ (A2:Option Addr) (c2 g0 cb:Nat) (b:List (List Int)) (r:List (List Int) × Bool) (w:World),CI w A0 s → Kd.C k72 w A2 c.length c → c.length ≤ c2 → (∀ x ∈ c,smL x) → Kd.C k72 w A3 d.length d → base ≤ w.heap.size → RowsX w base g0 cb b → b.length = 12 → 12 ≤ cb → impl_Sign_subsume.go k s d c b = some r →
    Calls Try.prog 100 #[.agg #[.slice A0 s.length c0],.slice (some ⟨g0,0,none⟩) 12 cb,.slice A2 c.length c2,.slice A3 d.length c3] w fun e w'=>∃ v,e = .returned (.tuple #[v,.bool r.2]) ∧ Aside0 (SubOut w base g0 r w' v):=by
  induction c with
  | nil =>
    intro A2 c2 g0 cb b r w hs hc hc2 hcm hd hbs hb hb12 hcb h
    simp only [impl_Sign_subsume.go,Option.some.injEq] at h
    subst h
    have HR:=Aside0.mk hb
    have HL:=Aside0.mk hb12
    have HB:Aside0 (Below w.heap.size w (w.alloc (.cells #[.slice A0 s.length c0] 30))):=⟨Below.alloc (Below.refl _ _) (Nat.le_refl _) _⟩
    clear hs hc hcm hd hb hb12 hbs
    rw [List.length_nil]
    go_enter Try.func100,Try.ntmps100
    go_upto_region 1 with fail
    generalize w.alloc (.cells #[.slice A0 s.length c0] 30) = W0 at HB ⊢
    go_wp2
    go_ret2
    exact ⟨_,rfl,⟨HB.out,fun _=>⟨g0,cb,rfl,HL.out,HR.out.below HB.out,hcb,.inl rfl⟩⟩⟩
  | cons e0 c ih =>
    intro A2 c2 g0 cb b r w hs hc hc2 hcm hd hbs hb hb12 hcb h
    simp only [impl_Sign_subsume.go] at h
    obtain ⟨o,ho,h⟩:=Option.bind_eq_some_iff.1 h
    obtain ⟨ac,E1,f1,E2,f2,eac,m0,m1,m2,n1_,j1,n2_,j2⟩:=at_T72 hc 0 (by omega) (by rw [List.length_cons];omega)
    have hrd:rd_T72 (e0 :: c) 0 = e0:=rfl
    have hem:=hcm e0 (by simp)
    have hcm2:∀ x ∈ c,smL x:=fun x hx=>hcm x (by simp [hx])
    rw [hrd] at m0 m1 m2 n1_ j1 n2_ j2
    rw [show (0:Int).toNat = 0 from rfl,show ac.add (0 * 3) = ac from by cases ac;rfl] at m0 m1 m2
    subst eac
    have hlc:(e0 :: c).length = c.length + 1:=List.length_cons
    have hdc:Kd.C k72 w (if c2 = 1 then some ac else (some ac).map (·.add (1 * 3))) c.length c:=Kd.C_drop (m:=1) hc (by rw [hlc];omega) hc2
    rw [hlc] at hc2
    have hcm0:c.length + 1 ≤ 9223372036854775807:=by have:=hc.2.1;rw [hlc] at this;exact this
    obtain ⟨i0,hi0,hi1⟩:=Option.map_eq_some_iff.1 Try.lit_info
    have hcut:=cut_from (P:=Try.prog) 32 72 .i64 Try.underlying32 hi0 3 hi1 (some ac) (c.length + 1) c2 1 (by omega) (by omega)
    rw [show (1:Int).toNat = 1 from rfl,Nat.add_sub_cancel] at hcut
    obtain ⟨AC,hAC⟩:∃ AC,AC = (if c2 = 1 then some ac else (some ac).map (·.add (1 * 3))):=⟨_,rfl⟩
    rw [← hAC] at hcut hdc
    have HCUT:=Aside0.mk hcut
    clear hrd hc hcm hlc hi0 hi1 hcut hAC i0
    have IH:=Aside0.mk ih
    have HS:=Aside0.mk hs
    have HDC:=Aside0.mk hdc
    have HCM2:=Aside0.mk hcm2
    have M0:=Aside0.mk m0
    have M1:=Aside0.mk m1
    have M2:=Aside0.mk m2
    have J1:=Aside0.mk j1
    have J2:=Aside0.mk j2
    have EM:=Aside0.mk hem
    have HDM:=Aside0.mk hdm
    have HD:=Aside0.mk hd
    have HR:=Aside0.mk hb
    have HL:=Aside0.mk hb12
    have HO:=Aside0.mk ho
    have HH:=Aside0.mk h
    have HBS:=Aside0.mk hbs
    have bx:Aside0 (Bx (w.alloc (.cells #[.slice A0 s.length c0] 30)) w.heap.size (.slice A0 s.length c0) 30):=⟨heap_alloc_new w _⟩
    have HB:Aside0 (Below w.heap.size w (w.alloc (.cells #[.slice A0 s.length c0] 30))):=⟨Below.alloc (Below.refl _ _) (Nat.le_refl _) _⟩
    have hdl:d.length ≤ 9223372036854775807:=hd.2.1
    clear ih hs hdc hcm2 m0 m1 m2 j1 j2 hem hdm hd hb hb12 ho h hbs
    rw [List.length_cons]
    have gz:((c.length:Int) + 1 == 0) = false:=by rw [beq_eq_false_iff_ne];omega
    go_enter Try.func100,Try.ntmps100
    go_upto_region 1 with fail
    generalize w.alloc (.cells #[.slice A0 s.length c0] 30) = W0 at bx HB ⊢
    go_wp2
    go_loopw [25] (fun v25 wr=>∃ i:Nat,i ≤ d.length ∧ v25 = .int .i64 i ∧ Hid (impl_Sign_subsume.row k s (fun b'=>impl_Sign_subsume.go k s d c b') e0 b (d.drop i) = some o) ∧ Hid (Bx wr w.heap.size (.slice A0 s.length c0) 30) ∧ Hid (Below w.heap.size w wr)) (fun v25 _=>d.length - (intOf v25).toNat)
    case atStart=>exact ⟨0,Nat.zero_le _,rfl,HO.out,bx.out,HB.out⟩
    case round =>
      clear HO bx HB
      obtain ⟨i,hi,rfl,hrow,hbx,hB⟩:=hrel
      unfold Hid at hrow hbx hB
      by_cases hp:i < d.length
      · rw [List.drop_eq_getElem_cons hp] at hrow
        obtain ⟨ad,B1,d1,B2,d2,ead,k0,k1,k2,l1_,i1,l2_,i2⟩:=at_T72 (Kd.C_below HD.out hB) (i:Int) (by omega) (by omega)
        have hxm:=HDM.out d[i] (List.getElem_mem hp)
        have hrd:rd_T72 d (i:Int) = d[i]:=by unfold rd_T72;simp [List.getD_eq_getElem?_getD,hp]
        rw [hrd] at k0 k1 k2 l1_ i1 l2_ i2
        rw [Int.toNat_natCast] at k0 k1 k2
        subst ead
        generalize d[i] = x at hrow k0 k1 k2 l1_ i1 l2_ i2 hrd hxm
        clear hrd
        simp only [impl_Sign_subsume.row] at hrow
        have BX:=Aside0.mk hbx
        have HB:=Aside0.mk hB
        have I1:=Aside0.mk i1
        have I2:=Aside0.mk i2
        have XM:=Aside0.mk hxm
        have ROW:=Aside0.mk hrow
        clear hbx hB i1 i2 hxm hrow
        go_upto_region 6 with fail
        have ha:Below wr.heap.size wr (wr.alloc (.cells #[.bool x.f0,.slice B1 x.f1.length d1,.slice B2 x.f2.length d2] 72)):=Below.alloc (Below.refl _ _) (Nat.le_refl _) _
        have HU:=Aside0.mk (heap_alloc_new wr (.cells #[.bool x.f0,.slice B1 x.f1.length d1,.slice B2 x.f2.length d2] 72))
        have BX:=Aside0.mk (BX.out.below ha)
        have I1:=Aside0.mk (Kd.C_below I1.out ha)
        have I2:=Aside0.mk (Kd.C_below I2.out ha)
        have HB:=Aside0.mk (below_step HB.out ha)
        clear ha k0 k1 k2
        generalize wr.alloc (.cells #[.bool x.f0,.slice B1 x.f1.length d1,.slice B2 x.f2.length d2] 72) = W2 at HU BX I1 I2 HB ⊢
        generalize wr.heap.size = gu at HU ⊢
        have q0:W2.cell? ⟨gu,0,none⟩ = some (.bool x.f0):=(blk_cell HU.out 0).trans rfl
        have m0:=cellB HB.out M0.out
        by_cases gp:x.f0 = e0.f0
        rotate_left
        · have gb:(x.f0 == e0.f0) = false:=by simpa using gp
          have hrow:=ROW.out
          rw [if_neg gp] at hrow
          have ROW:=Aside0.mk hrow
          clear hrow gp
          go_region
          go_wp2
          go_roundw
          case rel=>exact ⟨i + 1,by omega,rfl,ROW.out,BX.out,below_drew1 HB.out⟩
          case measure=>simp [intOf];omega
        · have gb:(x.f0 == e0.f0) = true:=by simpa using gp
          have hrow:=ROW.out
          rw [if_pos gp] at hrow
          obtain ⟨os,hsd,hrow⟩:=Option.bind_eq_some_iff.1 hrow
          have ROW:=Aside0.mk hrow
          have HSD:=Aside0.mk hsd
          clear hrow hsd gp
          go_region
          clear m0 q0
          have BX:=Aside0.mk (show Bx W2.drew w.heap.size (.slice A0 s.length c0) 30 from BX.out)
          have HU:=Aside0.mk (show W2.drew.heap[gu]? = some (.cells #[.bool x.f0,.slice B1 x.f1.length d1,.slice B2 x.f2.length d2] 72 (0,0)) from HU.out)
          have I1:=Aside0.mk (Kd.C_below I1.out (below_drew1 (Below.refl _ _)))
          have I2:=Aside0.mk (Kd.C_below I2.out (below_drew1 (Below.refl _ _)))
          have HB:=Aside0.mk (below_drew1 HB.out)
          generalize W2.drew = W2d at BX HU I1 I2 HB ⊢
          go_wp2
          go_loopw [36] (fun v36 wr=>∃ n m:Nat,n + m = 2 ∧ v36 = .int .i64 n ∧ Hid (impl_Sign_subsume.sides k s (fun b'=>impl_Sign_subsume.go k s d c b') e0 b x m n = some os) ∧ Hid (Bx wr w.heap.size (.slice A0 s.length c0) 30) ∧ Hid (wr.heap[gu]? = some (.cells #[.bool x.f0,.slice B1 x.f1.length d1,.slice B2 x.f2.length d2] 72 (0,0))) ∧ Hid (CI wr B1 x.f1) ∧ Hid (CI wr B2 x.f2) ∧ Hid (Below w.heap.size w wr)) (fun v36 _=>2 - (intOf v36).toNat)
          case atStart=>exact ⟨0,2,rfl,rfl,HSD.out,BX.out,HU.out,I1.out,I2.out,HB.out⟩
          case round =>
            clear HSD BX HU I1 I2 HB
            obtain ⟨n,m,hnm,rfl,hsg,hbx,hU,i1,i2,hB⟩:=hrel
            unfold Hid at hsg hbx hU i1 i2 hB
            have BX:=Aside0.mk hbx
            have HU:=Aside0.mk hU
            have I1:=Aside0.mk i1
            have I2:=Aside0.mk i2
            have HB:=Aside0.mk hB
            have HBZ:=Aside0.mk hB.size
            have q0:wr.cell? ⟨gu,0,none⟩ = some (.bool x.f0):=(blk_cell hU 0).trans rfl
            have q1:wr.cell? ⟨gu,1,none⟩ = some (.slice B1 x.f1.length d1):=(blk_cell hU 1).trans rfl
            have q2:wr.cell? ⟨gu,2,none⟩ = some (.slice B2 x.f2.length d2):=(blk_cell hU 2).trans rfl
            obtain ⟨rfl,rfl⟩|⟨rfl,rfl⟩|⟨rfl,rfl⟩:(n = 0 ∧ m = 2) ∨ (n = 1 ∧ m = 1) ∨ (n = 2 ∧ m = 0):=by omega
            · skip
              simp only [impl_Sign_subsume.sides] at hsg
              simp only [Nat.reduceAdd,reduceIte] at hsg
              obtain ⟨⟨mb1,ok1⟩,hm1,hsg⟩:=Option.bind_eq_some_iff.1 hsg
              simp only at hsg
              have hcall:=impl_Lit_side.walk x.f0 B1 x.f1.length d1 B2 x.f2.length d2 0 wr
              have HM1:=Aside0.mk hm1
              have HSG:=Aside0.mk hsg
              clear hm1 hsg hbx hB hU i1 i2
              go_wp2_with (go_at_call 125;refine hcall.mono ?_)
              first|rintro e W3 rfl hd|rintro e W3 ⟨rfl,hd⟩
              have hd:=hd.out
              have BX:=Aside0.mk (BX.out.below hd)
              have HU:=Aside0.mk ((hd.block gu (Array.getElem?_eq_some_iff.1 HU.out).1).trans HU.out)
              have I1:=Aside0.mk (Kd.C_below I1.out hd)
              have I2:=Aside0.mk (Kd.C_below I2.out hd)
              have HB:=Aside0.mk (below_step HB.out hd)
              clear hd hcall q0 q1 q2
              go_wp2
              have hmc:=cellB HB.out M1.out
              refine start_ (n:=13) (S:=fun w'=>w'.cell? ⟨w.heap.size,0,none⟩ = some (.slice A0 s.length c0) ∧ w'.cell? ⟨ac.block,ac.off + 1,none⟩ = some (.slice E1 e0.f1.length f1)) (ds:=[]) #[false,false,false,false,false,false,false,false,false,false,false,false,false] (by kernel_rfl) rfl rfl ⟨BX.out.cell,hmc⟩ (fun hHeld=>?_)
              have hd:Below W3.heap.size W3 W3.drew:=below_drew1 (Below.refl _ _)
              have BX:=Aside0.mk (BX.out.below hd)
              have HU:=Aside0.mk ((hd.block gu (Array.getElem?_eq_some_iff.1 HU.out).1).trans HU.out)
              have I1:=Aside0.mk (Kd.C_below I1.out hd)
              have I2:=Aside0.mk (Kd.C_below I2.out hd)
              have HB:=Aside0.mk (below_step HB.out hd)
              replace hmc:=cellB hd hmc
              clear hd
              generalize W3.drew = W4 at BX HU I1 I2 HB hmc hHeld ⊢
              have hcall:=impl_Sign_match.walk k A0 c0 s base g0 cb cb b E1 f1 e0.f1 B1 d1 x.f1 (mb1,ok1) W4 (Kd.C_below HS.out HB.out) hs2 (Nat.le_trans HBS.out HB.out.size) (HR.out.below HB.out) (by rw [HL.out];omega) (by rw [HL.out];omega) (Kd.C_below J1.out HB.out) n1_ I1.out l1_ XM.out.1 EM.out.1 HM1.out
              rw [HL.out] at hcall
              have HWS:=Aside0.mk HB.out.size
              refine take_ (i:=0) (N:=(some 46)) (v:=?_) (a':=?_) #[true,false,false,false,false,false,false,false,false,false,false,false,false] rfl rfl (by kernel_rfl) (fun _ _ _ h=>h) (Or.inl ⟨by rfl,?_⟩) hHeld ?_ ?_
              rotate_left
              · intro w' ⟨s0,s1⟩
                go_simp
                with_reducible rfl
              rotate_left
              · simp only [Act.put,List.setIfInBounds_toArray,List.set_cons_zero,List.set_cons_succ,i64_w,i32_w]
                rfl
              refine pure_ (i:=1) (N:=(some 47)) (v:=?_) (a':=?_) #[true,true,false,false,false,false,false,false,false,false,false,false,false] rfl rfl (by kernel_rfl) (fun _ _ _ h=>h) (Or.inl ⟨by rfl,?_⟩) ?_ ?_
              rotate_left
              · intro w'
                go_simp
                with_reducible rfl
              rotate_left
              · simp only [Act.put,List.setIfInBounds_toArray,List.set_cons_zero,List.set_cons_succ,i64_w,i32_w]
                rfl
              refine pure_ (i:=2) (N:=(some 48)) (v:=?_) (a':=?_) #[true,true,true,false,false,false,false,false,false,false,false,false,false] rfl rfl (by kernel_rfl) (fun _ _ _ h=>h) (Or.inl ⟨by rfl,?_⟩) ?_ ?_
              rotate_left
              · intro w'
                go_simp
                with_reducible rfl
              rotate_left
              · simp only [Act.put,List.setIfInBounds_toArray,List.set_cons_zero,List.set_cons_succ,i64_w,i32_w]
                rfl
              refine pure_ (i:=3) (N:=(some 49)) (v:=?_) (a':=?_) #[true,true,true,true,false,false,false,false,false,false,false,false,false] rfl rfl (by kernel_rfl) (fun _ _ _ h=>h) (Or.inl ⟨by rfl,?_⟩) ?_ ?_
              rotate_left
              · intro w'
                go_simp
                with_reducible rfl
              rotate_left
              · simp only [Act.put,List.setIfInBounds_toArray,List.set_cons_zero,List.set_cons_succ,i64_w,i32_w]
                rfl
              refine pure_ (i:=4) (N:=(some 50)) (v:=?_) (a':=?_) #[true,true,true,true,true,false,false,false,false,false,false,false,false] rfl rfl (by kernel_rfl) (fun _ _ _ h=>h) (Or.inl ⟨by rfl,?_⟩) ?_ ?_
              rotate_left
              · intro w'
                go_simp
                with_reducible rfl
              rotate_left
              · simp only [Act.put,List.setIfInBounds_toArray,List.set_cons_zero,List.set_cons_succ,i64_w,i32_w]
                rfl
              refine take_ (i:=5) (N:=(some 51)) (v:=?_) (a':=?_) #[true,true,true,true,true,true,false,false,false,false,false,false,false] rfl rfl (by kernel_rfl) (fun _ _ _ h=>h) (Or.inl ⟨by rfl,?_⟩) hHeld ?_ ?_
              rotate_left
              · intro w' ⟨s0,s1⟩
                go_simp
                with_reducible rfl
              rotate_left
              · simp only [Act.put,List.setIfInBounds_toArray,List.set_cons_zero,List.set_cons_succ,i64_w,i32_w]
                rfl
              refine pure_ (i:=6) (N:=(some 52)) (v:=?_) (a':=?_) #[true,true,true,true,true,true,true,false,false,false,false,false,false] rfl rfl (by kernel_rfl) (fun _ _ _ h=>h) (Or.inl ⟨by rfl,?_⟩) ?_ ?_
              rotate_left
              · intro w'
                go_simp
                with_reducible rfl
              rotate_left
              · simp only [Act.put,List.setIfInBounds_toArray,List.set_cons_zero,List.set_cons_succ,i64_w,i32_w]
                rfl
              refine one_ (i:=7) (N:=(some 53)) #[true,true,true,true,true,true,true,true,false,false,false,false,false] rfl rfl (by kernel_rfl) (by decide) (fun K hK=>?_)
              refine goes_ Try.func126 (by kernel_rfl) rfl #[.agg #[.slice A0 s.length c0],.slice (some ⟨g0,0,none⟩) 12 cb,.slice E1 e0.f1.length f1,.slice B1 x.f1.length d1] (by rfl) rfl rfl (by (try simp only [List.map_toArray,List.map_cons,List.map_nil]);first|done|rfl) ?_
              refine (hcall).mono ?_
              rintro e W5 ⟨v,rfl,hf⟩
              refine ⟨_,rfl,?_⟩
              have hd:=hf.out.1
              have BX:=Aside0.mk (BX.out.below hd)
              have HU:=Aside0.mk ((hd.block gu (Array.getElem?_eq_some_iff.1 HU.out).1).trans HU.out)
              have I1:=Aside0.mk (Kd.C_below I1.out hd)
              have I2:=Aside0.mk (Kd.C_below I2.out hd)
              have HB:=Aside0.mk (below_step HB.out hd)
              replace hmc:=cellB hd hmc
              have HW:=Aside0.mk hd.size
              clear hd hcall
              refine hK.out _ _ ⟨BX.out.cell,hmc⟩ (fun hHeld=>?_)
              clear hK K hHeld
              refine norm_ (a':=?_) ?_ ?_
              rotate_left
              · show Act.put _ (some 53) _ = _
                simp only [Act.put,List.setIfInBounds_toArray,List.set_cons_zero,List.set_cons_succ,i64_w,i32_w]
                rfl
              refine pure_ (i:=8) (N:=(some 45)) (v:=?_) (a':=?_) #[true,true,true,true,true,true,true,true,true,false,false,false,false] rfl rfl (by kernel_rfl) (fun _ _ _ h=>h) (Or.inl ⟨by rfl,?_⟩) ?_ ?_
              rotate_left
              · intro w'
                go_simp
                with_reducible rfl
              rotate_left
              · simp only [Act.put,List.setIfInBounds_toArray,List.set_cons_zero,List.set_cons_succ,i64_w,i32_w]
                rfl
              refine pure_ (i:=9) (N:=(some 54)) (v:=?_) (a':=?_) #[true,true,true,true,true,true,true,true,true,true,false,false,false] rfl rfl (by kernel_rfl) (fun _ _ _ h=>h) (Or.inl ⟨by rfl,?_⟩) ?_ ?_
              rotate_left
              · intro w'
                go_simp
                with_reducible rfl
              rotate_left
              · simp only [Act.put,List.setIfInBounds_toArray,List.set_cons_zero,List.set_cons_succ,i64_w,i32_w]
                rfl
              refine pure_ (i:=10) (N:=(some 55)) (v:=?_) (a':=?_) #[true,true,true,true,true,true,true,true,true,true,true,false,false] rfl rfl (by kernel_rfl) (fun _ _ _ h=>h) (Or.inl ⟨by rfl,?_⟩) ?_ ?_
              rotate_left
              · intro w'
                go_simp
                with_reducible rfl
              rotate_left
              · simp only [Act.put,List.setIfInBounds_toArray,List.set_cons_zero,List.set_cons_succ,i64_w,i32_w]
                rfl
              refine pure_ (i:=11) (N:=(some 15)) (v:=?_) (a':=?_) #[true,true,true,true,true,true,true,true,true,true,true,true,false] rfl rfl (by kernel_rfl) (fun _ _ _ h=>h) (Or.inl ⟨by rfl,?_⟩) ?_ ?_
              rotate_left
              · intro w'
                go_simp
                with_reducible rfl
              rotate_left
              · simp only [Act.put,List.setIfInBounds_toArray,List.set_cons_zero,List.set_cons_succ,i64_w,i32_w]
                rfl
              refine pure_ (i:=12) (N:=(some 16)) (v:=?_) (a':=?_) #[true,true,true,true,true,true,true,true,true,true,true,true,true] rfl rfl (by kernel_rfl) (fun _ _ _ h=>h) (Or.inl ⟨by rfl,?_⟩) ?_ ?_
              rotate_left
              · intro w'
                go_simp
                with_reducible rfl
              rotate_left
              · simp only [Act.put,List.setIfInBounds_toArray,List.set_cons_zero,List.set_cons_succ,i64_w,i32_w]
                rfl
              refine done_ (by kernel_rfl) ?_
              have HF:=Aside0.mk hf.out.2
              clear hf hmc hHeld
              have hsg:=HSG.out
              cases ok1 with
              | false =>
                simp only [Bool.false_eq_true,if_false] at hsg
                have HSG2:=Aside0.mk hsg
                clear hsg HF
                go_wp2
                go_roundw
                case rel=>exact ⟨1,1,by omega,rfl,HSG2.out,BX.out,HU.out,I1.out,I2.out,HB.out⟩
                case measure=>simp [intOf]
              | true =>
                simp only [if_true] at hsg
                obtain ⟨⟨mb2,ok2⟩,hm2,hsg⟩:=Option.bind_eq_some_iff.1 hsg
                simp only at hsg
                obtain ⟨g1,c1,rfl,hl1,hrx,_,h12⟩:=HF.out rfl
                have RX:=Aside0.mk hrx
                have RL:=Aside0.mk hl1
                have HM2:=Aside0.mk hm2
                have HSG2:=Aside0.mk hsg
                clear hl1 hrx h12 hm2 hsg HF HM1 HSG
                go_wp2
                have hmc:=cellB HB.out M2.out
                refine start_ (n:=13) (S:=fun w'=>w'.cell? ⟨w.heap.size,0,none⟩ = some (.slice A0 s.length c0) ∧ w'.cell? ⟨ac.block,ac.off + 2,none⟩ = some (.slice E2 e0.f2.length f2)) (ds:=[]) #[false,false,false,false,false,false,false,false,false,false,false,false,false] (by kernel_rfl) rfl rfl ⟨BX.out.cell,hmc⟩ (fun hHeld=>?_)
                have hd:Below W5.heap.size W5 W5.drew:=below_drew1 (Below.refl _ _)
                have BX:=Aside0.mk (BX.out.below hd)
                have HU:=Aside0.mk ((hd.block gu (Array.getElem?_eq_some_iff.1 HU.out).1).trans HU.out)
                have I1:=Aside0.mk (Kd.C_below I1.out hd)
                have I2:=Aside0.mk (Kd.C_below I2.out hd)
                have HB:=Aside0.mk (below_step HB.out hd)
                have RX:=Aside0.mk (RX.out.below hd)
                replace hmc:=cellB hd hmc
                clear hd
                generalize W5.drew = W6 at BX HU I1 I2 HB hmc RX hHeld ⊢
                have hcall:=impl_Sign_match.walk k A0 c0 s base g1 c1 c1 mb1 E2 f2 e0.f2 B2 d2 x.f2 (mb2,ok2) W6 (Kd.C_below HS.out HB.out) hs2 (Nat.le_trans HBS.out HB.out.size) RX.out (by rw [RL.out];omega) (by rw [RL.out];omega) (Kd.C_below J2.out HB.out) n2_ I2.out l2_ XM.out.2 EM.out.2 HM2.out
                rw [RL.out] at hcall
                have HWS:=Aside0.mk HB.out.size
                refine take_ (i:=0) (N:=(some 58)) (v:=?_) (a':=?_) #[true,false,false,false,false,false,false,false,false,false,false,false,false] rfl rfl (by kernel_rfl) (fun _ _ _ h=>h) (Or.inl ⟨by rfl,?_⟩) hHeld ?_ ?_
                rotate_left
                · intro w' ⟨s0,s1⟩
                  go_simp
                  with_reducible rfl
                rotate_left
                · simp only [Act.put,List.setIfInBounds_toArray,List.set_cons_zero,List.set_cons_succ,i64_w,i32_w]
                  rfl
                refine pure_ (i:=1) (N:=(some 59)) (v:=?_) (a':=?_) #[true,true,false,false,false,false,false,false,false,false,false,false,false] rfl rfl (by kernel_rfl) (fun _ _ _ h=>h) (Or.inl ⟨by rfl,?_⟩) ?_ ?_
                rotate_left
                · intro w'
                  go_simp
                  with_reducible rfl
                rotate_left
                · simp only [Act.put,List.setIfInBounds_toArray,List.set_cons_zero,List.set_cons_succ,i64_w,i32_w]
                  rfl
                refine pure_ (i:=2) (N:=(some 60)) (v:=?_) (a':=?_) #[true,true,true,false,false,false,false,false,false,false,false,false,false] rfl rfl (by kernel_rfl) (fun _ _ _ h=>h) (Or.inl ⟨by rfl,?_⟩) ?_ ?_
                rotate_left
                · intro w'
                  go_simp
                  with_reducible rfl
                rotate_left
                · simp only [Act.put,List.setIfInBounds_toArray,List.set_cons_zero,List.set_cons_succ,i64_w,i32_w]
                  rfl
                refine pure_ (i:=3) (N:=(some 61)) (v:=?_) (a':=?_) #[true,true,true,true,false,false,false,false,false,false,false,false,false] rfl rfl (by kernel_rfl) (fun _ _ _ h=>h) (Or.inl ⟨by rfl,?_⟩) ?_ ?_
                rotate_left
                · intro w'
                  go_simp
                  with_reducible rfl
                rotate_left
                · simp only [Act.put,List.setIfInBounds_toArray,List.set_cons_zero,List.set_cons_succ,i64_w,i32_w]
                  rfl
                refine pure_ (i:=4) (N:=(some 62)) (v:=?_) (a':=?_) #[true,true,true,true,true,false,false,false,false,false,false,false,false] rfl rfl (by kernel_rfl) (fun _ _ _ h=>h) (Or.inl ⟨by rfl,?_⟩) ?_ ?_
                rotate_left
                · intro w'
                  go_simp
                  with_reducible rfl
                rotate_left
                · simp only [Act.put,List.setIfInBounds_toArray,List.set_cons_zero,List.set_cons_succ,i64_w,i32_w]
                  rfl
                refine take_ (i:=5) (N:=(some 63)) (v:=?_) (a':=?_) #[true,true,true,true,true,true,false,false,false,false,false,false,false] rfl rfl (by kernel_rfl) (fun _ _ _ h=>h) (Or.inl ⟨by rfl,?_⟩) hHeld ?_ ?_
                rotate_left
                · intro w' ⟨s0,s1⟩
                  go_simp
                  with_reducible rfl
                rotate_left
                · simp only [Act.put,List.setIfInBounds_toArray,List.set_cons_zero,List.set_cons_succ,i64_w,i32_w]
                  rfl
                refine pure_ (i:=6) (N:=(some 64)) (v:=?_) (a':=?_) #[true,true,true,true,true,true,true,false,false,false,false,false,false] rfl rfl (by kernel_rfl) (fun _ _ _ h=>h) (Or.inl ⟨by rfl,?_⟩) ?_ ?_
                rotate_left
                · intro w'
                  go_simp
                  with_reducible rfl
                rotate_left
                · simp only [Act.put,List.setIfInBounds_toArray,List.set_cons_zero,List.set_cons_succ,i64_w,i32_w]
                  rfl
                refine one_ (i:=7) (N:=(some 65)) #[true,true,true,true,true,true,true,true,false,false,false,false,false] rfl rfl (by kernel_rfl) (by decide) (fun K hK=>?_)
                refine goes_ Try.func126 (by kernel_rfl) rfl #[.agg #[.slice A0 s.length c0],.slice (some ⟨g1,0,none⟩) 12 c1,.slice E2 e0.f2.length f2,.slice B2 x.f2.length d2] (by rfl) rfl rfl (by (try simp only [List.map_toArray,List.map_cons,List.map_nil]);first|done|rfl) ?_
                refine (hcall).mono ?_
                rintro e W7 ⟨v,rfl,hf⟩
                refine ⟨_,rfl,?_⟩
                have hd:=hf.out.1
                have BX:=Aside0.mk (BX.out.below hd)
                have HU:=Aside0.mk ((hd.block gu (Array.getElem?_eq_some_iff.1 HU.out).1).trans HU.out)
                have I1:=Aside0.mk (Kd.C_below I1.out hd)
                have I2:=Aside0.mk (Kd.C_below I2.out hd)
                have HB:=Aside0.mk (below_step HB.out hd)
                replace hmc:=cellB hd hmc
                have HW:=Aside0.mk hd.size
                clear hd hcall
                refine hK.out _ _ ⟨BX.out.cell,hmc⟩ (fun hHeld=>?_)
                clear hK K hHeld
                refine norm_ (a':=?_) ?_ ?_
                rotate_left
                · show Act.put _ (some 65) _ = _
                  simp only [Act.put,List.setIfInBounds_toArray,List.set_cons_zero,List.set_cons_succ,i64_w,i32_w]
                  rfl
                refine pure_ (i:=8) (N:=(some 57)) (v:=?_) (a':=?_) #[true,true,true,true,true,true,true,true,true,false,false,false,false] rfl rfl (by kernel_rfl) (fun _ _ _ h=>h) (Or.inl ⟨by rfl,?_⟩) ?_ ?_
                rotate_left
                · intro w'
                  go_simp
                  with_reducible rfl
                rotate_left
                · simp only [Act.put,List.setIfInBounds_toArray,List.set_cons_zero,List.set_cons_succ,i64_w,i32_w]
                  rfl
                refine pure_ (i:=9) (N:=(some 66)) (v:=?_) (a':=?_) #[true,true,true,true,true,true,true,true,true,true,false,false,false] rfl rfl (by kernel_rfl) (fun _ _ _ h=>h) (Or.inl ⟨by rfl,?_⟩) ?_ ?_
                rotate_left
                · intro w'
                  go_simp
                  with_reducible rfl
                rotate_left
                · simp only [Act.put,List.setIfInBounds_toArray,List.set_cons_zero,List.set_cons_succ,i64_w,i32_w]
                  rfl
                refine pure_ (i:=10) (N:=(some 67)) (v:=?_) (a':=?_) #[true,true,true,true,true,true,true,true,true,true,true,false,false] rfl rfl (by kernel_rfl) (fun _ _ _ h=>h) (Or.inl ⟨by rfl,?_⟩) ?_ ?_
                rotate_left
                · intro w'
                  go_simp
                  with_reducible rfl
                rotate_left
                · simp only [Act.put,List.setIfInBounds_toArray,List.set_cons_zero,List.set_cons_succ,i64_w,i32_w]
                  rfl
                refine pure_ (i:=11) (N:=(some 15)) (v:=?_) (a':=?_) #[true,true,true,true,true,true,true,true,true,true,true,true,false] rfl rfl (by kernel_rfl) (fun _ _ _ h=>h) (Or.inl ⟨by rfl,?_⟩) ?_ ?_
                rotate_left
                · intro w'
                  go_simp
                  with_reducible rfl
                rotate_left
                · simp only [Act.put,List.setIfInBounds_toArray,List.set_cons_zero,List.set_cons_succ,i64_w,i32_w]
                  rfl
                refine pure_ (i:=12) (N:=(some 16)) (v:=?_) (a':=?_) #[true,true,true,true,true,true,true,true,true,true,true,true,true] rfl rfl (by kernel_rfl) (fun _ _ _ h=>h) (Or.inl ⟨by rfl,?_⟩) ?_ ?_
                rotate_left
                · intro w'
                  go_simp
                  with_reducible rfl
                rotate_left
                · simp only [Act.put,List.setIfInBounds_toArray,List.set_cons_zero,List.set_cons_succ,i64_w,i32_w]
                  rfl
                refine done_ (by kernel_rfl) ?_
                have HF:=Aside0.mk hf.out.2
                clear hf hmc hHeld RX
                have hsg:=HSG2.out
                cases ok2 with
                | false =>
                  simp only [Bool.false_eq_true,if_false] at hsg
                  have HSG3:=Aside0.mk hsg
                  clear hsg HF
                  go_wp2
                  go_roundw
                  case rel=>exact ⟨1,1,by omega,rfl,HSG3.out,BX.out,HU.out,I1.out,I2.out,HB.out⟩
                  case measure=>simp [intOf]
                | true =>
                  simp only [if_true] at hsg
                  obtain ⟨⟨ob,ok3⟩,hr3,hsg⟩:=Option.bind_eq_some_iff.1 hsg
                  simp only at hsg
                  obtain ⟨g2,c3',rfl,hl1,hrx,hg2,h12⟩:=HF.out rfl
                  have RX:=Aside0.mk hrx
                  have RL:=Aside0.mk hl1
                  have R12:=Aside0.mk h12
                  have HG2:=Aside0.mk hg2
                  have HR3:=Aside0.mk hr3
                  have HSG3:=Aside0.mk hsg
                  clear hl1 hrx h12 hg2 hr3 hsg HF HM2 HSG2
                  have hcut:=HCUT.out
                  go_wp2
                  refine start_ (n:=11) (S:=fun w'=>w'.cell? ⟨w.heap.size,0,none⟩ = some (.slice A0 s.length c0)) (ds:=[]) #[false,false,false,false,false,false,false,false,false,false,false] (by kernel_rfl) rfl rfl BX.out.cell (fun hHeld=>?_)
                  have hd:Below W7.heap.size W7 W7.drew:=below_drew1 (Below.refl _ _)
                  have BX:=Aside0.mk (BX.out.below hd)
                  have HU:=Aside0.mk ((hd.block gu (Array.getElem?_eq_some_iff.1 HU.out).1).trans HU.out)
                  have I1:=Aside0.mk (Kd.C_below I1.out hd)
                  have I2:=Aside0.mk (Kd.C_below I2.out hd)
                  have HB:=Aside0.mk (below_step HB.out hd)
                  have RX:=Aside0.mk (RX.out.below hd)
                  clear hd
                  generalize W7.drew = W8 at BX HU I1 I2 HB RX hHeld ⊢
                  have hcall:=IH.out AC (c2 - 1) g2 c3' mb2 (ob,ok3) W8 (Kd.C_below HS.out HB.out) (Kd.C_below HDC.out HB.out) (by omega) HCM2.out (Kd.C_below HD.out HB.out) (Nat.le_trans HBS.out HB.out.size) RX.out RL.out R12.out HR3.out
                  refine take_ (i:=0) (N:=(some 71)) (v:=?_) (a':=?_) #[true,false,false,false,false,false,false,false,false,false,false] rfl rfl (by kernel_rfl) (fun _ _ _ h=>h) (Or.inl ⟨by rfl,?_⟩) hHeld ?_ ?_
                  rotate_left
                  · intro w' s0
                    go_simp
                    with_reducible rfl
                  rotate_left
                  · simp only [Act.put,List.setIfInBounds_toArray,List.set_cons_zero,List.set_cons_succ,i64_w,i32_w]
                    rfl
                  refine pure_ (i:=1) (N:=(some 72)) (v:=?_) (a':=?_) #[true,true,false,false,false,false,false,false,false,false,false] rfl rfl (by kernel_rfl) (fun _ _ _ h=>h) (Or.inl ⟨by rfl,?_⟩) ?_ ?_
                  rotate_left
                  · intro w'
                    go_simp
                    with_reducible rfl
                  rotate_left
                  · simp only [Act.put,List.setIfInBounds_toArray,List.set_cons_zero,List.set_cons_succ,i64_w,i32_w]
                    rfl
                  refine pure_ (i:=2) (N:=(some 73)) (v:=?_) (a':=?_) #[true,true,true,false,false,false,false,false,false,false,false] rfl rfl (by kernel_rfl) (fun _ _ _ h=>h) (Or.inl ⟨by rfl,?_⟩) ?_ ?_
                  rotate_left
                  · intro w'
                    go_simp
                    with_reducible rfl
                  rotate_left
                  · simp only [Act.put,List.setIfInBounds_toArray,List.set_cons_zero,List.set_cons_succ,i64_w,i32_w]
                    rfl
                  refine pure_ (i:=3) (N:=(some 74)) (v:=?_) (a':=?_) #[true,true,true,true,false,false,false,false,false,false,false] rfl rfl (by kernel_rfl) (fun _ _ _ h=>h) (Or.inl ⟨by rfl,?_⟩) ?_ ?_
                  rotate_left
                  · intro w'
                    go_simp
                    with_reducible rfl
                  rotate_left
                  · simp only [Act.put,List.setIfInBounds_toArray,List.set_cons_zero,List.set_cons_succ,i64_w,i32_w]
                    rfl
                  refine pure_ (i:=4) (N:=(some 75)) (v:=?_) (a':=?_) #[true,true,true,true,true,false,false,false,false,false,false] rfl rfl (by kernel_rfl) (fun _ _ _ h=>h) (Or.inl ⟨by rfl,?_⟩) ?_ ?_
                  rotate_left
                  · intro w'
                    go_simp
                    with_reducible rfl
                  rotate_left
                  · simp only [Act.put,List.setIfInBounds_toArray,List.set_cons_zero,List.set_cons_succ,i64_w,i32_w]
                    rfl
                  refine one_ (i:=5) (N:=(some 76)) #[true,true,true,true,true,true,false,false,false,false,false] rfl rfl (by kernel_rfl) (by decide) (fun K hK=>?_)
                  refine goes_ Try.func100 (by kernel_rfl) rfl #[.agg #[.slice A0 s.length c0],.slice (some ⟨g2,0,none⟩) 12 c3',.slice AC c.length (c2 - 1),.slice (some ad) d.length c3] (by rfl) rfl rfl (by (try simp only [List.map_toArray,List.map_cons,List.map_nil]);first|done|rfl) ?_
                  refine (hcall).mono ?_
                  rintro e W9 ⟨v,rfl,hf⟩
                  refine ⟨_,rfl,?_⟩
                  have hd:=hf.out.1
                  have HW:=Aside0.mk HB.out.size
                  have BX:=Aside0.mk (BX.out.below hd)
                  have HU:=Aside0.mk ((hd.block gu (Array.getElem?_eq_some_iff.1 HU.out).1).trans HU.out)
                  have I1:=Aside0.mk (Kd.C_below I1.out hd)
                  have I2:=Aside0.mk (Kd.C_below I2.out hd)
                  have HB:=Aside0.mk (below_step HB.out hd)
                  clear hd hcall
                  refine hK.out _ _ BX.out.cell (fun hHeld=>?_)
                  clear hK K hHeld
                  refine norm_ (a':=?_) ?_ ?_
                  rotate_left
                  · show Act.put _ (some 76) _ = _
                    simp only [Act.put,List.setIfInBounds_toArray,List.set_cons_zero,List.set_cons_succ,i64_w,i32_w]
                    rfl
                  refine pure_ (i:=6) (N:=(some 70)) (v:=?_) (a':=?_) #[true,true,true,true,true,true,true,false,false,false,false] rfl rfl (by kernel_rfl) (fun _ _ _ h=>h) (Or.inl ⟨by rfl,?_⟩) ?_ ?_
                  rotate_left
                  · intro w'
                    go_simp
                    with_reducible rfl
                  rotate_left
                  · simp only [Act.put,List.setIfInBounds_toArray,List.set_cons_zero,List.set_cons_succ,i64_w,i32_w]
                    rfl
                  refine pure_ (i:=7) (N:=(some 77)) (v:=?_) (a':=?_) #[true,true,true,true,true,true,true,true,false,false,false] rfl rfl (by kernel_rfl) (fun _ _ _ h=>h) (Or.inl ⟨by rfl,?_⟩) ?_ ?_
                  rotate_left
                  · intro w'
                    go_simp
                    with_reducible rfl
                  rotate_left
                  · simp only [Act.put,List.setIfInBounds_toArray,List.set_cons_zero,List.set_cons_succ,i64_w,i32_w]
                    rfl
                  refine pure_ (i:=8) (N:=(some 78)) (v:=?_) (a':=?_) #[true,true,true,true,true,true,true,true,true,false,false] rfl rfl (by kernel_rfl) (fun _ _ _ h=>h) (Or.inl ⟨by rfl,?_⟩) ?_ ?_
                  rotate_left
                  · intro w'
                    go_simp
                    with_reducible rfl
                  rotate_left
                  · simp only [Act.put,List.setIfInBounds_toArray,List.set_cons_zero,List.set_cons_succ,i64_w,i32_w]
                    rfl
                  refine pure_ (i:=9) (N:=(some 17)) (v:=?_) (a':=?_) #[true,true,true,true,true,true,true,true,true,true,false] rfl rfl (by kernel_rfl) (fun _ _ _ h=>h) (Or.inl ⟨by rfl,?_⟩) ?_ ?_
                  rotate_left
                  · intro w'
                    go_simp
                    with_reducible rfl
                  rotate_left
                  · simp only [Act.put,List.setIfInBounds_toArray,List.set_cons_zero,List.set_cons_succ,i64_w,i32_w]
                    rfl
                  refine pure_ (i:=10) (N:=(some 18)) (v:=?_) (a':=?_) #[true,true,true,true,true,true,true,true,true,true,true] rfl rfl (by kernel_rfl) (fun _ _ _ h=>h) (Or.inl ⟨by rfl,?_⟩) ?_ ?_
                  rotate_left
                  · intro w'
                    go_simp
                    with_reducible rfl
                  rotate_left
                  · simp only [Act.put,List.setIfInBounds_toArray,List.set_cons_zero,List.set_cons_succ,i64_w,i32_w]
                    rfl
                  refine done_ (by kernel_rfl) ?_
                  clear hcut hHeld
                  have hsg:=HSG3.out
                  cases ok3 with
                  | true =>
                    simp only [if_true,Option.some.injEq] at hsg
                    subst hsg
                    have hrow:=ROW.out
                    simp only [Option.some.injEq] at hrow
                    subst hrow
                    have h:=HH.out
                    simp only [Option.some.injEq] at h
                    subst h
                    have HF:=Aside0.mk (hf.out.2 rfl)
                    clear hf h
                    go_wp2
                    go_ret2
                    refine ⟨_,rfl,⟨HB.out,fun _=>?_⟩⟩
                    obtain ⟨g,c',rfl,q1,q2,q3,q4⟩:=HF.out
                    refine ⟨g,c',rfl,q1,q2,q3,.inr ?_⟩
                    rcases q4 with rfl|q4
                    · have:=HG2.out;have:=HWS.out;omega
                    · have:=HW.out;omega
                  | false =>
                    simp only [Bool.false_eq_true,if_false] at hsg
                    have HSG4:=Aside0.mk hsg
                    clear hsg hf
                    go_wp2
                    go_roundw
                    case rel=>exact ⟨1,1,by omega,rfl,HSG4.out,BX.out,HU.out,I1.out,I2.out,HB.out⟩
                    case measure=>simp [intOf]
            · skip
              simp only [impl_Sign_subsume.sides] at hsg
              simp only [Nat.reduceAdd,reduceIte,Nat.one_ne_zero,Nat.succ_ne_zero] at hsg
              obtain ⟨⟨mb1,ok1⟩,hm1,hsg⟩:=Option.bind_eq_some_iff.1 hsg
              simp only at hsg
              have hcall:=impl_Lit_side.walk x.f0 B1 x.f1.length d1 B2 x.f2.length d2 1 wr
              have HM1:=Aside0.mk hm1
              have HSG:=Aside0.mk hsg
              clear hm1 hsg hbx hB hU i1 i2
              go_wp2_with (go_at_call 125;refine hcall.mono ?_)
              first|rintro e W3 rfl hd|rintro e W3 ⟨rfl,hd⟩
              have hd:=hd.out
              have BX:=Aside0.mk (BX.out.below hd)
              have HU:=Aside0.mk ((hd.block gu (Array.getElem?_eq_some_iff.1 HU.out).1).trans HU.out)
              have I1:=Aside0.mk (Kd.C_below I1.out hd)
              have I2:=Aside0.mk (Kd.C_below I2.out hd)
              have HB:=Aside0.mk (below_step HB.out hd)
              clear hd hcall q0 q1 q2
              go_wp2
              have hmc:=cellB HB.out M1.out
              refine start_ (n:=13) (S:=fun w'=>w'.cell? ⟨w.heap.size,0,none⟩ = some (.slice A0 s.length c0) ∧ w'.cell? ⟨ac.block,ac.off + 1,none⟩ = some (.slice E1 e0.f1.length f1)) (ds:=[]) #[false,false,false,false,false,false,false,false,false,false,false,false,false] (by kernel_rfl) rfl rfl ⟨BX.out.cell,hmc⟩ (fun hHeld=>?_)
              have hd:Below W3.heap.size W3 W3.drew:=below_drew1 (Below.refl _ _)
              have BX:=Aside0.mk (BX.out.below hd)
              have HU:=Aside0.mk ((hd.block gu (Array.getElem?_eq_some_iff.1 HU.out).1).trans HU.out)
              have I1:=Aside0.mk (Kd.C_below I1.out hd)
              have I2:=Aside0.mk (Kd.C_below I2.out hd)
              have HB:=Aside0.mk (below_step HB.out hd)
              replace hmc:=cellB hd hmc
              clear hd
              generalize W3.drew = W4 at BX HU I1 I2 HB hmc hHeld ⊢
              have hcall:=impl_Sign_match.walk k A0 c0 s base g0 cb cb b E1 f1 e0.f1 B2 d2 x.f2 (mb1,ok1) W4 (Kd.C_below HS.out HB.out) hs2 (Nat.le_trans HBS.out HB.out.size) (HR.out.below HB.out) (by rw [HL.out];omega) (by rw [HL.out];omega) (Kd.C_below J1.out HB.out) n1_ I2.out l2_ XM.out.2 EM.out.1 HM1.out
              rw [HL.out] at hcall
              have HWS:=Aside0.mk HB.out.size
              refine take_ (i:=0) (N:=(some 46)) (v:=?_) (a':=?_) #[true,false,false,false,false,false,false,false,false,false,false,false,false] rfl rfl (by kernel_rfl) (fun _ _ _ h=>h) (Or.inl ⟨by rfl,?_⟩) hHeld ?_ ?_
              rotate_left
              · intro w' ⟨s0,s1⟩
                go_simp
                with_reducible rfl
              rotate_left
              · simp only [Act.put,List.setIfInBounds_toArray,List.set_cons_zero,List.set_cons_succ,i64_w,i32_w]
                rfl
              refine pure_ (i:=1) (N:=(some 47)) (v:=?_) (a':=?_) #[true,true,false,false,false,false,false,false,false,false,false,false,false] rfl rfl (by kernel_rfl) (fun _ _ _ h=>h) (Or.inl ⟨by rfl,?_⟩) ?_ ?_
              rotate_left
              · intro w'
                go_simp
                with_reducible rfl
              rotate_left
              · simp only [Act.put,List.setIfInBounds_toArray,List.set_cons_zero,List.set_cons_succ,i64_w,i32_w]
                rfl
              refine pure_ (i:=2) (N:=(some 48)) (v:=?_) (a':=?_) #[true,true,true,false,false,false,false,false,false,false,false,false,false] rfl rfl (by kernel_rfl) (fun _ _ _ h=>h) (Or.inl ⟨by rfl,?_⟩) ?_ ?_
              rotate_left
              · intro w'
                go_simp
                with_reducible rfl
              rotate_left
              · simp only [Act.put,List.setIfInBounds_toArray,List.set_cons_zero,List.set_cons_succ,i64_w,i32_w]
                rfl
              refine pure_ (i:=3) (N:=(some 49)) (v:=?_) (a':=?_) #[true,true,true,true,false,false,false,false,false,false,false,false,false] rfl rfl (by kernel_rfl) (fun _ _ _ h=>h) (Or.inl ⟨by rfl,?_⟩) ?_ ?_
              rotate_left
              · intro w'
                go_simp
                with_reducible rfl
              rotate_left
              · simp only [Act.put,List.setIfInBounds_toArray,List.set_cons_zero,List.set_cons_succ,i64_w,i32_w]
                rfl
              refine pure_ (i:=4) (N:=(some 50)) (v:=?_) (a':=?_) #[true,true,true,true,true,false,false,false,false,false,false,false,false] rfl rfl (by kernel_rfl) (fun _ _ _ h=>h) (Or.inl ⟨by rfl,?_⟩) ?_ ?_
              rotate_left
              · intro w'
                go_simp
                with_reducible rfl
              rotate_left
              · simp only [Act.put,List.setIfInBounds_toArray,List.set_cons_zero,List.set_cons_succ,i64_w,i32_w]
                rfl
              refine take_ (i:=5) (N:=(some 51)) (v:=?_) (a':=?_) #[true,true,true,true,true,true,false,false,false,false,false,false,false] rfl rfl (by kernel_rfl) (fun _ _ _ h=>h) (Or.inl ⟨by rfl,?_⟩) hHeld ?_ ?_
              rotate_left
              · intro w' ⟨s0,s1⟩
                go_simp
                with_reducible rfl
              rotate_left
              · simp only [Act.put,List.setIfInBounds_toArray,List.set_cons_zero,List.set_cons_succ,i64_w,i32_w]
                rfl
              refine pure_ (i:=6) (N:=(some 52)) (v:=?_) (a':=?_) #[true,true,true,true,true,true,true,false,false,false,false,false,false] rfl rfl (by kernel_rfl) (fun _ _ _ h=>h) (Or.inl ⟨by rfl,?_⟩) ?_ ?_
              rotate_left
              · intro w'
                go_simp
                with_reducible rfl
              rotate_left
              · simp only [Act.put,List.setIfInBounds_toArray,List.set_cons_zero,List.set_cons_succ,i64_w,i32_w]
                rfl
              refine one_ (i:=7) (N:=(some 53)) #[true,true,true,true,true,true,true,true,false,false,false,false,false] rfl rfl (by kernel_rfl) (by decide) (fun K hK=>?_)
              refine goes_ Try.func126 (by kernel_rfl) rfl #[.agg #[.slice A0 s.length c0],.slice (some ⟨g0,0,none⟩) 12 cb,.slice E1 e0.f1.length f1,.slice B2 x.f2.length d2] (by rfl) rfl rfl (by (try simp only [List.map_toArray,List.map_cons,List.map_nil]);first|done|rfl) ?_
              refine (hcall).mono ?_
              rintro e W5 ⟨v,rfl,hf⟩
              refine ⟨_,rfl,?_⟩
              have hd:=hf.out.1
              have BX:=Aside0.mk (BX.out.below hd)
              have HU:=Aside0.mk ((hd.block gu (Array.getElem?_eq_some_iff.1 HU.out).1).trans HU.out)
              have I1:=Aside0.mk (Kd.C_below I1.out hd)
              have I2:=Aside0.mk (Kd.C_below I2.out hd)
              have HB:=Aside0.mk (below_step HB.out hd)
              replace hmc:=cellB hd hmc
              have HW:=Aside0.mk hd.size
              clear hd hcall
              refine hK.out _ _ ⟨BX.out.cell,hmc⟩ (fun hHeld=>?_)
              clear hK K hHeld
              refine norm_ (a':=?_) ?_ ?_
              rotate_left
              · show Act.put _ (some 53) _ = _
                simp only [Act.put,List.setIfInBounds_toArray,List.set_cons_zero,List.set_cons_succ,i64_w,i32_w]
                rfl
              refine pure_ (i:=8) (N:=(some 45)) (v:=?_) (a':=?_) #[true,true,true,true,true,true,true,true,true,false,false,false,false] rfl rfl (by kernel_rfl) (fun _ _ _ h=>h) (Or.inl ⟨by rfl,?_⟩) ?_ ?_
              rotate_left
              · intro w'
                go_simp
                with_reducible rfl
              rotate_left
              · simp only [Act.put,List.setIfInBounds_toArray,List.set_cons_zero,List.set_cons_succ,i64_w,i32_w]
                rfl
              refine pure_ (i:=9) (N:=(some 54)) (v:=?_) (a':=?_) #[true,true,true,true,true,true,true,true,true,true,false,false,false] rfl rfl (by kernel_rfl) (fun _ _ _ h=>h) (Or.inl ⟨by rfl,?_⟩) ?_ ?_
              rotate_left
              · intro w'
                go_simp
                with_reducible rfl
              rotate_left
              · simp only [Act.put,List.setIfInBounds_toArray,List.set_cons_zero,List.set_cons_succ,i64_w,i32_w]
                rfl
              refine pure_ (i:=10) (N:=(some 55)) (v:=?_) (a':=?_) #[true,true,true,true,true,true,true,true,true,true,true,false,false] rfl rfl (by kernel_rfl) (fun _ _ _ h=>h) (Or.inl ⟨by rfl,?_⟩) ?_ ?_
              rotate_left
              · intro w'
                go_simp
                with_reducible rfl
              rotate_left
              · simp only [Act.put,List.setIfInBounds_toArray,List.set_cons_zero,List.set_cons_succ,i64_w,i32_w]
                rfl
              refine pure_ (i:=11) (N:=(some 15)) (v:=?_) (a':=?_) #[true,true,true,true,true,true,true,true,true,true,true,true,false] rfl rfl (by kernel_rfl) (fun _ _ _ h=>h) (Or.inl ⟨by rfl,?_⟩) ?_ ?_
              rotate_left
              · intro w'
                go_simp
                with_reducible rfl
              rotate_left
              · simp only [Act.put,List.setIfInBounds_toArray,List.set_cons_zero,List.set_cons_succ,i64_w,i32_w]
                rfl
              refine pure_ (i:=12) (N:=(some 16)) (v:=?_) (a':=?_) #[true,true,true,true,true,true,true,true,true,true,true,true,true] rfl rfl (by kernel_rfl) (fun _ _ _ h=>h) (Or.inl ⟨by rfl,?_⟩) ?_ ?_
              rotate_left
              · intro w'
                go_simp
                with_reducible rfl
              rotate_left
              · simp only [Act.put,List.setIfInBounds_toArray,List.set_cons_zero,List.set_cons_succ,i64_w,i32_w]
                rfl
              refine done_ (by kernel_rfl) ?_
              have HF:=Aside0.mk hf.out.2
              clear hf hmc hHeld
              have hsg:=HSG.out
              cases ok1 with
              | false =>
                simp only [Bool.false_eq_true,if_false] at hsg
                have HSG2:=Aside0.mk hsg
                clear hsg HF
                go_wp2
                go_roundw
                case rel=>exact ⟨2,0,by omega,rfl,HSG2.out,BX.out,HU.out,I1.out,I2.out,HB.out⟩
                case measure=>simp [intOf]
              | true =>
                simp only [if_true] at hsg
                obtain ⟨⟨mb2,ok2⟩,hm2,hsg⟩:=Option.bind_eq_some_iff.1 hsg
                simp only at hsg
                obtain ⟨g1,c1,rfl,hl1,hrx,_,h12⟩:=HF.out rfl
                have RX:=Aside0.mk hrx
                have RL:=Aside0.mk hl1
                have HM2:=Aside0.mk hm2
                have HSG2:=Aside0.mk hsg
                clear hl1 hrx h12 hm2 hsg HF HM1 HSG
                go_wp2
                have hmc:=cellB HB.out M2.out
                refine start_ (n:=13) (S:=fun w'=>w'.cell? ⟨w.heap.size,0,none⟩ = some (.slice A0 s.length c0) ∧ w'.cell? ⟨ac.block,ac.off + 2,none⟩ = some (.slice E2 e0.f2.length f2)) (ds:=[]) #[false,false,false,false,false,false,false,false,false,false,false,false,false] (by kernel_rfl) rfl rfl ⟨BX.out.cell,hmc⟩ (fun hHeld=>?_)
                have hd:Below W5.heap.size W5 W5.drew:=below_drew1 (Below.refl _ _)
                have BX:=Aside0.mk (BX.out.below hd)
                have HU:=Aside0.mk ((hd.block gu (Array.getElem?_eq_some_iff.1 HU.out).1).trans HU.out)
                have I1:=Aside0.mk (Kd.C_below I1.out hd)
                have I2:=Aside0.mk (Kd.C_below I2.out hd)
                have HB:=Aside0.mk (below_step HB.out hd)
                have RX:=Aside0.mk (RX.out.below hd)
                replace hmc:=cellB hd hmc
                clear hd
                generalize W5.drew = W6 at BX HU I1 I2 HB hmc RX hHeld ⊢
                have hcall:=impl_Sign_match.walk k A0 c0 s base g1 c1 c1 mb1 E2 f2 e0.f2 B1 d1 x.f1 (mb2,ok2) W6 (Kd.C_below HS.out HB.out) hs2 (Nat.le_trans HBS.out HB.out.size) RX.out (by rw [RL.out];omega) (by rw [RL.out];omega) (Kd.C_below J2.out HB.out) n2_ I1.out l1_ XM.out.1 EM.out.2 HM2.out
                rw [RL.out] at hcall
                have HWS:=Aside0.mk HB.out.size
                refine take_ (i:=0) (N:=(some 58)) (v:=?_) (a':=?_) #[true,false,false,false,false,false,false,false,false,false,false,false,false] rfl rfl (by kernel_rfl) (fun _ _ _ h=>h) (Or.inl ⟨by rfl,?_⟩) hHeld ?_ ?_
                rotate_left
                · intro w' ⟨s0,s1⟩
                  go_simp
                  with_reducible rfl
                rotate_left
                · simp only [Act.put,List.setIfInBounds_toArray,List.set_cons_zero,List.set_cons_succ,i64_w,i32_w]
                  rfl
                refine pure_ (i:=1) (N:=(some 59)) (v:=?_) (a':=?_) #[true,true,false,false,false,false,false,false,false,false,false,false,false] rfl rfl (by kernel_rfl) (fun _ _ _ h=>h) (Or.inl ⟨by rfl,?_⟩) ?_ ?_
                rotate_left
                · intro w'
                  go_simp
                  with_reducible rfl
                rotate_left
                · simp only [Act.put,List.setIfInBounds_toArray,List.set_cons_zero,List.set_cons_succ,i64_w,i32_w]
                  rfl
                refine pure_ (i:=2) (N:=(some 60)) (v:=?_) (a':=?_) #[true,true,true,false,false,false,false,false,false,false,false,false,false] rfl rfl (by kernel_rfl) (fun _ _ _ h=>h) (Or.inl ⟨by rfl,?_⟩) ?_ ?_
                rotate_left
                · intro w'
                  go_simp
                  with_reducible rfl
                rotate_left
                · simp only [Act.put,List.setIfInBounds_toArray,List.set_cons_zero,List.set_cons_succ,i64_w,i32_w]
                  rfl
                refine pure_ (i:=3) (N:=(some 61)) (v:=?_) (a':=?_) #[true,true,true,true,false,false,false,false,false,false,false,false,false] rfl rfl (by kernel_rfl) (fun _ _ _ h=>h) (Or.inl ⟨by rfl,?_⟩) ?_ ?_
                rotate_left
                · intro w'
                  go_simp
                  with_reducible rfl
                rotate_left
                · simp only [Act.put,List.setIfInBounds_toArray,List.set_cons_zero,List.set_cons_succ,i64_w,i32_w]
                  rfl
                refine pure_ (i:=4) (N:=(some 62)) (v:=?_) (a':=?_) #[true,true,true,true,true,false,false,false,false,false,false,false,false] rfl rfl (by kernel_rfl) (fun _ _ _ h=>h) (Or.inl ⟨by rfl,?_⟩) ?_ ?_
                rotate_left
                · intro w'
                  go_simp
                  with_reducible rfl
                rotate_left
                · simp only [Act.put,List.setIfInBounds_toArray,List.set_cons_zero,List.set_cons_succ,i64_w,i32_w]
                  rfl
                refine take_ (i:=5) (N:=(some 63)) (v:=?_) (a':=?_) #[true,true,true,true,true,true,false,false,false,false,false,false,false] rfl rfl (by kernel_rfl) (fun _ _ _ h=>h) (Or.inl ⟨by rfl,?_⟩) hHeld ?_ ?_
                rotate_left
                · intro w' ⟨s0,s1⟩
                  go_simp
                  with_reducible rfl
                rotate_left
                · simp only [Act.put,List.setIfInBounds_toArray,List.set_cons_zero,List.set_cons_succ,i64_w,i32_w]
                  rfl
                refine pure_ (i:=6) (N:=(some 64)) (v:=?_) (a':=?_) #[true,true,true,true,true,true,true,false,false,false,false,false,false] rfl rfl (by kernel_rfl) (fun _ _ _ h=>h) (Or.inl ⟨by rfl,?_⟩) ?_ ?_
                rotate_left
                · intro w'
                  go_simp
                  with_reducible rfl
                rotate_left
                · simp only [Act.put,List.setIfInBounds_toArray,List.set_cons_zero,List.set_cons_succ,i64_w,i32_w]
                  rfl
                refine one_ (i:=7) (N:=(some 65)) #[true,true,true,true,true,true,true,true,false,false,false,false,false] rfl rfl (by kernel_rfl) (by decide) (fun K hK=>?_)
                refine goes_ Try.func126 (by kernel_rfl) rfl #[.agg #[.slice A0 s.length c0],.slice (some ⟨g1,0,none⟩) 12 c1,.slice E2 e0.f2.length f2,.slice B1 x.f1.length d1] (by rfl) rfl rfl (by (try simp only [List.map_toArray,List.map_cons,List.map_nil]);first|done|rfl) ?_
                refine (hcall).mono ?_
                rintro e W7 ⟨v,rfl,hf⟩
                refine ⟨_,rfl,?_⟩
                have hd:=hf.out.1
                have BX:=Aside0.mk (BX.out.below hd)
                have HU:=Aside0.mk ((hd.block gu (Array.getElem?_eq_some_iff.1 HU.out).1).trans HU.out)
                have I1:=Aside0.mk (Kd.C_below I1.out hd)
                have I2:=Aside0.mk (Kd.C_below I2.out hd)
                have HB:=Aside0.mk (below_step HB.out hd)
                replace hmc:=cellB hd hmc
                have HW:=Aside0.mk hd.size
                clear hd hcall
                refine hK.out _ _ ⟨BX.out.cell,hmc⟩ (fun hHeld=>?_)
                clear hK K hHeld
                refine norm_ (a':=?_) ?_ ?_
                rotate_left
                · show Act.put _ (some 65) _ = _
                  simp only [Act.put,List.setIfInBounds_toArray,List.set_cons_zero,List.set_cons_succ,i64_w,i32_w]
                  rfl
                refine pure_ (i:=8) (N:=(some 57)) (v:=?_) (a':=?_) #[true,true,true,true,true,true,true,true,true,false,false,false,false] rfl rfl (by kernel_rfl) (fun _ _ _ h=>h) (Or.inl ⟨by rfl,?_⟩) ?_ ?_
                rotate_left
                · intro w'
                  go_simp
                  with_reducible rfl
                rotate_left
                · simp only [Act.put,List.setIfInBounds_toArray,List.set_cons_zero,List.set_cons_succ,i64_w,i32_w]
                  rfl
                refine pure_ (i:=9) (N:=(some 66)) (v:=?_) (a':=?_) #[true,true,true,true,true,true,true,true,true,true,false,false,false] rfl rfl (by kernel_rfl) (fun _ _ _ h=>h) (Or.inl ⟨by rfl,?_⟩) ?_ ?_
                rotate_left
                · intro w'
                  go_simp
                  with_reducible rfl
                rotate_left
                · simp only [Act.put,List.setIfInBounds_toArray,List.set_cons_zero,List.set_cons_succ,i64_w,i32_w]
                  rfl
                refine pure_ (i:=10) (N:=(some 67)) (v:=?_) (a':=?_) #[true,true,true,true,true,true,true,true,true,true,true,false,false] rfl rfl (by kernel_rfl) (fun _ _ _ h=>h) (Or.inl ⟨by rfl,?_⟩) ?_ ?_
                rotate_left
                · intro w'
                  go_simp
                  with_reducible rfl
                rotate_left
                · simp only [Act.put,List.setIfInBounds_toArray,List.set_cons_zero,List.set_cons_succ,i64_w,i32_w]
                  rfl
                refine pure_ (i:=11) (N:=(some 15)) (v:=?_) (a':=?_) #[true,true,true,true,true,true,true,true,true,true,true,true,false] rfl rfl (by kernel_rfl) (fun _ _ _ h=>h) (Or.inl ⟨by rfl,?_⟩) ?_ ?_
                rotate_left
                · intro w'
                  go_simp
                  with_reducible rfl
                rotate_left
                · simp only [Act.put,List.setIfInBounds_toArray,List.set_cons_zero,List.set_cons_succ,i64_w,i32_w]
                  rfl
                refine pure_ (i:=12) (N:=(some 16)) (v:=?_) (a':=?_) #[true,true,true,true,true,true,true,true,true,true,true,true,true] rfl rfl (by kernel_rfl) (fun _ _ _ h=>h) (Or.inl ⟨by rfl,?_⟩) ?_ ?_
                rotate_left
                · intro w'
                  go_simp
                  with_reducible rfl
                rotate_left
                · simp only [Act.put,List.setIfInBounds_toArray,List.set_cons_zero,List.set_cons_succ,i64_w,i32_w]
                  rfl
                refine done_ (by kernel_rfl) ?_
                have HF:=Aside0.mk hf.out.2
                clear hf hmc hHeld RX
                have hsg:=HSG2.out
                cases ok2 with
                | false =>
                  simp only [Bool.false_eq_true,if_false] at hsg
                  have HSG3:=Aside0.mk hsg
                  clear hsg HF
                  go_wp2
                  go_roundw
                  case rel=>exact ⟨2,0,by omega,rfl,HSG3.out,BX.out,HU.out,I1.out,I2.out,HB.out⟩
                  case measure=>simp [intOf]
                | true =>
                  simp only [if_true] at hsg
                  obtain ⟨⟨ob,ok3⟩,hr3,hsg⟩:=Option.bind_eq_some_iff.1 hsg
                  simp only at hsg
                  obtain ⟨g2,c3',rfl,hl1,hrx,hg2,h12⟩:=HF.out rfl
                  have RX:=Aside0.mk hrx
                  have RL:=Aside0.mk hl1
                  have R12:=Aside0.mk h12
                  have HG2:=Aside0.mk hg2
                  have HR3:=Aside0.mk hr3
                  have HSG3:=Aside0.mk hsg
                  clear hl1 hrx h12 hg2 hr3 hsg HF HM2 HSG2
                  have hcut:=HCUT.out
                  go_wp2
                  refine start_ (n:=11) (S:=fun w'=>w'.cell? ⟨w.heap.size,0,none⟩ = some (.slice A0 s.length c0)) (ds:=[]) #[false,false,false,false,false,false,false,false,false,false,false] (by kernel_rfl) rfl rfl BX.out.cell (fun hHeld=>?_)
                  have hd:Below W7.heap.size W7 W7.drew:=below_drew1 (Below.refl _ _)
                  have BX:=Aside0.mk (BX.out.below hd)
                  have HU:=Aside0.mk ((hd.block gu (Array.getElem?_eq_some_iff.1 HU.out).1).trans HU.out)
                  have I1:=Aside0.mk (Kd.C_below I1.out hd)
                  have I2:=Aside0.mk (Kd.C_below I2.out hd)
                  have HB:=Aside0.mk (below_step HB.out hd)
                  have RX:=Aside0.mk (RX.out.below hd)
                  clear hd
                  generalize W7.drew = W8 at BX HU I1 I2 HB RX hHeld ⊢
                  have hcall:=IH.out AC (c2 - 1) g2 c3' mb2 (ob,ok3) W8 (Kd.C_below HS.out HB.out) (Kd.C_below HDC.out HB.out) (by omega) HCM2.out (Kd.C_below HD.out HB.out) (Nat.le_trans HBS.out HB.out.size) RX.out RL.out R12.out HR3.out
                  refine take_ (i:=0) (N:=(some 71)) (v:=?_) (a':=?_) #[true,false,false,false,false,false,false,false,false,false,false] rfl rfl (by kernel_rfl) (fun _ _ _ h=>h) (Or.inl ⟨by rfl,?_⟩) hHeld ?_ ?_
                  rotate_left
                  · intro w' s0
                    go_simp
                    with_reducible rfl
                  rotate_left
                  · simp only [Act.put,List.setIfInBounds_toArray,List.set_cons_zero,List.set_cons_succ,i64_w,i32_w]
                    rfl
                  refine pure_ (i:=1) (N:=(some 72)) (v:=?_) (a':=?_) #[true,true,false,false,false,false,false,false,false,false,false] rfl rfl (by kernel_rfl) (fun _ _ _ h=>h) (Or.inl ⟨by rfl,?_⟩) ?_ ?_
                  rotate_left
                  · intro w'
                    go_simp
                    with_reducible rfl
                  rotate_left
                  · simp only [Act.put,List.setIfInBounds_toArray,List.set_cons_zero,List.set_cons_succ,i64_w,i32_w]
                    rfl
                  refine pure_ (i:=2) (N:=(some 73)) (v:=?_) (a':=?_) #[true,true,true,false,false,false,false,false,false,false,false] rfl rfl (by kernel_rfl) (fun _ _ _ h=>h) (Or.inl ⟨by rfl,?_⟩) ?_ ?_
                  rotate_left
                  · intro w'
                    go_simp
                    with_reducible rfl
                  rotate_left
                  · simp only [Act.put,List.setIfInBounds_toArray,List.set_cons_zero,List.set_cons_succ,i64_w,i32_w]
                    rfl
                  refine pure_ (i:=3) (N:=(some 74)) (v:=?_) (a':=?_) #[true,true,true,true,false,false,false,false,false,false,false] rfl rfl (by kernel_rfl) (fun _ _ _ h=>h) (Or.inl ⟨by rfl,?_⟩) ?_ ?_
                  rotate_left
                  · intro w'
                    go_simp
                    with_reducible rfl
                  rotate_left
                  · simp only [Act.put,List.setIfInBounds_toArray,List.set_cons_zero,List.set_cons_succ,i64_w,i32_w]
                    rfl
                  refine pure_ (i:=4) (N:=(some 75)) (v:=?_) (a':=?_) #[true,true,true,true,true,false,false,false,false,false,false] rfl rfl (by kernel_rfl) (fun _ _ _ h=>h) (Or.inl ⟨by rfl,?_⟩) ?_ ?_
                  rotate_left
                  · intro w'
                    go_simp
                    with_reducible rfl
                  rotate_left
                  · simp only [Act.put,List.setIfInBounds_toArray,List.set_cons_zero,List.set_cons_succ,i64_w,i32_w]
                    rfl
                  refine one_ (i:=5) (N:=(some 76)) #[true,true,true,true,true,true,false,false,false,false,false] rfl rfl (by kernel_rfl) (by decide) (fun K hK=>?_)
                  refine goes_ Try.func100 (by kernel_rfl) rfl #[.agg #[.slice A0 s.length c0],.slice (some ⟨g2,0,none⟩) 12 c3',.slice AC c.length (c2 - 1),.slice (some ad) d.length c3] (by rfl) rfl rfl (by (try simp only [List.map_toArray,List.map_cons,List.map_nil]);first|done|rfl) ?_
                  refine (hcall).mono ?_
                  rintro e W9 ⟨v,rfl,hf⟩
                  refine ⟨_,rfl,?_⟩
                  have hd:=hf.out.1
                  have HW:=Aside0.mk HB.out.size
                  have BX:=Aside0.mk (BX.out.below hd)
                  have HU:=Aside0.mk ((hd.block gu (Array.getElem?_eq_some_iff.1 HU.out).1).trans HU.out)
                  have I1:=Aside0.mk (Kd.C_below I1.out hd)
                  have I2:=Aside0.mk (Kd.C_below I2.out hd)
                  have HB:=Aside0.mk (below_step HB.out hd)
                  clear hd hcall
                  refine hK.out _ _ BX.out.cell (fun hHeld=>?_)
                  clear hK K hHeld
                  refine norm_ (a':=?_) ?_ ?_
                  rotate_left
                  · show Act.put _ (some 76) _ = _
                    simp only [Act.put,List.setIfInBounds_toArray,List.set_cons_zero,List.set_cons_succ,i64_w,i32_w]
                    rfl
                  refine pure_ (i:=6) (N:=(some 70)) (v:=?_) (a':=?_) #[true,true,true,true,true,true,true,false,false,false,false] rfl rfl (by kernel_rfl) (fun _ _ _ h=>h) (Or.inl ⟨by rfl,?_⟩) ?_ ?_
                  rotate_left
                  · intro w'
                    go_simp
                    with_reducible rfl
                  rotate_left
                  · simp only [Act.put,List.setIfInBounds_toArray,List.set_cons_zero,List.set_cons_succ,i64_w,i32_w]
                    rfl
                  refine pure_ (i:=7) (N:=(some 77)) (v:=?_) (a':=?_) #[true,true,true,true,true,true,true,true,false,false,false] rfl rfl (by kernel_rfl) (fun _ _ _ h=>h) (Or.inl ⟨by rfl,?_⟩) ?_ ?_
                  rotate_left
                  · intro w'
                    go_simp
                    with_reducible rfl
                  rotate_left
                  · simp only [Act.put,List.setIfInBounds_toArray,List.set_cons_zero,List.set_cons_succ,i64_w,i32_w]
                    rfl
                  refine pure_ (i:=8) (N:=(some 78)) (v:=?_) (a':=?_) #[true,true,true,true,true,true,true,true,true,false,false] rfl rfl (by kernel_rfl) (fun _ _ _ h=>h) (Or.inl ⟨by rfl,?_⟩) ?_ ?_
                  rotate_left
                  · intro w'
                    go_simp
                    with_reducible rfl
                  rotate_left
                  · simp only [Act.put,List.setIfInBounds_toArray,List.set_cons_zero,List.set_cons_succ,i64_w,i32_w]
                    rfl
                  refine pure_ (i:=9) (N:=(some 17)) (v:=?_) (a':=?_) #[true,true,true,true,true,true,true,true,true,true,false] rfl rfl (by kernel_rfl) (fun _ _ _ h=>h) (Or.inl ⟨by rfl,?_⟩) ?_ ?_
                  rotate_left
                  · intro w'
                    go_simp
                    with_reducible rfl
                  rotate_left
                  · simp only [Act.put,List.setIfInBounds_toArray,List.set_cons_zero,List.set_cons_succ,i64_w,i32_w]
                    rfl
                  refine pure_ (i:=10) (N:=(some 18)) (v:=?_) (a':=?_) #[true,true,true,true,true,true,true,true,true,true,true] rfl rfl (by kernel_rfl) (fun _ _ _ h=>h) (Or.inl ⟨by rfl,?_⟩) ?_ ?_
                  rotate_left
                  · intro w'
                    go_simp
                    with_reducible rfl
                  rotate_left
                  · simp only [Act.put,List.setIfInBounds_toArray,List.set_cons_zero,List.set_cons_succ,i64_w,i32_w]
                    rfl
                  refine done_ (by kernel_rfl) ?_
                  clear hcut hHeld
                  have hsg:=HSG3.out
                  cases ok3 with
                  | true =>
                    simp only [if_true,Option.some.injEq] at hsg
                    subst hsg
                    have hrow:=ROW.out
                    simp only [Option.some.injEq] at hrow
                    subst hrow
                    have h:=HH.out
                    simp only [Option.some.injEq] at h
                    subst h
                    have HF:=Aside0.mk (hf.out.2 rfl)
                    clear hf h
                    go_wp2
                    go_ret2
                    refine ⟨_,rfl,⟨HB.out,fun _=>?_⟩⟩
                    obtain ⟨g,c',rfl,q1,q2,q3,q4⟩:=HF.out
                    refine ⟨g,c',rfl,q1,q2,q3,.inr ?_⟩
                    rcases q4 with rfl|q4
                    · have:=HG2.out;have:=HWS.out;omega
                    · have:=HW.out;omega
                  | false =>
                    simp only [Bool.false_eq_true,if_false] at hsg
                    have HSG4:=Aside0.mk hsg
                    clear hsg hf
                    go_wp2
                    go_roundw
                    case rel=>exact ⟨2,0,by omega,rfl,HSG4.out,BX.out,HU.out,I1.out,I2.out,HB.out⟩
                    case measure=>simp [intOf]
            · simp only [impl_Sign_subsume.sides,Option.some.injEq] at hsg
              subst hsg
              have hrow:=ROW.out
              simp only at hrow
              have ROW2:=Aside0.mk hrow
              clear hrow hbx hB hU i1 i2 q0 q1 q2
              go_wp2
              go_roundw
              case rel=>exact ⟨i + 1,by omega,rfl,ROW2.out,BX.out,HB.out⟩
              case measure=>simp [intOf];omega
      · obtain rfl:i = d.length:=by omega
        rw [List.drop_length] at hrow
        simp only [impl_Sign_subsume.row,Option.some.injEq] at hrow
        subst hrow
        have h:=HH.out
        simp only [Option.some.injEq] at h
        subst h
        have HB:=Aside0.mk hB
        clear hbx hB h
        go_wp2
        go_ret2
        exact ⟨_,rfl,⟨HB.out,fun q=>by cases q⟩⟩
def impl_Sign_subsumes.f (k:Nat) (l0_0:List Int) (l1 l2:List S72):Option (List (List Int) × Bool) :=
  if (l1 ++ l2).all (fun x=>decide (x.f1.length ≤ 1000000 ∧ x.f2.length ≤ 1000000)) = true then (if l1.length < 1 ∨ 4 < l1.length ∨ l2.length < l1.length then some ([],false) else (impl_Sign_subsume.go k l0_0 l2 l1 (List.replicate 12 [])).bind fun r=>if r.2 = true then (impl_bare.go 12 0 r.1).bind fun b=>some (b,true) else some ([],false)) else none
set_option maxHeartbeats 8000000 in
set_option maxRecDepth 1000000 in
theorem impl_Sign_subsumes.calls (k:Nat) (A0_0:Option Addr) (c0_0:Nat) (l0_0:List Int) (A1:Option Addr) (c1:Nat) (l1:List S72) (A2:Option Addr) (c2:Nat) (l2:List S72) (r1:List (List Int)) (r2:Bool) (w:World) (hr0_0:Kd.C (Kd.int .i64) w A0_0 l0_0.length l0_0) (hc0_0:l0_0.length ≤ c0_0) (hr1:Kd.C k72 w A1 l1.length l1) (hc1:l1.length ≤ c1) (hr2:Kd.C k72 w A2 l2.length l2) (hc2:l2.length ≤ c2) (h:impl_Sign_subsumes.f k l0_0 l1 l2 = some (r1,r2)) :
    Calls Try.prog 70 #[.agg #[.slice A0_0 l0_0.length c0_0],.slice A1 l1.length c1,.slice A2 l2.length c2] w fun e w'=>∃ v0_:Value,e = .returned (.tuple #[v0_,.bool r2]) ∧ Kd.S (Kd.slice 3 (Kd.int .i64)) 22 w' w.heap.size (fun _=>True) v0_ r1 ∧ Below w.heap.size w w':=by
  unfold impl_Sign_subsumes.f at h
  split at h
  rotate_left
  · cases h
  rename_i hall
  have hsm:(∀ x ∈ l1,smL x) ∧ ∀ x ∈ l2,smL x:=by
    rw [List.all_eq_true] at hall
    exact ⟨fun x hx=>by have:=hall x (List.mem_append_left _ hx);unfold smL;simpa using this,fun x hx=>by have:=hall x (List.mem_append_right _ hx);unfold smL;simpa using this⟩
  have HSM:=Aside0.mk hsm
  have hl1:l1.length ≤ 9223372036854775807:=hr1.2.1
  have hl2:l2.length ≤ 9223372036854775807:=hr2.2.1
  have H0:=Aside0.mk hr0_0
  have H1:=Aside0.mk hr1
  have H2:=Aside0.mk hr2
  have bx:Aside0 (Bx (w.alloc (.cells #[.slice A0_0 l0_0.length c0_0] 30)) w.heap.size (.slice A0_0 l0_0.length c0_0) 30):=⟨heap_alloc_new w _⟩
  have HB:Aside0 (Below w.heap.size w (w.alloc (.cells #[.slice A0_0 l0_0.length c0_0] 30))):=⟨Below.alloc (Below.refl _ _) (Nat.le_refl _) _⟩
  clear hall hsm hr0_0 hr1 hr2
  by_cases g:l1.length < 1 ∨ 4 < l1.length ∨ l2.length < l1.length
  · rw [if_pos g] at h
    obtain ⟨rfl,rfl⟩:=Prod.mk.inj (Option.some.inj h)
    clear h
    by_cases g1:l1.length < 1
    · have e1:decide ((l1.length:Int) < 1) = true:=decide_eq_true (by omega)
      have e0:l1.length = 0:=by omega
      clear g g1
      go_enter Try.func70,Try.ntmps70
      go_upto_region 1 with fail
      generalize w.alloc (.cells #[.slice A0_0 l0_0.length c0_0] 30) = W0 at bx HB ⊢
      go_wp2
      go_ret2
      exact ⟨_,rfl,⟨fun _=>0,Kd.R_nil _ _ _ _ _⟩,HB.out⟩
    · by_cases g2:4 < l1.length
      · have e1:decide ((l1.length:Int) < 1) = false:=decide_eq_false (by omega)
        have e2:decide ((4:Int) < l1.length) = true:=decide_eq_true (by omega)
        clear g
        go_enter Try.func70,Try.ntmps70
        go_upto_region 1 with fail
        generalize w.alloc (.cells #[.slice A0_0 l0_0.length c0_0] 30) = W0 at bx HB ⊢
        go_wp2
        go_ret2
        exact ⟨_,rfl,⟨fun _=>0,Kd.R_nil _ _ _ _ _⟩,HB.out⟩
      · have e1:decide ((l1.length:Int) < 1) = false:=decide_eq_false (by omega)
        have e2:decide ((4:Int) < l1.length) = false:=decide_eq_false (by omega)
        have e3:decide (l2.length < l1.length) = true:=decide_eq_true (by omega)
        clear g
        go_enter Try.func70,Try.ntmps70
        go_upto_region 1 with fail
        generalize w.alloc (.cells #[.slice A0_0 l0_0.length c0_0] 30) = W0 at bx HB ⊢
        go_wp2
        go_ret2
        exact ⟨_,rfl,⟨fun _=>0,Kd.R_nil _ _ _ _ _⟩,HB.out⟩
  · rw [if_neg g] at h
    obtain ⟨⟨b',okb⟩,hgo,h⟩:=Option.bind_eq_some_iff.1 h
    have e1:decide ((l1.length:Int) < 1) = false:=decide_eq_false (by omega)
    have e2:decide ((4:Int) < l1.length) = false:=decide_eq_false (by omega)
    have e3:decide (l2.length < l1.length) = false:=decide_eq_false (by omega)
    have HH:=Aside0.mk h
    have HGO:=Aside0.mk hgo
    clear g h hgo
    go_enter Try.func70,Try.ntmps70
    go_upto_region 1 with fail
    generalize w.alloc (.cells #[.slice A0_0 l0_0.length c0_0] 30) = W0 at bx HB ⊢
    go_wp2
    have hbc:=Bx.cell bx.out
    refine start_ (n:=10) (S:=fun w'=>w'.cell? ⟨w.heap.size,0,none⟩ = some (.slice A0_0 l0_0.length c0_0)) (ds:=[]) #[false,false,false,false,false,false,false,false,false,false] (by kernel_rfl) rfl rfl hbc (fun hHeld=>?_)
    have bx:=Aside0.mk (show Bx W0.drew w.heap.size (.slice A0_0 l0_0.length c0_0) 30 from bx.out)
    have HB:=Aside0.mk (below_drew1 HB.out)
    clear hbc
    generalize W0.drew = W1 at bx HB hHeld ⊢
    refine take_ (i:=0) (N:=(some 26)) (v:=?_) (a':=?_) #[true,false,false,false,false,false,false,false,false,false] rfl rfl (by kernel_rfl) (fun _ _ _ h=>h) (Or.inl ⟨by rfl,?_⟩) hHeld ?_ ?_
    rotate_left
    · intro w' s0
      go_simp
      with_reducible rfl
    rotate_left
    · simp only [Act.put,List.setIfInBounds_toArray,List.set_cons_zero,List.set_cons_succ,i64_w,i32_w]
      rfl
    refine pure_ (i:=2) (N:=(some 28)) (v:=?_) (a':=?_) #[true,false,true,false,false,false,false,false,false,false] rfl rfl (by kernel_rfl) (fun _ _ _ h=>h) (Or.inl ⟨by rfl,?_⟩) ?_ ?_
    rotate_left
    · intro w'
      go_simp
      with_reducible rfl
    rotate_left
    · simp only [Act.put,List.setIfInBounds_toArray,List.set_cons_zero,List.set_cons_succ,i64_w,i32_w]
      rfl
    refine pure_ (i:=3) (N:=(some 29)) (v:=?_) (a':=?_) #[true,false,true,true,false,false,false,false,false,false] rfl rfl (by kernel_rfl) (fun _ _ _ h=>h) (Or.inl ⟨by rfl,?_⟩) ?_ ?_
    rotate_left
    · intro w'
      go_simp
      with_reducible rfl
    rotate_left
    · simp only [Act.put,List.setIfInBounds_toArray,List.set_cons_zero,List.set_cons_succ,i64_w,i32_w]
      rfl
    refine one_ (i:=1) (N:=some 27) #[true,true,true,true,false,false,false,false,false,false] rfl rfl (by kernel_rfl) (by decide) (fun K hK=>?_)
    refine value_ (by rfl) rfl (v:=.slice (some ⟨W1.heap.size,0,none⟩) 12 12) (w1:=W1.alloc (.cells mk12 22)) ?_ ?_
    · have h:=run_mk12 W1
      simp only [execOp,Act.eval]
      go_simp
    have HR:=Aside0.mk (rowsX_new W1)
    have hz:=Aside0.mk HB.out.size
    have ha:Below W1.heap.size W1 (W1.alloc (.cells mk12 22)):=Below.alloc (Below.refl _ _) (Nat.le_refl _) _
    have bx:=Aside0.mk (bx.out.below ha)
    have HB:=Aside0.mk (below_step HB.out ha)
    have HR:=Aside0.mk (HR.out.lower hz.out)
    clear ha hHeld
    generalize W1.alloc (.cells mk12 22) = W2 at bx HB HR hK ⊢
    generalize W1.heap.size = g at HR hK ⊢
    refine hK.out _ _ bx.out.cell (fun hHeld=>?_)
    clear hK K
    refine norm_ (a':=?_) ?_ ?_
    rotate_left
    · show Act.put _ (some 27) _ = _
      simp only [Act.put,List.setIfInBounds_toArray,List.set_cons_zero,List.set_cons_succ,i64_w,i32_w]
      rfl
    refine one_ (i:=4) (N:=some 30) #[true,true,true,true,true,false,false,false,false,false] rfl rfl (by kernel_rfl) (by decide) (fun K hK=>?_)
    refine goes_ Try.func100 (by kernel_rfl) rfl #[.agg #[.slice A0_0 l0_0.length c0_0],.slice (some ⟨g,0,none⟩) 12 12,.slice A1 l1.length c1,.slice A2 l2.length c2] (by rfl) rfl rfl (by (try simp only [List.map_toArray,List.map_cons,List.map_nil]);first|done|rfl) ?_
    refine (impl_Sign_subsume.walk k A0_0 c0_0 l0_0 hc0_0 A2 c2 l2 hc2 HSM.out.2 w.heap.size l1 A1 c1 g 12 (List.replicate 12 []) (b',okb) W2 (Kd.C_below H0.out HB.out) (Kd.C_below H1.out HB.out) hc1 HSM.out.1 (Kd.C_below H2.out HB.out) HB.out.size HR.out (by simp) (by omega) HGO.out).mono ?_
    rintro e W3 ⟨v,rfl,hf⟩
    refine ⟨_,rfl,?_⟩
    have bx:=Aside0.mk (bx.out.below hf.out.1)
    refine hK.out _ _ bx.out.cell (fun hHeld=>?_)
    clear hK K hHeld
    refine norm_ (a':=?_) ?_ ?_
    rotate_left
    · show Act.put _ (some 30) _ = _
      simp only [Act.put,List.setIfInBounds_toArray,List.set_cons_zero,List.set_cons_succ,i64_w,i32_w]
      rfl
    refine pure_ (i:=5) (N:=(some 25)) (v:=?_) (a':=?_) #[true,true,true,true,true,true,false,false,false,false] rfl rfl (by kernel_rfl) (fun _ _ _ h=>h) (Or.inl ⟨by rfl,?_⟩) ?_ ?_
    rotate_left
    · intro w'
      go_simp
      with_reducible rfl
    rotate_left
    · simp only [Act.put,List.setIfInBounds_toArray,List.set_cons_zero,List.set_cons_succ,i64_w,i32_w]
      rfl
    refine pure_ (i:=6) (N:=(some 31)) (v:=?_) (a':=?_) #[true,true,true,true,true,true,true,false,false,false] rfl rfl (by kernel_rfl) (fun _ _ _ h=>h) (Or.inl ⟨by rfl,?_⟩) ?_ ?_
    rotate_left
    · intro w'
      go_simp
      with_reducible rfl
    rotate_left
    · simp only [Act.put,List.setIfInBounds_toArray,List.set_cons_zero,List.set_cons_succ,i64_w,i32_w]
      rfl
    refine pure_ (i:=7) (N:=(some 32)) (v:=?_) (a':=?_) #[true,true,true,true,true,true,true,true,false,false] rfl rfl (by kernel_rfl) (fun _ _ _ h=>h) (Or.inl ⟨by rfl,?_⟩) ?_ ?_
    rotate_left
    · intro w'
      go_simp
      with_reducible rfl
    rotate_left
    · simp only [Act.put,List.setIfInBounds_toArray,List.set_cons_zero,List.set_cons_succ,i64_w,i32_w]
      rfl
    refine pure_ (i:=8) (N:=(some 8)) (v:=?_) (a':=?_) #[true,true,true,true,true,true,true,true,true,false] rfl rfl (by kernel_rfl) (fun _ _ _ h=>h) (Or.inl ⟨by rfl,?_⟩) ?_ ?_
    rotate_left
    · intro w'
      go_simp
      with_reducible rfl
    rotate_left
    · simp only [Act.put,List.setIfInBounds_toArray,List.set_cons_zero,List.set_cons_succ,i64_w,i32_w]
      rfl
    refine pure_ (i:=9) (N:=(some 9)) (v:=?_) (a':=?_) #[true,true,true,true,true,true,true,true,true,true] rfl rfl (by kernel_rfl) (fun _ _ _ h=>h) (Or.inl ⟨by rfl,?_⟩) ?_ ?_
    rotate_left
    · intro w'
      go_simp
      with_reducible rfl
    rotate_left
    · simp only [Act.put,List.setIfInBounds_toArray,List.set_cons_zero,List.set_cons_succ,i64_w,i32_w]
      rfl
    refine done_ (by kernel_rfl) ?_
    have HB:=Aside0.mk (below_step HB.out hf.out.1)
    have HF:=Aside0.mk hf.out.2
    clear hf HR HGO
    have h:=HH.out
    cases okb with
    | false =>
      simp only [Bool.false_eq_true,if_false,Option.some.injEq,Prod.mk.injEq] at h
      obtain ⟨rfl,rfl⟩:=h
      go_wp2
      go_ret2
      exact ⟨_,rfl,⟨fun _=>0,Kd.R_nil _ _ _ _ _⟩,HB.out⟩
    | true =>
      obtain ⟨g2,cg,rfl,hbl,HR,hcg,_⟩:=HF.out rfl
      simp only [if_true] at h
      simp only at hbl HR
      obtain ⟨bb,hbb,h⟩:=Option.bind_eq_some_iff.1 h
      obtain ⟨rfl,rfl⟩:=Prod.mk.inj (Option.some.inj h)
      have hcall:=impl_bare.walk w.heap.size g2 cg cg b' bb w W3 HB.out HR.le.2.2 (by omega) HR (by rw [hbl];exact hbb)
      rw [hbl] at hcall
      have HX:=Aside0.mk hbl
      clear hbl HR hbb h HF
      go_wp2_with (go_at_call 101;refine hcall.mono ?_)
      first|rintro e W4 rfl hf|rintro e W4 ⟨rfl,hf⟩
      have HF:=Aside0.mk hf.out
      clear hf hcall
      go_wp2
      go_ret2
      have hx:=HF.out.2.2.2.S (fun _=>True) (fun _ _ _=>trivial)
      rw [HF.out.2.2.1] at hx
      exact ⟨_,rfl,hx,HF.out.1⟩
theorem impl_Sign_match.mono_go (s t p:List Int):∀ (b:List (List Int)) (j k:Nat),LeO (impl_Sign_match.go k s t p b j) (impl_Sign_match.go (k + 1) s t p b j):=by
  induction p with
  | nil=>intro b j k;exact LeO.refl _
  | cons n p ih =>
    intro b j k
    simp only [impl_Sign_match.go]
    repeat' first
      | exact ih _ _ _
      | exact impl_Sign_end.mono _ _ _ _
      | exact slices_Equal_int_int.mono _ _ _
      | exact LeO.refl _
      | exact LeO.none _
      | refine LeO.ite ?_ ?_
      | refine LeO.bind ?_ (fun _=>?_)
theorem impl_Sign_subsume.mono_sides (s:List Int) {R R':List (List Int) → Option (List (List Int) × Bool)} (h:∀ b,LeO (R b) (R' b)) (c0:S72) (b:List (List Int)) (x:S72) (m:Nat):∀ n k,LeO (impl_Sign_subsume.sides k s R c0 b x m n) (impl_Sign_subsume.sides (k + 1) s R' c0 b x m n):=by
  induction m with
  | zero=>intro n k;exact LeO.refl _
  | succ m ih =>
    intro n k
    simp only [impl_Sign_subsume.sides]
    repeat' first
      | exact ih _ _
      | exact h _
      | exact impl_Sign_match.mono_go _ _ _ _ _ _
      | exact LeO.refl _
      | exact LeO.none _
      | refine LeO.ite ?_ ?_
      | refine LeO.bind ?_ (fun _=>?_)
theorem impl_Sign_subsume.mono_row (s:List Int) {R R':List (List Int) → Option (List (List Int) × Bool)} (h:∀ b,LeO (R b) (R' b)) (c0:S72) (b:List (List Int)) (l:List S72):∀ k,LeO (impl_Sign_subsume.row k s R c0 b l) (impl_Sign_subsume.row (k + 1) s R' c0 b l):=by
  induction l with
  | nil=>intro k;exact LeO.refl _
  | cons x t ih =>
    intro k
    simp only [impl_Sign_subsume.row]
    refine LeO.ite (LeO.bind (impl_Sign_subsume.mono_sides s h _ _ _ _ _ _) (fun o=>?_)) (ih _)
    cases o with
    | none=>exact ih _
    | some y=>exact LeO.refl _
theorem impl_Sign_subsume.mono_go (s:List Int) (d c:List S72):∀ (b:List (List Int)) (k:Nat),LeO (impl_Sign_subsume.go k s d c b) (impl_Sign_subsume.go (k + 1) s d c b):=by
  induction c with
  | nil=>intro b k;exact LeO.refl _
  | cons c0 c ih =>
    intro b k
    simp only [impl_Sign_subsume.go]
    exact LeO.bind (impl_Sign_subsume.mono_row s (fun b'=>ih b' k) _ _ _ _) (fun _=>LeO.refl _)
theorem impl_Sign_subsumes.mono (a0:List Int) (a1 a2:List S72) (k:Nat):LeO (impl_Sign_subsumes.f k a0 a1 a2) (impl_Sign_subsumes.f (k + 1) a0 a1 a2):=by
  unfold impl_Sign_subsumes.f
  repeat' first
    | exact impl_Sign_subsume.mono_go _ _ _ _ _
    | exact LeO.refl _
    | exact LeO.none _
    | refine LeO.ite ?_ ?_
    | refine LeO.bind ?_ (fun _=>?_)

end Go.Proofs.Ytlgnanbnicmdaaa.QFnExactSubsumes
