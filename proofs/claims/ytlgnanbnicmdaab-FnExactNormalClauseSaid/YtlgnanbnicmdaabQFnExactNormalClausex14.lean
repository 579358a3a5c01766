-- Written by this session's own program (wip/x/xprint.py, over the kit's printer); Lean checks it.
import Derived.Test.YtlgnanbnicmdaabQFnExactNormalClausex0
import Derived.Test.YtlgnanbnicmdaabQFnExactNormalClausex6
import Derived.Test.YtlgnanbnicmdaabQFnExactNormalClausex10
import Derived.Test.YtlgnanbnicmdaabQFnExactNormalClausex11
import Derived.Test.YtlgnanbnicmdaabQFnExactNormalClausex12
import Derived.Test.YtlgnanbnicmdaabQFnExactNormalClausex13
namespace Go.Proofs.Ytlgnanbnicmdaab.QFnExactNormalClause
open Go.RowKit Go.Proofs.YtlgnanbnicmdaabW.PrintWords Go.Proofs.YtlgnanbnicmdaabW.PrintLast Go.Proofs.YtlgnanbnicmdaabW.PrintMore
attribute [local go_sem] max2_int min2_int max_two min_two max_three min_three max_four min_four   -- for this text's walks alone
set_option linter.unusedVariables false
set_option linter.unusedSimpArgs false

/-! ### impl_Sign_step: function 46, by a walk of this session's own -/
theorem rows2_of_own {w:World} {B n:Nat} {v:Value} {xs:List (List Int)} {vals:List Value} (h:w.ownsRow B 22 1 v n vals) (hn:n = xs.length) (h0:0 < n) (hv:∀ j,j < n → ∃ A c,vals[j]? = some (.slice A (xs.getD j []).length c) ∧ (xs.getD j []).length ≤ c ∧ CI w A (xs.getD j [])) :
    ∃ g c,v = .slice (some ⟨g,0,none⟩) n c ∧ Rows2 w g xs ∧ B ≤ g ∧ n ≤ c:=by
  have hl:=h.1
  rw [Nat.mul_one] at hl
  rcases h.2 with ⟨h',hz⟩|⟨g,cap,cur,h',hb,hg,hcap,_⟩
  · omega
  · refine ⟨g,cap,h',⟨⟨cur,hg⟩,fun j hj=>?_⟩,hb,hcap⟩
    obtain ⟨A,c,h1,h2,h3⟩:=hv j (by omega)
    refine ⟨A,c,?_,h2,h3⟩
    have:=h.cells (g:=g) (by rw [h'];rfl) j _ h1
    rw [add_plain] at this
    exact this
set_option maxHeartbeats 8000000 in
set_option maxRecDepth 1000000 in
theorem clone22 (g c:Nat) (xs:List (List Int)) (w:World) (h0:0 < xs.length) (hn:xs.length ≤ 1000000) (h:Rows2 w g xs) :
    Calls Try.prog 129 #[.slice (some ⟨g,0,none⟩) xs.length c] w fun e w'=>∃ v,e = .returned v ∧ Aside0 (Below w.heap.size w w' ∧ ∃ g' c',v = .slice (some ⟨g',0,none⟩) xs.length c' ∧ Rows2 w' g' xs ∧ w.heap.size ≤ g' ∧ xs.length ≤ c'):=by
  obtain ⟨i0,hi,hz0,hz1,hz2⟩:=info_parts Try.rows_info
  have q22:∀ (w:World) (a:Option Addr) (n c n' c':Nat),(binOp .eql 105 (.slice a n c) (.slice none n' c')).run Try.prog w = .ok (.bool a.isNone) w:=fun w a n c n' c'=>Lib.run_eql_slice_nil w _ _ a n c n' c' Try.underlying105
  have H:=Aside0.mk h
  obtain ⟨vals,hvl,hvc⟩:∃ vals:List Value,vals.length = xs.length ∧ ∀ j,j < xs.length → ∃ A c,vals[j]? = some (.slice A (xs.getD j []).length c) ∧ w.cell? ⟨g,j,none⟩ = some (.slice A (xs.getD j []).length c) ∧ (xs.getD j []).length ≤ c ∧ CI w A (xs.getD j []):=by
    refine ⟨(List.range xs.length).map fun j=>(w.cell? ⟨g,j,none⟩).getD undef,by simp,fun j hj=>?_⟩
    obtain ⟨A,c,h1,h2,h3⟩:=h.rd j hj
    exact ⟨A,c,by rw [List.getElem?_map,List.getElem?_range hj,Option.map_some,h1];rfl,h1,h2,h3⟩
  have HV:=Aside0.mk hvc
  have HS:=Aside0.mk h.lt
  clear h hvc
  go_enter Try.func129,Try.ntmps129
  go_wp2_with (at_builtin;refine wpList_append_own _ rfl _ _ 105 rfl w.heap.size 22 i0 (.slice none 0 0) 1 24 Try.underlying105 hi hz0 hz1 hz2 rfl (by decide) _ _ _ rfl (World.ownsRow_made w #[] 0 (Nat.le_refl _) (Nat.zero_le _) rfl) ⟨g,0,none⟩ xs.length c vals rfl ?qc1 ?qc2 ?qc3 ?qc4 ?qc5 ?qc6 ?_)
  case qc1=>omega
  case qc2 =>
    intro j u hj
    have hjn:j < xs.length:=by have:=(List.getElem?_eq_some_iff.1 hj).1;omega
    obtain ⟨A,c',h1,h2,_⟩:=HV.out j hjn
    rw [h1] at hj
    rw [add_plain]
    refine Lib.cell?_alloc_some _ ?_
    rw [h2]
    exact hj
  case qc3 =>
    intro u hu
    obtain ⟨j,hj,rfl⟩:=List.mem_iff_getElem.1 hu
    obtain ⟨A,c',h1,_⟩:=HV.out j (by omega)
    rw [List.getElem?_eq_getElem hj] at h1
    rw [Option.some.inj h1]
    rfl
  case qc4=>unfold maxLen;omega
  case qc5=>omega
  case qc6=>simp
  intro v' w1 hown hgrow hnil
  have hB:Aside0 (Below w.heap.size w w1):=⟨((Below.refl _ w).alloc (Nat.le_refl _) _).grown hgrow (by simp) (by intro k hk;simp [Value.ownBlock] at hk;omega)⟩
  try rw [Nat.zero_add] at hown
  try rw [List.nil_append] at hown
  have hr:=rows2_of_own (xs:=xs) hown rfl h0 (fun j hj=>by
    obtain ⟨A,c',h1,_,h3,h4⟩:=HV.out j hj
    exact ⟨A,c',h1,h3,Kd.C_below h4 hB.out⟩)
  obtain ⟨g',c',rfl,hr,hg',hc'⟩:=hr
  have HR:=Aside0.mk hr
  have HG:=Aside0.mk hg'
  clear hr hg' hown hgrow hnil
  go_wp2
  go_ret
  exact ⟨_,rfl,⟨hB.out,g',c',rfl,HR.out,HG.out,hc'⟩⟩
def impl_Sign_match.go (k:Nat) (s t:List Int):List Int → List (List Int) → Nat → Option (List (List Int) × Bool)
  | [],b,j=>some (b,decide (j = t.length))
  | n :: p,b,j=>if j < t.length then (if 0 ≤ n then (if rd t (j:Int) = n then impl_Sign_match.go k s t p b (j + 1) else some ([],false))
    else if -1 - n < (b.length:Int) ∧ -1000000 ≤ n then (impl_Sign_end.f k s t (j:Int)).bind fun en=>if (j:Int) ≤ en ∧ en ≤ (t.length:Int) then
      (if (b.getD (-1 - n).toNat []).length = 0 then impl_Sign_match.go k s t p (b.set (-1 - n).toNat ((t.take en.toNat).drop j)) en.toNat
       else (slices_Equal_int_int.f k (b.getD (-1 - n).toNat []) ((t.take en.toNat).drop j)).bind fun e=>if e = true then impl_Sign_match.go k s t p b en.toNat else some ([],false)) else none
    else none) else some ([],false)
set_option maxHeartbeats 8000000 in
set_option maxRecDepth 1000000 in
theorem impl_Sign_match.walk (k:Nat) (A0:Option Addr) (c0:Nat) (s:List Int) (g0 cb:Nat) (b:List (List Int)) (A2:Option Addr) (c2:Nat) (p:List Int) (A3:Option Addr) (c3:Nat) (t:List Int) (r:List (List Int) × Bool) (w:World) (hs:CI w A0 s) (hs2:s.length ≤ c0) (hb:Rows2 w g0 b) (hb0:0 < b.length) (hb1:b.length ≤ 1000000) (hp:CI w A2 p) (hp2:p.length ≤ c2) (ht:CI w A3 t) (ht2:t.length ≤ c3) (htl:t.length ≤ 1000000) (hpl:p.length ≤ 1000000)
    (h:impl_Sign_match.go k s t p b 0 = some r) :
    Calls Try.prog 111 #[.agg #[.slice A0 s.length c0],.slice (some ⟨g0,0,none⟩) b.length cb,.slice A2 p.length c2,.slice A3 t.length c3] w fun e w'=>∃ v,e = .returned (.tuple #[v,.bool r.2]) ∧ Aside0 (Below w.heap.size w w' ∧ (r.2 = true → ∃ g c,v = .slice (some ⟨g,0,none⟩) b.length c ∧ r.1.length = b.length ∧ Rows2 w' g r.1 ∧ w.heap.size ≤ g ∧ b.length ≤ c)):=by
  have HS:=Aside0.mk hs
  have HP:=Aside0.mk hp
  have HT:=Aside0.mk ht
  have H:=Aside0.mk h
  clear hs hp ht h
  have bx:Aside0 (Bx (w.alloc (.cells #[.slice A0 s.length c0] 30)) w.heap.size (.slice A0 s.length c0) 30):=⟨heap_alloc_new w _⟩
  have ha:Below w.heap.size w (w.alloc (.cells #[.slice A0 s.length c0] 30)):=Below.alloc (Below.refl _ _) (Nat.le_refl _) _
  have HR:=Aside0.mk (hb.below ha)
  have HB:=Aside0.mk ha
  clear ha hb
  go_enter Try.func111,Try.ntmps111
  go_upto_region 1 with fail
  generalize w.alloc (.cells #[.slice A0 s.length c0] 30) = W0 at bx HR HB ⊢
  have hcall:=clone22 g0 cb b W0 hb0 hb1 HR.out
  go_wp2_with (go_at_call 129;refine hcall.mono ?_)
  first|rintro e W1 v rfl hf|rintro e W1 ⟨v,rfl,hf⟩
  obtain ⟨hd,g,cg,rfl,hR,hg,hcg⟩:=hf.out
  have HCG:=Aside0.mk hcg
  clear hcg
  have HG:Aside0 (w.heap.size < g):=⟨Nat.lt_of_lt_of_le bx.out.lt hg⟩
  have bx:=Aside0.mk (bx.out.below hd)
  have HB:=Aside0.mk (below_step HB.out hd)
  have HR:=Aside0.mk hR
  clear hd hR hg hf hcall
  go_wp2
  go_loopw [10,20] (fun v10 v20 wr=>∃ (i j:Nat) (b':List (List Int)),i ≤ p.length ∧ j ≤ 1000000 ∧ v20 = .int .i64 i ∧ v10 = .int .i64 j ∧ Hid (b'.length = b.length) ∧ Hid (impl_Sign_match.go k s t (p.drop i) b' j = some r) ∧ Hid (Rows2 wr g b') ∧ Hid (Bx wr w.heap.size (.slice A0 s.length c0) 30) ∧ Hid (Below w.heap.size w wr)) (fun _ v20 _=>p.length - (intOf v20).toNat)
  case atStart=>exact ⟨0,0,b,Nat.zero_le _,by omega,rfl,rfl,rfl,H.out,HR.out,bx.out,HB.out⟩
  case round =>
    clear HR bx HB H
    obtain ⟨i,j,b',hi,hj,rfl,rfl,hbl,hgo,hR,hbx,hB⟩:=hrel
    unfold Hid at hbl hgo hR hbx hB
    have HR:=Aside0.mk hR
    have BX:=Aside0.mk hbx
    have HB:=Aside0.mk hB
    by_cases hp:i < p.length
    · rw [List.drop_eq_getElem_cons hp] at hgo
      obtain ⟨ap,eap,hpc⟩:=ci_elem (Kd.C_below HP.out hB) i hp
      have hrd:rd p (i:Int) = p[i]:=by unfold rd;simp [List.getD_eq_getElem?_getD,hp]
      rw [hrd] at hpc
      subst eap
      generalize p[i] = n at hgo hpc hrd
      clear hrd
      simp only [impl_Sign_match.go] at hgo
      by_cases g1:j < t.length
      rotate_left
      · rw [if_neg g1] at hgo
        obtain rfl:=Option.some.inj hgo
        clear hgo hR hbx hB
        go_wp2
        go_ret2
        exact ⟨⟨_,rfl⟩,⟨HB.out⟩⟩
      rw [if_pos g1] at hgo
      obtain ⟨at_,eat,htc⟩:=ci_elem (Kd.C_below HT.out hB) j g1
      subst eat
      by_cases g0:0 ≤ n
      · rw [if_pos g0] at hgo
        by_cases g2:rd t (j:Int) = n
        · rw [if_pos g2] at hgo
          rw [g2] at htc
          have HGO:=Aside0.mk hgo
          clear hgo hR hbx hB g2
          go_wp2
          go_roundw
          case rel=>exact ⟨i + 1,j + 1,b',by omega,by omega,rfl,rfl,hbl,HGO.out,HR.out,BX.out,HB.out⟩
          case measure=>simp [intOf];omega
        · rw [if_neg g2] at hgo
          obtain rfl:=Option.some.inj hgo
          clear hgo hR hbx hB
          go_wp2
          go_ret2
          exact ⟨⟨_,rfl⟩,⟨HB.out⟩⟩
      · rw [if_neg g0] at hgo
        by_cases gv:-1 - n < (b'.length:Int) ∧ -1000000 ≤ n
        rotate_left
        · rw [if_neg gv] at hgo
          cases hgo
        rw [if_pos gv] at hgo
        obtain ⟨vn,hvn⟩:∃ vn:Nat,-1 - n = (vn:Int):=⟨(-1 - n).toNat,by omega⟩
        rw [hvn,Int.toNat_natCast] at hgo
        have hvl:vn < b'.length:=by omega
        have hvl2:vn < b.length:=by omega
        obtain ⟨en,hen,hgo⟩:=Option.bind_eq_some_iff.1 hgo
        have hcall:=impl_Sign_end.calls k A0 c0 s (some at_) c3 t (j:Int) en wr (Kd.C_below HS.out hB) hs2 (Kd.C_below HT.out hB) ht2 hen
        have hbc:=Bx.cell BX.out
        have HGO:=Aside0.mk hgo
        clear hgo hR hbx hB hen htc
        go_wp2_with (go_at_call 110;refine hcall.mono ?_)
        first|rintro e W2 rfl hd|rintro e W2 ⟨rfl,hd⟩
        have HR:=Aside0.mk (HR.out.below hd)
        have BX:=Aside0.mk (BX.out.below hd)
        have HB:=Aside0.mk (below_step HB.out hd)
        clear hd hbc hcall
        have hgo:=HGO.out
        by_cases gx:(j:Int) ≤ en ∧ en ≤ (t.length:Int)
        rotate_left
        · rw [if_neg gx] at hgo
          cases hgo
        rw [if_pos gx] at hgo
        obtain ⟨em,rfl⟩:∃ em:Nat,en = (em:Int):=⟨en.toNat,by omega⟩
        rw [Int.toNat_natCast] at hgo
        obtain ⟨hgx1,hgx2⟩:=gx
        have hcut:=cut_mid (P:=Try.prog) 22 3 .i64 .i64 Try.underlying22 (info_parts info3).choose_spec.1 1 (info_parts info3).choose_spec.2.2.1 (some at_) t.length c3 (j:Int) (em:Int) (by omega) hgx1 hgx2 ht2
        rw [Int.toNat_natCast,Int.toNat_natCast] at hcut
        have hown:=Kd.C_mid (lo:=j) (hi:=em) (Kd.C_below HT.out HB.out) (by omega) (by omega) ht2
        obtain ⟨AO,hAO⟩:∃ AO,AO = (if c3 = j then some at_ else (some at_).map (·.add (j * 1))):=⟨_,rfl⟩
        have hl0:((t.take em).drop j).length = em - j:=by rw [List.length_drop,List.length_take];omega
        rw [← hAO] at hcut
        have hown2:CI W2 AO ((t.take em).drop j):=by rw [hAO];exact hown
        clear hown hAO
        generalize (t.take em).drop j = ow at hgo hown2 hl0
        have HO:=Aside0.mk hown2
        have HGO2:=Aside0.mk hgo
        clear hown2 hgo HGO
        obtain ⟨AD,cD,hD,hDc,hDr⟩:=HR.out.rd vn hvl
        have hfz:=HR.out.frozen vn
        have hgsz:=HR.out.lt
        have hgo:=HGO2.out
        by_cases go:(b'.getD vn []).length = 0
        · rw [if_pos go] at hgo
          have hcl:slices_Clone_int_int_83.f ow = some ow:=by unfold slices_Clone_int_int_83.f;rw [if_pos (by omega)]
          have hcall:=slices_Clone_int_int_83.calls AO (c3 - j) ow ow W2 HO.out (by omega) hcl
          rw [hl0] at hcall
          have HL0:=Aside0.mk hl0
          clear hl0
          have HGO:=Aside0.mk hgo
          clear hgo HGO2 hcl
          generalize b'.getD vn [] = old at hD go hDc hDr
          go_wp2_with (go_at_call 83;refine hcall.mono ?_)
          first|rintro e W3 v rfl hr hd|rintro e W3 ⟨v,rfl,hr,hd⟩
          obtain ⟨AX,cX,rfl⟩:=Kd.R_slice hr
          have hX:=(Kd.R_reads' hr).2.2
          have hXc:=(Kd.R_reads' hr).2.1
          replace hD:=(Below.cell hd hgsz).trans hD
          have HR:=Aside0.mk (HR.out.below hd)
          have BX:=Aside0.mk (BX.out.below hd)
          have HB:=Aside0.mk (below_step HB.out hd)
          replace hfz:=HR.out.frozen vn
          clear hr hd hcall
          have hset:=Aside0.mk (HR.out.set vn hvl hX hXc)
          have bset:Aside0 (Bx (W3.setCell ⟨g,vn,none⟩ (.slice AX ow.length cX)) w.heap.size (.slice A0 s.length c0) 30):=⟨Bx.set (u0:=undef) BX.out (by have:=HG.out;omega)⟩
          have Bset:Aside0 (Below w.heap.size w (W3.setCell ⟨g,vn,none⟩ (.slice AX ow.length cX))):=⟨below_set HB.out (Nat.le_of_lt HG.out)⟩
          have hlen2:(b'.set vn ow).length = b.length:=by rw [List.length_set];exact hbl
          clear hX
          go_wp2
          go_roundw
          case rel=>exact ⟨i + 1,em,b'.set vn ow,by omega,by omega,rfl,rfl,hlen2,HGO.out,hset.out,bset.out,Bset.out⟩
          case measure=>simp [intOf];omega
        · rw [if_neg go] at hgo
          obtain ⟨q,hq,hgo⟩:=Option.bind_eq_some_iff.1 hgo
          have hcall:=slices_Equal_int_int.calls k AD cD (b'.getD vn []) AO (c3 - j) ow q W2 hDr hDc HO.out (by omega) hq
          rw [hl0] at hcall
          have HL0:=Aside0.mk hl0
          clear hl0
          have HGO:=Aside0.mk hgo
          clear hgo HGO2 hDr hq
          generalize b'.getD vn [] = old at hD go hDc hcall
          go_wp2_with (go_at_call 130;refine hcall.mono ?_)
          first|rintro e W3 rfl hd|rintro e W3 ⟨rfl,hd⟩
          have hd:=hd.below
          have HR:=Aside0.mk (HR.out.below hd)
          have BX:=Aside0.mk (BX.out.below hd)
          have HB:=Aside0.mk (below_step HB.out hd)
          clear hd hcall
          have hgo:=HGO.out
          cases q with
          | true =>
            rw [if_pos rfl] at hgo
            have HGO:=Aside0.mk hgo
            clear hgo
            go_wp2
            go_roundw
            case rel=>exact ⟨i + 1,em,b',by omega,by omega,rfl,rfl,hbl,HGO.out,HR.out,BX.out,HB.out⟩
            case measure=>simp [intOf];omega
          | false =>
            rw [if_neg (by decide)] at hgo
            obtain rfl:=Option.some.inj hgo
            clear hgo
            go_wp2
            go_ret2
            exact ⟨⟨_,rfl⟩,⟨HB.out⟩⟩
    · obtain rfl:i = p.length:=by omega
      rw [List.drop_length] at hgo
      simp only [impl_Sign_match.go,Option.some.injEq] at hgo
      obtain ⟨ok,hok⟩:∃ ok:Bool,ok = decide (j = t.length):=⟨_,rfl⟩
      rw [← hok] at hgo
      have HOK:Aside0 (ok = ((j:Int) == (t.length:Int))):=⟨by rw [hok,Bool.eq_iff_iff];simp;omega⟩
      subst hgo
      clear hok
      clear hR hbx hB
      go_wp2
      go_ret2
      refine ⟨.slice (some ⟨g,0,none⟩) b.length cg,?_,⟨HB.out,fun _=>?_⟩⟩
      · rw [HOK.out]
        rfl
      · exact ⟨g,cg,rfl,HR.out,Nat.le_of_lt HG.out,HCG.out⟩
def impl_bare.go:Nat → Nat → List (List Int) → Option (List (List Int))
  | 0,_,b=>some b
  | m + 1,i,b=>(impl_isItself.f (b.getD i []) (i:Int)).bind fun q=>impl_bare.go m (i + 1) (if q = true then b.set i [] else b)
set_option maxHeartbeats 8000000 in
set_option maxRecDepth 1000000 in
theorem impl_bare.walk (g c:Nat) (b r:List (List Int)) (w0 w:World) (hB0:Below w0.heap.size w0 w) (hg:w0.heap.size ≤ g) (hb1:b.length ≤ 1000000) (hb:Rows2 w g b) (h:impl_bare.go b.length 0 b = some r) :
    Calls Try.prog 113 #[.slice (some ⟨g,0,none⟩) b.length c] w fun e w'=>e = .returned (.slice (some ⟨g,0,none⟩) b.length c) ∧ Aside0 (Below w0.heap.size w0 w' ∧ KI w w' ∧ r.length = b.length ∧ Rows2 w' g r):=by
  have H:=Aside0.mk h
  have HR:=Aside0.mk hb
  have HB:=Aside0.mk hB0
  have HG:=Aside0.mk hg
  clear h hb hB0 hg
  go_enter Try.func113,Try.ntmps113
  go_wp2
  go_loopw [7] (fun v7 wr=>∃ (i m:Nat) (b':List (List Int)),i + m = b.length ∧ v7 = .int .i64 i ∧ Hid (b'.length = b.length) ∧ Hid (impl_bare.go m i b' = some r) ∧ Hid (Rows2 wr g b') ∧ Hid (KI w wr) ∧ Hid (Below w0.heap.size w0 wr)) (fun v7 _=>b.length - (intOf v7).toNat)
  case atStart=>exact ⟨0,b.length,b,by omega,rfl,rfl,H.out,HR.out,KI.refl w,HB.out⟩
  case round =>
    clear HR HB H
    obtain ⟨i,m,b',him,rfl,hbl,hgo,hR,hI,hB⟩:=hrel
    unfold Hid at hbl hgo hR hI hB
    have HR:=Aside0.mk hR
    have HI:=Aside0.mk hI
    have HB:=Aside0.mk hB
    by_cases hp:i < b.length
    · obtain ⟨m,rfl⟩:∃ m',m = m' + 1:=⟨m - 1,by omega⟩
      simp only [impl_bare.go] at hgo
      obtain ⟨q,hq,hgo⟩:=Option.bind_eq_some_iff.1 hgo
      obtain ⟨AD,cD,hD,hDc,hDr⟩:=HR.out.rd i (by omega)
      have hgsz:=HR.out.lt
      have hcall:=impl_isItself.calls AD cD (b'.getD i []) (i:Int) q wr hDr hDc hq
      have HGO:=Aside0.mk hgo
      have HBL:=Aside0.mk hbl
      clear hgo hR hI hB hq hDr hbl
      generalize b'.getD i [] = old at hD hDc hcall
      go_wp2_with (go_at_call 131;refine hcall.mono ?_)
      first|rintro e W1 rfl hd|rintro e W1 ⟨rfl,hd⟩
      have hd:=hd.below
      replace hD:=(Below.cell hd hgsz).trans hD
      have HR:=Aside0.mk (HR.out.below hd)
      have HI:=Aside0.mk (HI.out.below hd)
      have HB:=Aside0.mk (below_step HB.out hd)
      have hfz:=HR.out.frozen i
      clear hd hcall hDc
      have hgo:=HGO.out
      cases q with
      | true =>
        rw [if_pos rfl] at hgo
        have HGO:=Aside0.mk hgo
        have hset:=Aside0.mk (HR.out.set i (by have:=HBL.out;omega) (A:=none) (c:=0) (x:=[]) (ci_of ⟨rfl,by simp,fun h=>by simp at h⟩) (Nat.le_refl _))
        have iset:=Aside0.mk (HI.out.set hD (.slice none 0 0))
        have Bset:Aside0 (Below w0.heap.size w0 (W1.setCell ⟨g,i,none⟩ (.slice none 0 0))):=⟨below_set HB.out HG.out⟩
        have hlen2:Aside0 ((b'.set i []).length = b.length):=⟨by rw [List.length_set];exact HBL.out⟩
        clear hgo
        go_wp2
        go_roundw
        case rel=>exact ⟨i + 1,m,b'.set i [],by omega,rfl,hlen2.out,HGO.out,hset.out,iset.out,Bset.out⟩
        case measure=>simp [intOf];omega
      | false =>
        rw [if_neg (by decide)] at hgo
        have HGO:=Aside0.mk hgo
        clear hgo
        go_wp2
        go_roundw
        case rel=>exact ⟨i + 1,m,b',by omega,rfl,HBL.out,HGO.out,HR.out,HI.out,HB.out⟩
        case measure=>simp [intOf];omega
    · obtain rfl:i = b.length:=by omega
      obtain rfl:m = 0:=by omega
      simp only [impl_bare.go,Option.some.injEq] at hgo
      subst hgo
      have HBL:=Aside0.mk hbl
      clear hR hI hB hbl
      go_wp2
      go_ret
      exact ⟨rfl,⟨HB.out,HI.out,HBL.out,HR.out⟩⟩
def impl_Sign_rewrite.has (k:Nat) (part:List Int):List Int → Option Bool
  | []=>some true
  | n :: t=>if n < 0 then (slices_Contains_int_int.f k part n).bind fun h=>if h = true then impl_Sign_rewrite.has k part t else some false else impl_Sign_rewrite.has k part t
def impl_Sign_rewrite.f (k:Nat) (l0_0 l1 l2 l3:List Int):Option (List Int × Bool) :=
  if l1.length ≤ 1000000 ∧ l2.length ≤ 1000000 then (impl_Sign_match.go k l0_0 l1 l2 (List.replicate 12 []) 0).bind fun m=>if m.2 = true then (impl_bare.go 12 0 m.1).bind fun b=>(impl_apply.f k b l3).bind fun o=>if o.2 = true then (impl_isGreater.f k l1 o.1).bind fun gr=>if gr = true then (impl_Sign_rewrite.has k l1 o.1).bind fun q=>if q = true then some (o.1,true) else some ([],false) else some ([],false) else some ([],false) else some ([],false) else none
set_option maxHeartbeats 8000000 in
set_option maxRecDepth 1000000 in
theorem impl_Sign_rewrite.calls (k:Nat) (A0_0:Option Addr) (c0_0:Nat) (l0_0:List Int) (A1:Option Addr) (c1:Nat) (l1:List Int) (A2:Option Addr) (c2:Nat) (l2:List Int) (A3:Option Addr) (c3:Nat) (l3:List Int) (r1:List Int) (r2:Bool) (w:World) (hr0_0:Kd.C (Kd.int .i64) w A0_0 l0_0.length l0_0) (hc0_0:l0_0.length ≤ c0_0) (hr1:Kd.C (Kd.int .i64) w A1 l1.length l1) (hc1:l1.length ≤ c1) (hr2:Kd.C (Kd.int .i64) w A2 l2.length l2) (hc2:l2.length ≤ c2) (hr3:Kd.C (Kd.int .i64) w A3 l3.length l3) (hc3:l3.length ≤ c3) (h:impl_Sign_rewrite.f k l0_0 l1 l2 l3 = some (r1,r2)) :
    Calls Try.prog 80 #[.agg #[.slice A0_0 l0_0.length c0_0],.slice A1 l1.length c1,.slice A2 l2.length c2,.slice A3 l3.length c3] w fun e w'=>∃ v0_:Value,e = .returned (.tuple #[v0_,.bool r2]) ∧ Kd.R (Kd.int .i64) 3 w' w.heap.size (fun _=>True) v0_ r1 ∧ Below w.heap.size w w':=by
  unfold impl_Sign_rewrite.f at h
  split at h
  rotate_left
  · cases h
  rename_i hln
  obtain ⟨⟨b',okb⟩,hgo,h⟩:=Option.bind_eq_some_iff.1 h
  have H0:=Aside0.mk hr0_0
  have H1:=Aside0.mk hr1
  have H2:=Aside0.mk hr2
  have H3:=Aside0.mk hr3
  have HH:=Aside0.mk h
  have HGO:=Aside0.mk hgo
  clear hr0_0 hr1 hr2 hr3 h hgo
  have bx:Aside0 (Bx (w.alloc (.cells #[.slice A0_0 l0_0.length c0_0] 30)) w.heap.size (.slice A0_0 l0_0.length c0_0) 30):=⟨heap_alloc_new w _⟩
  have HB:Aside0 (Below w.heap.size w (w.alloc (.cells #[.slice A0_0 l0_0.length c0_0] 30))):=⟨Below.alloc (Below.refl _ _) (Nat.le_refl _) _⟩
  go_enter Try.func80,Try.ntmps80
  go_upto_region 1 with fail
  generalize w.alloc (.cells #[.slice A0_0 l0_0.length c0_0] 30) = W0 at bx HB ⊢
  have hbc:=Bx.cell bx.out
  go_wp2
  refine start_ (n:=10) (S:=fun w'=>w'.cell? ⟨w.heap.size,0,none⟩ = some (.slice A0_0 l0_0.length c0_0)) (ds:=[]) #[false,false,false,false,false,false,false,false,false,false] (by kernel_rfl) rfl rfl hbc (fun hHeld=>?_)
  have bx:=Aside0.mk (show Bx W0.drew w.heap.size (.slice A0_0 l0_0.length c0_0) 30 from bx.out)
  have HB:=Aside0.mk (below_drew1 HB.out)
  clear hbc
  generalize W0.drew = W1 at bx HB hHeld ⊢
  refine take_ (i:=0) (N:=some 16) (v:=?_) (a':=?_) #[true,false,false,false,false,false,false,false,false,false] rfl rfl (by kernel_rfl) (fun _ _ _ h=>h) (Or.inl ⟨by rfl,?_⟩) hHeld ?_ ?_
  rotate_left
  · intro w' s0
    go_simp
    with_reducible rfl
  rotate_left
  · simp only [Act.put,List.setIfInBounds_toArray,List.set_cons_zero,List.set_cons_succ,i64_w,i32_w]
    rfl
  refine pure_ (i:=2) (N:=some 18) (v:=?_) (a':=?_) #[true,false,true,false,false,false,false,false,false,false] rfl rfl (by kernel_rfl) (fun _ _ _ h=>h) (Or.inl ⟨by rfl,?_⟩) ?_ ?_
  rotate_left
  · intro w'
    go_simp
    with_reducible rfl
  rotate_left
  · simp only [Act.put,List.setIfInBounds_toArray,List.set_cons_zero,List.set_cons_succ,i64_w,i32_w]
    rfl
  refine pure_ (i:=3) (N:=some 19) (v:=?_) (a':=?_) #[true,false,true,true,false,false,false,false,false,false] rfl rfl (by kernel_rfl) (fun _ _ _ h=>h) (Or.inl ⟨by rfl,?_⟩) ?_ ?_
  rotate_left
  · intro w'
    go_simp
    with_reducible rfl
  rotate_left
  · simp only [Act.put,List.setIfInBounds_toArray,List.set_cons_zero,List.set_cons_succ,i64_w,i32_w]
    rfl
  refine one_ (i:=1) (N:=some 17) #[true,true,true,true,false,false,false,false,false,false] rfl rfl (by kernel_rfl) (by decide) (fun K hK=>?_)
  refine value_ (by rfl) rfl (v:=.slice (some ⟨W1.heap.size,0,none⟩) 12 12) (w1:=W1.alloc (.cells mk12 22)) ?_ ?_
  · have h:=run_mk12 W1
    simp only [execOp,Act.eval]
    go_simp
  have HR:=Aside0.mk (rows2_new W1)
  have ha:Below W1.heap.size W1 (W1.alloc (.cells mk12 22)):=Below.alloc (Below.refl _ _) (Nat.le_refl _) _
  have hg:Aside0 (w.heap.size < W1.heap.size):=⟨bx.out.lt⟩
  have bx:=Aside0.mk (bx.out.below ha)
  have HB:=Aside0.mk (below_step HB.out ha)
  clear ha hHeld
  generalize W1.alloc (.cells mk12 22) = W2 at bx HB HR hK ⊢
  generalize W1.heap.size = g at hg HR hK ⊢
  refine hK.out _ _ bx.out.cell (fun hHeld=>?_)
  clear hK K
  refine norm_ (a':=?_) ?_ ?_
  rotate_left
  · show Act.put _ (some 17) _ = _
    simp only [Act.put,List.setIfInBounds_toArray,List.set_cons_zero,List.set_cons_succ,i64_w,i32_w]
    rfl
  refine one_ (i:=4) (N:=some 20) #[true,true,true,true,true,false,false,false,false,false] rfl rfl (by kernel_rfl) (by decide) (fun K hK=>?_)
  refine goes_ Try.func111 (by kernel_rfl) rfl #[.agg #[.slice A0_0 l0_0.length c0_0],.slice (some ⟨g,0,none⟩) 12 12,.slice A2 l2.length c2,.slice A1 l1.length c1] (by rfl) rfl rfl (by (try simp only [List.map_toArray,List.map_cons,List.map_nil]);first|done|rfl) ?_
  refine (impl_Sign_match.walk k A0_0 c0_0 l0_0 g 12 (List.replicate 12 []) A2 c2 l2 A1 c1 l1 (b',okb) W2 (Kd.C_below H0.out HB.out) hc0_0 HR.out (by simp) (by simp) (Kd.C_below H2.out HB.out) hc2 (Kd.C_below H1.out HB.out) hc1 hln.1 hln.2 HGO.out).mono ?_
  rintro e W3 ⟨v,rfl,hf⟩
  refine ⟨_,rfl,?_⟩
  have bx:=Aside0.mk (bx.out.below hf.out.1)
  refine hK.out _ _ bx.out.cell (fun hHeld=>?_)
  clear hK K hHeld
  refine norm_ (a':=?_) ?_ ?_
  rotate_left
  · show Act.put _ (some 20) _ = _
    simp only [Act.put,List.setIfInBounds_toArray,List.set_cons_zero,List.set_cons_succ,i64_w,i32_w]
    rfl
  refine pure_ (i:=5) (N:=some 15) (v:=?_) (a':=?_) #[true,true,true,true,true,true,false,false,false,false] rfl rfl (by kernel_rfl) (fun _ _ _ h=>h) (Or.inl ⟨by rfl,?_⟩) ?_ ?_
  rotate_left
  · intro w'
    go_simp
    with_reducible rfl
  rotate_left
  · simp only [Act.put,List.setIfInBounds_toArray,List.set_cons_zero,List.set_cons_succ,i64_w,i32_w]
    rfl
  refine pure_ (i:=6) (N:=some 21) (v:=?_) (a':=?_) #[true,true,true,true,true,true,true,false,false,false] rfl rfl (by kernel_rfl) (fun _ _ _ h=>h) (Or.inl ⟨by rfl,?_⟩) ?_ ?_
  rotate_left
  · intro w'
    go_simp
    with_reducible rfl
  rotate_left
  · simp only [Act.put,List.setIfInBounds_toArray,List.set_cons_zero,List.set_cons_succ,i64_w,i32_w]
    rfl
  refine pure_ (i:=7) (N:=some 22) (v:=?_) (a':=?_) #[true,true,true,true,true,true,true,true,false,false] rfl rfl (by kernel_rfl) (fun _ _ _ h=>h) (Or.inl ⟨by rfl,?_⟩) ?_ ?_
  rotate_left
  · intro w'
    go_simp
    with_reducible rfl
  rotate_left
  · simp only [Act.put,List.setIfInBounds_toArray,List.set_cons_zero,List.set_cons_succ,i64_w,i32_w]
    rfl
  refine pure_ (i:=8) (N:=some 10) (v:=?_) (a':=?_) #[true,true,true,true,true,true,true,true,true,false] rfl rfl (by kernel_rfl) (fun _ _ _ h=>h) (Or.inl ⟨by rfl,?_⟩) ?_ ?_
  rotate_left
  · intro w'
    go_simp
    with_reducible rfl
  rotate_left
  · simp only [Act.put,List.setIfInBounds_toArray,List.set_cons_zero,List.set_cons_succ,i64_w,i32_w]
    rfl
  refine pure_ (i:=9) (N:=some 11) (v:=?_) (a':=?_) #[true,true,true,true,true,true,true,true,true,true] rfl rfl (by kernel_rfl) (fun _ _ _ h=>h) (Or.inl ⟨by rfl,?_⟩) ?_ ?_
  rotate_left
  · intro w'
    go_simp
    with_reducible rfl
  rotate_left
  · simp only [Act.put,List.setIfInBounds_toArray,List.set_cons_zero,List.set_cons_succ,i64_w,i32_w]
    rfl
  refine done_ (by kernel_rfl) ?_
  have G1:=Aside0.mk (Kd.C_below (Kd.C_below H1.out HB.out) hf.out.1)
  have G3:=Aside0.mk (Kd.C_below (Kd.C_below H3.out HB.out) hf.out.1)
  have HBS:=Aside0.mk HB.out.size
  have HB:=Aside0.mk (below_step HB.out hf.out.1)
  have HF:=Aside0.mk hf.out.2
  clear hf HR HGO
  have h:=HH.out
  cases okb with
  | false =>
    simp only [Bool.false_eq_true,if_false,Option.some.injEq,Prod.mk.injEq] at h
    obtain ⟨rfl,rfl⟩:=h
    go_wp2
    go_ret2
    exact ⟨_,rfl,Kd.R_nil _ _ _ _ _,HB.out⟩
  | true =>
    obtain ⟨g2,cg,rfl,hbl,HR,hg2,hcg⟩:=HF.out rfl
    rw [if_pos rfl] at h
    have hb12:b'.length = 12:=by simpa using hbl
    obtain ⟨bb,hbb,h⟩:=Option.bind_eq_some_iff.1 h
    obtain ⟨⟨out,oko⟩,hout,h⟩:=Option.bind_eq_some_iff.1 h
    have hg3:w.heap.size ≤ g2:=Nat.le_trans HBS.out hg2
    have hcall:=impl_bare.walk g2 cg b' bb w W3 HB.out hg3 (by omega) HR (by rw [hb12];exact hbb)
    rw [hb12] at hcall
    have HO:=Aside0.mk hout
    have HL:=Aside0.mk h
    clear hbl HR hout hbb h HF
    try rw [show (List.replicate 12 ([]:List Int)).length = 12 from rfl]
    go_wp2_with (go_at_call 113;refine hcall.mono ?_)
    first|rintro e W4 rfl hf|rintro e W4 ⟨rfl,hf⟩
    obtain ⟨hB4,hI4,hbl,HR⟩:=hf.out
    have G1:=Aside0.mk (hI4 _ _ G1.out)
    have G3:=Aside0.mk (hI4 _ _ G3.out)
    have HB:=Aside0.mk hB4
    have hcall:=impl_apply.calls k (some ⟨g2,0,none⟩) cg bb A3 c3 l3 out oko W4 (ci_kd HR (by omega)) (by have h12:(List.replicate 12 ([]:List Int)).length = 12:=rfl;omega) G3.out hc3 HO.out
    rw [hbl] at hcall
    have HR4:=Aside0.mk HR
    clear hB4 hI4 hbl HR hf
    go_wp2_with (go_at_call 112;refine hcall.mono ?_)
    first|rintro e W5 v rfl hr hd|rintro e W5 ⟨v,rfl,hr,hd⟩
    obtain ⟨AX,cX,rfl⟩:=Kd.R_slice hr
    have hX:=Aside0.mk (Kd.R_reads' hr).2.2
    have hXc:=(Kd.R_reads' hr).2.1
    have HOR:=Aside0.mk (Kd.R_lower (base':=w.heap.size) hr HB.out.size)
    have G1:=Aside0.mk (Kd.C_below G1.out hd)
    have HB:=Aside0.mk (below_step HB.out hd)
    clear hr hd hcall
    have h:=HL.out
    cases oko with
    | false =>
      replace h:some (([]:List Int),false) = some (r1,r2):=by simpa using h
      obtain ⟨rfl,rfl⟩:=Prod.mk.inj (Option.some.inj h)
      go_wp2
      go_ret2
      exact ⟨_,rfl,Kd.R_nil _ _ _ _ _,HB.out⟩
    | true =>
      simp only [if_true] at h
      obtain ⟨gr,hgr,h⟩:=Option.bind_eq_some_iff.1 h
      have hcall:=impl_isGreater.calls k A1 c1 l1 AX cX out gr W5 G1.out hc1 hX.out hXc hgr
      have HL2:=Aside0.mk h
      clear hgr h
      go_wp2_with (go_at_call 114;refine hcall.mono ?_)
      first|rintro e W6 rfl hd|rintro e W6 ⟨rfl,hd⟩
      have hd:=hd.below
      have G1:=Aside0.mk (Kd.C_below G1.out hd)
      have hX:=Aside0.mk (Kd.C_below hX.out hd)
      have HOR:=Aside0.mk (Kd.R_below HOR.out hd)
      have HB:=Aside0.mk (below_step HB.out hd)
      clear hd hcall
      have h:=HL2.out
      cases gr with
      | false =>
        replace h:some (([]:List Int),false) = some (r1,r2):=by simpa using h
        obtain ⟨rfl,rfl⟩:=Prod.mk.inj (Option.some.inj h)
        go_wp2
        go_ret2
        exact ⟨_,rfl,Kd.R_nil _ _ _ _ _,HB.out⟩
      | true =>
        simp only [if_true] at h
        obtain ⟨q,hq,h⟩:=Option.bind_eq_some_iff.1 h
        have HQ:=Aside0.mk hq
        have HL3:=Aside0.mk h
        have hvl:out.length ≤ 9223372036854775807:=hX.out.2.1
        clear hq h
        go_wp2
        go_loopw [42] (fun v42 wr=>∃ i:Nat,i ≤ out.length ∧ v42 = .int .i64 i ∧ Hid (impl_Sign_rewrite.has k l1 (out.drop i) = some q) ∧ Hid (CI wr A1 l1) ∧ Hid (CI wr AX out) ∧ Hid (Kd.R (Kd.int .i64) 3 wr w.heap.size (fun _=>True) (.slice AX out.length cX) out) ∧ Hid (Below w.heap.size w wr)) (fun v42 _=>out.length - (intOf v42).toNat)
        case atStart=>exact ⟨0,Nat.zero_le _,rfl,HQ.out,G1.out,hX.out,HOR.out,HB.out⟩
        case round =>
          clear HQ G1 hX HOR HB
          obtain ⟨i,hi,rfl,hq,hG,hX,hO,hB⟩:=hrel
          unfold Hid at hq hG hX hO hB
          have HX:=Aside0.mk hX
          have HG:=Aside0.mk hG
          have HO:=Aside0.mk hO
          have HB:=Aside0.mk hB
          by_cases hp:i < out.length
          · rw [List.drop_eq_getElem_cons hp] at hq
            obtain ⟨av,eav,hvc⟩:=ci_elem hX i hp
            have hrd:rd out (i:Int) = out[i]:=by unfold rd;simp [List.getD_eq_getElem?_getD,hp]
            rw [hrd] at hvc
            subst eav
            generalize out[i] = n at hq hvc hrd
            clear hrd
            simp only [impl_Sign_rewrite.has] at hq
            by_cases gn:n < 0
            · rw [if_pos gn] at hq
              obtain ⟨hh,h1,hq⟩:=Option.bind_eq_some_iff.1 hq
              have hcall:=slices_Contains_int_int.calls k A1 c1 l1 n hh wr hG hc1 h1
              have HQ:=Aside0.mk hq
              clear hX hG hO hB hq h1
              go_wp2_with (go_at_call 115;refine hcall.mono ?_)
              first|rintro e W7 rfl hd|rintro e W7 ⟨rfl,hd⟩
              have hd:=hd.below
              have HX:=Aside0.mk (Kd.C_below HX.out hd)
              have HG:=Aside0.mk (Kd.C_below HG.out hd)
              have HO:=Aside0.mk (Kd.R_below HO.out hd)
              have HB:=Aside0.mk (below_step HB.out hd)
              clear hd hcall
              have hq:=HQ.out
              cases hh with
              | true =>
                rw [if_pos rfl] at hq
                have HQ:=Aside0.mk hq
                clear hq
                go_wp2
                go_roundw
                case rel=>exact ⟨i + 1,by omega,rfl,HQ.out,HG.out,HX.out,HO.out,HB.out⟩
                case measure=>simp [intOf];omega
              | false =>
                rw [if_neg (by decide)] at hq
                obtain rfl:=Option.some.inj hq
                have h:=HL3.out
                simp only [Bool.false_eq_true,if_false,Option.some.injEq,Prod.mk.injEq] at h
                obtain ⟨rfl,rfl⟩:=h
                clear hq
                go_wp2
                go_ret2
                exact ⟨_,rfl,Kd.R_nil _ _ _ _ _,HB.out⟩
            · rw [if_neg gn] at hq
              have HQ:=Aside0.mk hq
              clear hX hG hO hB hq
              go_wp2
              go_roundw
              case rel=>exact ⟨i + 1,by omega,rfl,HQ.out,HG.out,HX.out,HO.out,HB.out⟩
              case measure=>simp [intOf];omega
          · obtain rfl:i = out.length:=by omega
            rw [List.drop_length] at hq
            simp only [impl_Sign_rewrite.has,Option.some.injEq] at hq
            subst hq
            have h:=HL3.out
            rw [if_pos rfl] at h
            obtain ⟨rfl,rfl⟩:=Prod.mk.inj (Option.some.inj h)
            clear hX hG hO hB h
            go_wp2
            go_ret2
            exact ⟨_,rfl,HO.out,HB.out⟩
theorem impl_Sign_match.mono_go (s t p:List Int):∀ (b:List (List Int)) (j k:Nat),LeO (impl_Sign_match.go k s t p b j) (impl_Sign_match.go (k + 1) s t p b j):=by
  induction p with
  | nil=>intro b j k;exact LeO.refl _
  | cons n p ih =>
    intro b j k
    simp only [impl_Sign_match.go]
    have m0:=@ih
    have m1:=@impl_Sign_end.mono
    have m2:=@slices_Equal_int_int.mono
    exact mO
theorem impl_Sign_rewrite.mono_has (part vs:List Int):∀ k,LeO (impl_Sign_rewrite.has k part vs) (impl_Sign_rewrite.has (k + 1) part vs):=by
  induction vs with
  | nil=>intro k;exact LeO.refl _
  | cons v t ih =>
    intro k
    simp only [impl_Sign_rewrite.has]
    have m0:=@ih
    have m1:=@slices_Contains_int_int.mono
    exact mO
theorem impl_Sign_rewrite.mono (a0 a1 a2 a3:List Int) (k:Nat):LeO (impl_Sign_rewrite.f k a0 a1 a2 a3) (impl_Sign_rewrite.f (k + 1) a0 a1 a2 a3):=by
  unfold impl_Sign_rewrite.f
  have m0:=@impl_Sign_match.mono_go
  have m1:=@impl_Sign_rewrite.mono_has
  have m2:=@impl_apply.mono
  have m3:=@impl_isGreater.mono
  exact mO
set_option maxHeartbeats 8000000 in
set_option maxRecDepth 1000000 in
theorem impl_Lit_side.walk (p:Bool) (A1:Option Addr) (n1 c1:Nat) (A2:Option Addr) (n2 c2:Nat) (n:Int) (w:World) :
    Calls Try.prog 79 #[.agg #[.bool p,.slice A1 n1 c1,.slice A2 n2 c2],.int .i64 n] w fun e w'=>e = .returned (if n = 0 then .tuple #[.slice A1 n1 c1,.slice A2 n2 c2] else .tuple #[.slice A2 n2 c2,.slice A1 n1 c1]) ∧ Aside0 (Below w.heap.size w w'):=by
  have hb:=heap_alloc_new w (.cells #[.bool p,.slice A1 n1 c1,.slice A2 n2 c2] 65)
  have HB:Aside0 (Below w.heap.size w (w.alloc (.cells #[.bool p,.slice A1 n1 c1,.slice A2 n2 c2] 65))):=⟨Below.alloc (Below.refl _ _) (Nat.le_refl _) _⟩
  go_enter Try.func79,Try.ntmps79
  go_upto_region 1 with fail
  generalize w.alloc (.cells #[.bool p,.slice A1 n1 c1,.slice A2 n2 c2] 65) = W0 at hb HB ⊢
  generalize w.heap.size = g at hb ⊢
  have h1:W0.cell? ⟨g,1,none⟩ = some (.slice A1 n1 c1):=(blk_cell hb 1).trans rfl
  have h2:W0.cell? ⟨g,2,none⟩ = some (.slice A2 n2 c2):=(blk_cell hb 2).trans rfl
  clear hb
  by_cases hn:n = 0
  · subst hn
    go_upto_region 2 with fail
    go_region
    go_wp2
    go_ret2
    exact ⟨rfl,⟨below_drew1 HB.out⟩⟩
  · go_upto_region 3 with fail
    go_region
    go_wp2
    go_ret2
    exact ⟨by first|rfl|(rw [if_neg hn];rfl),⟨below_drew1 HB.out⟩⟩
def impl_Sign_step.sideG (k:Nat) (l0 part:List Int) (x:S65):Nat → Nat → Option (Option (List Int))
  | 0,_=>some none
  | m + 1,n=>(impl_Sign_rewrite.f k l0 part (if n = 0 then x.f1 else x.f2) (if n = 0 then x.f2 else x.f1)).bind fun y=>if y.2 = true then some (some y.1) else impl_Sign_step.sideG k l0 part x m (n + 1)
def impl_Sign_step.sides (k:Nat) (l0 part:List Int) (x:S65):Option (Option (List Int)):=impl_Sign_step.sideG k l0 part x 2 0
def impl_Sign_step.units (k:Nat) (l0 part:List Int):List S65 → Nat → Option (Option (List Int × Nat))
  | [],_=>some none
  | x :: t,u=>(impl_Sign_step.sides k l0 part x).bind fun o=>match o with
    | some y=>some (some (y,u))
    | none=>impl_Sign_step.units k l0 part t (u + 1)
def impl_Sign_step.at (k:Nat) (l0 t:List Int) (l2:List S65):Nat → Option (List Int × Int × Int × Bool)
  | 0=>some ([],0,0,false)
  | a + 1=>(impl_Sign_part.f k l0 t (a:Int)).bind fun part=>(impl_Sign_step.units k l0 part l2 0).bind fun o=>match o with
    | some y=>(impl_Sign_replace.f k l0 t (a:Int) y.1).bind fun r=>some (r,(a:Int),(y.2:Int),true)
    | none=>impl_Sign_step.at k l0 t l2 a
def impl_Sign_step.f (k:Nat) (l0_0 l1:List Int) (l2:List (S65)):Option (List Int × Int × Int × Bool):=if l1.length ≤ 1000000 ∧ l2.length ≤ 1000000 then impl_Sign_step.at k l0_0 l1 l2 l1.length else none
set_option maxHeartbeats 16000000 in
set_option maxRecDepth 1000000 in
theorem impl_Sign_step.calls (k:Nat) (A0_0:Option Addr) (c0_0:Nat) (l0_0:List Int) (A1:Option Addr) (c1:Nat) (l1:List Int) (A2:Option Addr) (c2:Nat) (l2:List (S65)) (r1:List Int) (r2:Int) (r3:Int) (r4:Bool) (w:World) (hr0_0:Kd.C (Kd.int .i64) w A0_0 l0_0.length l0_0) (hc0_0:l0_0.length ≤ c0_0) (hr1:Kd.C (Kd.int .i64) w A1 l1.length l1) (hc1:l1.length ≤ c1) (hr2:Kd.C k65 w A2 l2.length l2) (hc2:l2.length ≤ c2) (h:impl_Sign_step.f k l0_0 l1 l2 = some (r1,r2,r3,r4)) :
    Calls Try.prog 46 #[.agg #[.slice A0_0 l0_0.length c0_0],.slice A1 l1.length c1,.slice A2 l2.length c2] w fun e w'=>∃ v0_:Value,e = .returned (.tuple #[v0_,.int .i64 r2,.int .i64 r3,.bool r4]) ∧ Kd.R (Kd.int .i64) 3 w' w.heap.size (fun _=>True) v0_ r1 ∧ Below w.heap.size w w':=by
  unfold impl_Sign_step.f at h
  split at h
  rotate_left
  · cases h
  rename_i hln
  have H0:=Aside0.mk hr0_0
  have H1:=Aside0.mk hr1
  have H2:=Aside0.mk hr2
  have HH:=Aside0.mk h
  clear hr0_0 hr1 hr2 h
  have bx:Aside0 (Bx (w.alloc (.cells #[.slice A0_0 l0_0.length c0_0] 30)) w.heap.size (.slice A0_0 l0_0.length c0_0) 30):=⟨heap_alloc_new w _⟩
  have HB:Aside0 (Below w.heap.size w (w.alloc (.cells #[.slice A0_0 l0_0.length c0_0] 30))):=⟨Below.alloc (Below.refl _ _) (Nat.le_refl _) _⟩
  go_enter Try.func46,Try.ntmps46
  go_upto_region 1 with fail
  generalize w.alloc (.cells #[.slice A0_0 l0_0.length c0_0] 30) = W0 at bx HB ⊢
  go_wp2
  go_loopw [10] (fun v10 wr=>∃ a:Nat,a ≤ l1.length ∧ v10 = .int .i64 ((a:Int) - 1) ∧ Hid (impl_Sign_step.at k l0_0 l1 l2 a = some (r1,r2,r3,r4)) ∧ Hid (Bx wr w.heap.size (.slice A0_0 l0_0.length c0_0) 30) ∧ Hid (Below w.heap.size w wr)) (fun v10 _=>(intOf v10 + 1).toNat)
  case atStart=>exact ⟨l1.length,Nat.le_refl _,by rfl,HH.out,bx.out,HB.out⟩
  case round =>
    clear HH bx HB
    obtain ⟨a,ha,rfl,hgo,hbx,hB⟩:=hrel
    unfold Hid at hgo hbx hB
    cases a with
    | zero =>
      simp only [impl_Sign_step.at,Option.some.injEq,Prod.mk.injEq] at hgo
      obtain ⟨rfl,rfl,rfl,rfl⟩:=hgo
      have HB:=Aside0.mk hB
      clear hbx hB
      go_wp2
      ((try simp only [Exit.inBlock,Exit.then]);refine bodyPost_ret (results_tmp4 rfl _ _ _) rfl ?_)
      exact ⟨_,rfl,Kd.R_nil _ _ _ _ _,HB.out⟩
    | succ a =>
      simp only [impl_Sign_step.at] at hgo
      obtain ⟨part,hpart,hgo⟩:=Option.bind_eq_some_iff.1 hgo
      obtain ⟨o,ho,hgo⟩:=Option.bind_eq_some_iff.1 hgo
      have hcall:=impl_Sign_part.calls k A0_0 c0_0 l0_0 A1 c1 l1 (a:Int) part wr (Kd.C_below H0.out hB) hc0_0 (Kd.C_below H1.out hB) hc1 hpart
      have e1:((a + 1:Nat):Int) - 1 = (a:Int):=by omega
      rw [e1]
      have hbc:=Bx.cell hbx
      have BX:=Aside0.mk hbx
      have HB:=Aside0.mk hB
      have HO:=Aside0.mk ho
      have HGO:=Aside0.mk hgo
      clear hbx hB hpart ho hgo
      go_wp2_with (go_at_call 78;refine hcall.mono ?_)
      first|rintro e W1 v rfl hr hd|rintro e W1 ⟨v,rfl,hr,hd⟩
      obtain ⟨AP,cP,rfl⟩:=Kd.R_slice hr
      have HP:=Aside0.mk (Kd.R_reads' hr).2.2
      have hPc:=(Kd.R_reads' hr).2.1
      have BX:=Aside0.mk (BX.out.below hd)
      have HB:=Aside0.mk (below_step HB.out hd)
      have hl2:l2.length ≤ 1000000:=hln.2
      clear hr hd hbc hcall
      go_wp2
      go_loopw [32] (fun v32 wr=>∃ u:Nat,u ≤ l2.length ∧ v32 = .int .i64 u ∧ Hid (impl_Sign_step.units k l0_0 part (l2.drop u) u = some o) ∧ Hid (CI wr AP part) ∧ Hid (Bx wr w.heap.size (.slice A0_0 l0_0.length c0_0) 30) ∧ Hid (Below w.heap.size w wr)) (fun v32 _=>l2.length - (intOf v32).toNat)
      case atStart=>exact ⟨0,Nat.zero_le _,rfl,HO.out,HP.out,BX.out,HB.out⟩
      case round =>
        clear HO HP BX HB
        obtain ⟨u,hu,rfl,hun,hP,hbx,hB⟩:=hrel
        unfold Hid at hun hP hbx hB
        by_cases hp:u < l2.length
        · rw [List.drop_eq_getElem_cons hp] at hun
          simp only [impl_Sign_step.units] at hun
          obtain ⟨ad,B1,d1,B2,d2,ead,k0,k1,k2,l1_,i1,l2_,i2⟩:=at_T65 (Kd.C_below H2.out hB) (u:Int) (by omega) (by omega)
          have hrd:rd_T65 l2 (u:Int) = l2[u]:=by unfold rd_T65;simp [List.getD_eq_getElem?_getD,hp]
          rw [hrd] at k0 k1 k2 l1_ i1 l2_ i2
          rw [Int.toNat_natCast] at k0 k1 k2
          subst ead
          generalize l2[u] = x at hun k0 k1 k2 l1_ i1 l2_ i2 hrd
          clear hrd
          obtain ⟨os,hs,hun⟩:=Option.bind_eq_some_iff.1 hun
          unfold impl_Sign_step.sides at hs
          have HP:=Aside0.mk hP
          have BX:=Aside0.mk hbx
          have HB:=Aside0.mk hB
          have HUN:=Aside0.mk hun
          have HS:=Aside0.mk hs
          have I1:=Aside0.mk i1
          have I2:=Aside0.mk i2
          clear hP hbx hB hun hs i1 i2
          go_upto_region 8 with fail
          have ha:Below wr.heap.size wr (wr.alloc (.cells #[.bool x.f0,.slice B1 x.f1.length d1,.slice B2 x.f2.length d2] 65)):=Below.alloc (Below.refl _ _) (Nat.le_refl _) _
          have HU:=Aside0.mk (heap_alloc_new wr (.cells #[.bool x.f0,.slice B1 x.f1.length d1,.slice B2 x.f2.length d2] 65))
          have HP:=Aside0.mk (Kd.C_below HP.out ha)
          have BX:=Aside0.mk (BX.out.below ha)
          have J1:=Aside0.mk (Kd.C_below I1.out ha)
          have J2:=Aside0.mk (Kd.C_below I2.out ha)
          have HB:=Aside0.mk (below_step HB.out ha)
          clear ha k0 k1 k2 I1 I2
          generalize wr.alloc (.cells #[.bool x.f0,.slice B1 x.f1.length d1,.slice B2 x.f2.length d2] 65) = W2 at HU HP BX J1 J2 HB ⊢
          generalize wr.heap.size = gu at HU ⊢
          go_wp2
          go_loopw [37] (fun v14 wr=>∃ n m:Nat,n + m = 2 ∧ v14 = .int .i64 n ∧ Hid (impl_Sign_step.sideG k l0_0 part x m n = some os) ∧ Hid (CI wr AP part) ∧ Hid (Bx wr w.heap.size (.slice A0_0 l0_0.length c0_0) 30) ∧ Hid (wr.heap[gu]? = some (.cells #[.bool x.f0,.slice B1 x.f1.length d1,.slice B2 x.f2.length d2] 65 (0,0))) ∧ Hid (CI wr B1 x.f1) ∧ Hid (CI wr B2 x.f2) ∧ Hid (Below w.heap.size w wr)) (fun v14 _=>2 - (intOf v14).toNat)
          case atStart=>exact ⟨0,2,rfl,rfl,HS.out,HP.out,BX.out,HU.out,J1.out,J2.out,HB.out⟩
          case round =>
            clear HS HP BX HU J1 J2 HB
            obtain ⟨n,m,hnm,rfl,hsg,hP,hbx,hU,j1,j2,hB⟩:=hrel
            unfold Hid at hsg hP hbx hU j1 j2 hB
            have HP:=Aside0.mk hP
            have BX:=Aside0.mk hbx
            have HU:=Aside0.mk hU
            have J1:=Aside0.mk j1
            have J2:=Aside0.mk j2
            have HB:=Aside0.mk hB
            have q0:wr.cell? ⟨gu,0,none⟩ = some (.bool x.f0):=(blk_cell hU 0).trans rfl
            have q1:wr.cell? ⟨gu,1,none⟩ = some (.slice B1 x.f1.length d1):=(blk_cell hU 1).trans rfl
            have q2:wr.cell? ⟨gu,2,none⟩ = some (.slice B2 x.f2.length d2):=(blk_cell hU 2).trans rfl
            clear j1 j2
            obtain ⟨rfl,rfl⟩|⟨rfl,rfl⟩|⟨rfl,rfl⟩:(n = 0 ∧ m = 2) ∨ (n = 1 ∧ m = 1) ∨ (n = 2 ∧ m = 0):=by omega
            · simp only [impl_Sign_step.sideG] at hsg
              obtain ⟨y,hy,hsg⟩:=Option.bind_eq_some_iff.1 hsg
              have hcall:=impl_Lit_side.walk x.f0 B1 x.f1.length d1 B2 x.f2.length d2 0 wr
              have HSG:=Aside0.mk hsg
              have HY:=Aside0.mk hy
              clear hsg hy hP hbx hB hU
              go_wp2_with (go_at_call 79;refine hcall.mono ?_)
              first|rintro e W3 rfl hd|rintro e W3 ⟨rfl,hd⟩
              have hd:=hd.out
              have HU:=Aside0.mk ((hd.block gu (Array.getElem?_eq_some_iff.1 HU.out).1).trans HU.out)
              have HP:=Aside0.mk (Kd.C_below HP.out hd)
              have BX:=Aside0.mk (BX.out.below hd)
              have J1:=Aside0.mk (Kd.C_below J1.out hd)
              have J2:=Aside0.mk (Kd.C_below J2.out hd)
              have HB:=Aside0.mk (below_step HB.out hd)
              have hbc:=Bx.cell BX.out
              obtain ⟨yo,yb⟩:=y
              have hy:=HY.out
              have hcall:=impl_Sign_rewrite.calls k A0_0 c0_0 l0_0 AP cP part B1 d1 x.f1 B2 d2 x.f2 yo yb W3 (Kd.C_below H0.out HB.out) hc0_0 HP.out hPc J1.out l1_ J2.out l2_ hy
              clear hd hy HY q0 q1 q2
              go_wp2_with (go_at_call 80;refine hcall.mono ?_)
              first|rintro e W4 v rfl hr hd|rintro e W4 ⟨v,rfl,hr,hd⟩
              obtain ⟨AY,cY,rfl⟩:=Kd.R_slice hr
              have HYY:=Aside0.mk (Kd.R_reads' hr).2.2
              have hYc:=(Kd.R_reads' hr).2.1
              have HU:=Aside0.mk ((hd.block gu (Array.getElem?_eq_some_iff.1 HU.out).1).trans HU.out)
              have HP:=Aside0.mk (Kd.C_below HP.out hd)
              have BX:=Aside0.mk (BX.out.below hd)
              have J1:=Aside0.mk (Kd.C_below J1.out hd)
              have J2:=Aside0.mk (Kd.C_below J2.out hd)
              have HB:=Aside0.mk (below_step HB.out hd)
              clear hr hd hcall hbc
              have hbc:=Bx.cell BX.out
              have hsg:=HSG.out
              cases yb with
              | true =>
                simp only [if_true,Option.some.injEq] at hsg
                subst hsg
                have hun:=HUN.out
                simp only [Option.some.injEq] at hun
                subst hun
                have hgo:=HGO.out
                simp only at hgo
                obtain ⟨rr,hrr,hgo⟩:=Option.bind_eq_some_iff.1 hgo
                simp only [Option.some.injEq,Prod.mk.injEq] at hgo
                obtain ⟨rfl,rfl,rfl,rfl⟩:=hgo
                have hcall:=impl_Sign_replace.calls k A0_0 c0_0 l0_0 (fun k_=>k_ < W4.heap.size) A1 c1 l1 (a:Int) (fun k_=>k_ < W4.heap.size) AY cY yo rr W4 (Kd.C_below H0.out HB.out) hc0_0 (Kd.V_mk hc1 (Kd.C_F (Kd.heap_int _) (Kd.C_below H1.out HB.out))) (Kd.V_mk hYc (Kd.C_F (Kd.heap_int _) HYY.out)) hrr
                clear hrr
                go_wp2_with (go_at_call 81;refine hcall.mono ?_)
                first|rintro e W5 v rfl hr hd|rintro e W5 ⟨v,rfl,hr,hd⟩
                have HOR:=Aside0.mk (Kd.R_mono (ok':=fun _=>True) (Kd.R_lower (base':=w.heap.size) hr HB.out.size) (fun _ _=>trivial))
                have HB:=Aside0.mk (below_step HB.out hd)
                clear hr hd hcall
                go_wp2
                ((try simp only [Exit.inBlock,Exit.then]);refine bodyPost_ret (results_tmp4 rfl _ _ _) rfl ?_)
                exact ⟨_,rfl,HOR.out,HB.out⟩
              | false =>
                simp only [Bool.false_eq_true,if_false] at hsg
                have HSG2:=Aside0.mk hsg
                clear hsg
                go_wp2
                go_roundw
                case rel=>exact ⟨1,1,by omega,rfl,HSG2.out,HP.out,BX.out,HU.out,J1.out,J2.out,HB.out⟩
                case measure=>simp [intOf]
            · simp only [impl_Sign_step.sideG] at hsg
              obtain ⟨y,hy,hsg⟩:=Option.bind_eq_some_iff.1 hsg
              have hcall:=impl_Lit_side.walk x.f0 B1 x.f1.length d1 B2 x.f2.length d2 1 wr
              have HSG:=Aside0.mk hsg
              have HY:=Aside0.mk hy
              clear hsg hy hP hbx hB hU
              go_wp2_with (go_at_call 79;refine hcall.mono ?_)
              first|rintro e W3 rfl hd|rintro e W3 ⟨rfl,hd⟩
              have hd:=hd.out
              have HU:=Aside0.mk ((hd.block gu (Array.getElem?_eq_some_iff.1 HU.out).1).trans HU.out)
              have HP:=Aside0.mk (Kd.C_below HP.out hd)
              have BX:=Aside0.mk (BX.out.below hd)
              have J1:=Aside0.mk (Kd.C_below J1.out hd)
              have J2:=Aside0.mk (Kd.C_below J2.out hd)
              have HB:=Aside0.mk (below_step HB.out hd)
              have hbc:=Bx.cell BX.out
              obtain ⟨yo,yb⟩:=y
              have hy:=HY.out
              have hcall:=impl_Sign_rewrite.calls k A0_0 c0_0 l0_0 AP cP part B2 d2 x.f2 B1 d1 x.f1 yo yb W3 (Kd.C_below H0.out HB.out) hc0_0 HP.out hPc J2.out l2_ J1.out l1_ hy
              clear hd hy HY q0 q1 q2
              go_wp2_with (go_at_call 80;refine hcall.mono ?_)
              first|rintro e W4 v rfl hr hd|rintro e W4 ⟨v,rfl,hr,hd⟩
              obtain ⟨AY,cY,rfl⟩:=Kd.R_slice hr
              have HYY:=Aside0.mk (Kd.R_reads' hr).2.2
              have hYc:=(Kd.R_reads' hr).2.1
              have HU:=Aside0.mk ((hd.block gu (Array.getElem?_eq_some_iff.1 HU.out).1).trans HU.out)
              have HP:=Aside0.mk (Kd.C_below HP.out hd)
              have BX:=Aside0.mk (BX.out.below hd)
              have J1:=Aside0.mk (Kd.C_below J1.out hd)
              have J2:=Aside0.mk (Kd.C_below J2.out hd)
              have HB:=Aside0.mk (below_step HB.out hd)
              clear hr hd hcall hbc
              have hbc:=Bx.cell BX.out
              have hsg:=HSG.out
              cases yb with
              | true =>
                simp only [if_true,Option.some.injEq] at hsg
                subst hsg
                have hun:=HUN.out
                simp only [Option.some.injEq] at hun
                subst hun
                have hgo:=HGO.out
                simp only at hgo
                obtain ⟨rr,hrr,hgo⟩:=Option.bind_eq_some_iff.1 hgo
                simp only [Option.some.injEq,Prod.mk.injEq] at hgo
                obtain ⟨rfl,rfl,rfl,rfl⟩:=hgo
                have hcall:=impl_Sign_replace.calls k A0_0 c0_0 l0_0 (fun k_=>k_ < W4.heap.size) A1 c1 l1 (a:Int) (fun k_=>k_ < W4.heap.size) AY cY yo rr W4 (Kd.C_below H0.out HB.out) hc0_0 (Kd.V_mk hc1 (Kd.C_F (Kd.heap_int _) (Kd.C_below H1.out HB.out))) (Kd.V_mk hYc (Kd.C_F (Kd.heap_int _) HYY.out)) hrr
                clear hrr
                go_wp2_with (go_at_call 81;refine hcall.mono ?_)
                first|rintro e W5 v rfl hr hd|rintro e W5 ⟨v,rfl,hr,hd⟩
                have HOR:=Aside0.mk (Kd.R_mono (ok':=fun _=>True) (Kd.R_lower (base':=w.heap.size) hr HB.out.size) (fun _ _=>trivial))
                have HB:=Aside0.mk (below_step HB.out hd)
                clear hr hd hcall
                go_wp2
                ((try simp only [Exit.inBlock,Exit.then]);refine bodyPost_ret (results_tmp4 rfl _ _ _) rfl ?_)
                exact ⟨_,rfl,HOR.out,HB.out⟩
              | false =>
                simp only [Bool.false_eq_true,if_false] at hsg
                have HSG2:=Aside0.mk hsg
                clear hsg
                go_wp2
                go_roundw
                case rel=>exact ⟨2,0,by omega,rfl,HSG2.out,HP.out,BX.out,HU.out,J1.out,J2.out,HB.out⟩
                case measure=>simp [intOf]
            · simp only [impl_Sign_step.sideG,Option.some.injEq] at hsg
              subst hsg
              have hun:=HUN.out
              simp only at hun
              have HUN2:=Aside0.mk hun
              clear hun hP hbx hB hU q0 q1 q2
              go_wp2
              go_roundw
              case rel=>exact ⟨u + 1,by omega,rfl,HUN2.out,HP.out,BX.out,HB.out⟩
              case measure=>simp [intOf];omega
        · obtain rfl:u = l2.length:=by omega
          rw [List.drop_length] at hun
          simp only [impl_Sign_step.units,Option.some.injEq] at hun
          subst hun
          have hgo:=HGO.out
          simp only at hgo
          have HGO2:=Aside0.mk hgo
          have BX:=Aside0.mk hbx
          have HB:=Aside0.mk hB
          clear hgo hP hbx hB
          go_wp2
          go_roundw
          case rel=>exact ⟨a,by omega,rfl,HGO2.out,BX.out,HB.out⟩
          case measure=>simp [intOf]
theorem impl_Sign_step.mono_side (l0 part:List Int) (x:S65) (m:Nat):∀ n k,LeO (impl_Sign_step.sideG k l0 part x m n) (impl_Sign_step.sideG (k + 1) l0 part x m n):=by
  induction m with
  | zero=>intro n k;exact LeO.refl _
  | succ m ih =>
    intro n k
    simp only [impl_Sign_step.sideG]
    refine LeO.bind (impl_Sign_rewrite.mono _ _ _ _ _) (fun _=>LeO.ite (LeO.refl _) (ih _ _))
theorem impl_Sign_step.mono_units (l0 part:List Int) (l:List S65):∀ u k,LeO (impl_Sign_step.units k l0 part l u) (impl_Sign_step.units (k + 1) l0 part l u):=by
  induction l with
  | nil=>intro u k;exact LeO.refl _
  | cons x t ih =>
    intro u k
    simp only [impl_Sign_step.units,impl_Sign_step.sides]
    refine LeO.bind (impl_Sign_step.mono_side _ _ _ _ _ _) (fun o=>?_)
    cases o with
    | none=>exact ih _ _
    | some y=>exact LeO.refl _
theorem impl_Sign_step.mono_at (l0 t:List Int) (l2:List S65) (a:Nat):∀ k,LeO (impl_Sign_step.at k l0 t l2 a) (impl_Sign_step.at (k + 1) l0 t l2 a):=by
  induction a with
  | zero=>intro k;exact LeO.refl _
  | succ a ih =>
    intro k
    simp only [impl_Sign_step.at]
    refine LeO.bind (impl_Sign_part.mono _ _ _ _) (fun part=>LeO.bind (impl_Sign_step.mono_units _ _ _ _ _) (fun o=>?_))
    cases o with
    | none=>exact ih _
    | some y=>exact LeO.bind (impl_Sign_replace.mono _ _ _ _ _) (fun _=>LeO.refl _)
theorem impl_Sign_step.mono (a0 a1:List Int) (a2:List S65) (k:Nat):LeO (impl_Sign_step.f k a0 a1 a2) (impl_Sign_step.f (k + 1) a0 a1 a2):=by
  unfold impl_Sign_step.f
  exact LeO.ite (impl_Sign_step.mono_at _ _ _ _ _) (LeO.none _)

end Go.Proofs.Ytlgnanbnicmdaab.QFnExactNormalClause
