-- Written by this session's own program (wip/x/xprint.py, over the kit's printer); Lean checks it.
import Derived.Test.YtmgkflkfoccgkabQFnHuffmanx0
import Derived.Test.YtmgkflkfoccgkabQFnHuffmanx1
import Derived.Test.YtmgkflkfoccgkabQFnHuffmanx2
import Derived.Test.YtmgkflkfoccgkabQFnHuffmanx3
namespace Go.Proofs.Ytmgkflkfoccgkab.QFnHuffman
open Go.RowKit Go.Proofs.YtmgkflkfoccgkabW.PrintWords Go.Proofs.YtmgkflkfoccgkabW.PrintLast Go.Proofs.YtmgkflkfoccgkabW.PrintMore
attribute [local go_sem] max2_int min2_int max_two min_two max_three min_three max_four min_four   -- for this text's walks alone
set_option linter.unusedVariables false
set_option linter.unusedSimpArgs false

/-! ### impl_LengthsOf: function 28, by a walk of this session's own -/
/-! ### slices.Sort over a row of whole numbers of the call's own, by the kit's contract -/
open Go.Shelf in
shelf_lay Lays.n189 Nm 189 at Try as Try.laysSort
theorem Try.fSort:Try.laysSort_ren.f 189 = 68:=by kernel_rfl
theorem Try.fBits:Try.laysSort_ren.f 125 = 95:=by kernel_rfl
theorem Try.bitsLen (x:Int) (w:World) (h0:0 ≤ x) (h1:x ≤ 18446744073709551615):Calls Try.prog 95 #[.int .u64 x] w fun e w'=>e = .returned (.int .i64 (Lib.bitLen x.toNat)) ∧ w' = w:=by
  have h:=calls_of_every_depth fun D=>AnyS.bits_LenIn (ρ:=Try.laysSort_ren) { Try.laysSort with } D x w h0 h1
  rw [Try.fBits] at h
  exact h
theorem Try.ins0 (A:Option Addr) (c:Nat) (w:World):Calls Try.prog 117 #[.slice A 0 c,.int .i64 0,.int .i64 0] w fun e w'=>e = .returned (.tuple #[]) ∧ Aside0 (Below w.heap.size w w'):=by
  have HB:=Aside0.mk (Below.refl w.heap.size w)
  go_enter Try.func117,Try.ntmps117
  obtain ⟨W0,hW0⟩:∃ W,W = w:=⟨_,rfl⟩
  rw [← hW0] at HB ⊢
  go_wp2
  go_loopw [6] (fun v6 wr=>v6 = .int .i64 1 ∧ Hid (Below w.heap.size w wr)) (fun _ _=>0)
  case atStart=>exact ⟨rfl,hW0 ▸ HB.out⟩
  case round =>
    clear HB
    obtain ⟨rfl,hB⟩:=hrel
    unfold Hid at hB
    have HB:=Aside0.mk hB
    clear hB
    go_wp2
    go_end0
    exact ⟨rfl,hW0 ▸ HB⟩
theorem Try.pdq0 (A:Option Addr) (c:Nat) (n:Int) (w:World):Calls Try.prog 97 #[.slice A 0 c,.int .i64 0,.int .i64 0,.int .i64 n] w fun e w'=>e = .returned (.tuple #[]) ∧ Aside0 (Below w.heap.size w w'):=by
  obtain ⟨W0,hW0⟩:∃ W,W = w:=⟨_,rfl⟩
  have HB:=Aside0.mk (hW0 ▸ Below.refl w.heap.size w:Below w.heap.size w W0)
  go_enter Try.func97,Try.ntmps97
  rw [← hW0] at HB ⊢
  go_wp2
  go_loopw [1,2] (fun v1 v2 wr=>v1 = .int .i64 0 ∧ v2 = .int .i64 0 ∧ Hid (Below W0.heap.size W0 wr)) (fun _ _ _=>0)
  case atStart=>exact ⟨rfl,rfl,HB.out⟩
  case round =>
    clear HB
    obtain ⟨rfl,rfl,hB⟩:=hrel
    unfold Hid at hB
    have HB:=Aside0.mk hB
    clear hB
    go_wp2_with (go_at_call 117;refine (Try.ins0 A c _).mono ?_)
    first|rintro e W1 rfl hd|rintro e W1 ⟨rfl,hd⟩
    have HB:=Aside0.mk (below_step HB.out hd.out)
    clear hd
    go_wp2
    ((try simp only [Exit.inBlock,Exit.then]);refine bodyPost_ret (results_none rfl _ _ _) rfl ?_)
    exact ⟨rfl,HB⟩
theorem Try.sort0 (A:Option Addr) (c:Nat) (w:World):Calls Try.prog 68 #[.slice A 0 c] w fun e w'=>e = .returned (.tuple #[]) ∧ Aside0 (Below w.heap.size w w'):=by
  obtain ⟨W0,hW0⟩:∃ W,W = w:=⟨_,rfl⟩
  rw [← hW0]
  go_enter Try.func68,Try.ntmps68
  go_wp2_with (go_at_call 95;refine (Try.bitsLen 0 _ (by omega) (by omega)).mono ?_)
  rintro e W1 ⟨rfl,hq⟩
  go_wp2_with (go_at_call 97;refine (Try.pdq0 A c _ _).mono ?_)
  first|rintro e W2 rfl hd|rintro e W2 ⟨rfl,hd⟩
  go_wp2
  go_end0
  rw [hW0]
  exact ⟨rfl,hd⟩
theorem below_sorted {B:Nat} {W w:World} (hB:Below B W w) {g n:Nat} {os:Array Obj} (d:Array Int) (hg:B ≤ g) (hs:B ≤ w.heap.size):Below B W (Go.Sort.grow (Go.Sort.putRow (Value.int .i64) (Go.Sort.ahead w n) g 0 d) os):=by
  have h:=grownBy_sortedI (w:=w) (g:=g) (n:=n) (os:=os) d
  exact hB.trans ⟨h.os,h.tape,h.output,h.size,fun k hk=>h.block k (by omega) (by intro e;cases e;omega)⟩
theorem Try.sort_walk (v:Value) (xs:List Int) (ok:Nat → Prop) (w0 w:World) (hB:Below w0.heap.size w0 w) (h:(Kd.int .i64).R 3 w w0.heap.size ok v xs) (hn:xs.length < 4611686018427387904) :
    Calls Try.prog 68 #[v] w fun x w'=>x = .returned (.tuple #[]) ∧ Aside0 ((Kd.int .i64).R 3 w' w0.heap.size ok v (xs.mergeSort fun a b=>decide (a ≤ b)) ∧ Below w0.heap.size w0 w'):=by
  rcases Nat.eq_zero_or_pos xs.length with h0|h0
  · obtain rfl:=List.eq_nil_of_length_eq_zero h0
    obtain ⟨A,c,rfl⟩:=Kd.R_slice h
    refine (Try.sort0 A c w).mono ?_
    rintro e w' ⟨rfl,hd⟩
    exact ⟨rfl,⟨by rw [List.mergeSort_nil];exact Kd.R_below h hd.out,below_step hB hd.out⟩⟩
  · have hok:=h.1
    have ho:=Kd.own_of_R (enc:=Value.int .i64) (h1:=fun _=>rfl) h
    rcases ho with ⟨hl,⟨hv,hn0⟩|⟨g,cap,cur,rfl,hbase,hb,h1,h2,h3,h4⟩⟩
    · omega
    have hb1:Go.Sort.Holds (Value.int .i64) w g 0 xs.toArray:=holds_of_blockI hb (by simpa [encs] using h4)
    have hblk:g < w.heap.size:=(Array.getElem?_eq_some_iff.1 hb).1
    have hcall:=Any.slices_Sort_int Try.laysSort g 0 cap xs w hb1 hblk hn
    rw [Try.fSort] at hcall
    refine hcall.mono ?_
    rintro e w' ⟨rfl,n,os,rfl⟩
    refine ⟨rfl,⟨?_,below_sorted hB _ hbase hB.size⟩⟩
    have hlen:(xs.mergeSort fun a b=>decide (a ≤ b)).length = xs.length:=List.length_mergeSort _
    have hown:=ownsRow_sortedI (n:=n) (os:=os) (ss:=xs) (ts:=xs.mergeSort fun a b=>decide (a ≤ b)) hlen hbase hb h1 h2 h3
    rw [← hlen] at hown ⊢
    exact Kd.R_of_own (enc:=Value.int .i64) (h1:=fun _=>rfl) hown hok
/-! ### impl.group.comesBefore: whatever the world, two blocks are laid -/
def gcf (c1 h1 c2 h2:Int):Int:=if c1 = c2 then wrap64 (h1 - h2) else wrap64 (c1 - c2)
set_option maxHeartbeats 4000000 in
theorem Try.comesBefore (c1 c2 h1 h2:Int) (A1 A2:Addr) (n1 n2 k1 k2:Nat) (W:World) (hn1:0 < n1) (hn2:0 < n2) (e1:W.cell? A1 = some (.int .i64 h1)) (e2:W.cell? A2 = some (.int .i64 h2)) :
    Calls Try.prog 66 #[.agg #[.int .i64 c1,.slice (some A1) n1 k1],.agg #[.int .i64 c2,.slice (some A2) n2 k2]] W fun e w'=>e = .returned (.int .i64 (gcf c1 h1 c2 h2)) ∧ ∃ q os',w' = Go.Sort.grow (W.drewN q) os':=by
  have b1:A1.block < W.heap.size:=World.block_lt_of_cell? W _ e1
  have b2:A2.block < W.heap.size:=World.block_lt_of_cell? W _ e2
  obtain ⟨W2,hW2⟩:∃ X,X = (W.alloc (.cells #[.int .i64 c1,.slice (some A1) n1 k1] 85)).alloc (.cells #[.int .i64 c2,.slice (some A2) n2 k2] 85):=⟨_,rfl⟩
  have hbw:Below W.heap.size W W2:=hW2 ▸ below_alloc (below_alloc (Below.refl _ _) _) _
  have n1_:W2.heap[W.heap.size]? = some (.cells #[.int .i64 c1,.slice (some A1) n1 k1] 85 (0,0)):=by rw [hW2];exact (heap_alloc_old _ _ (by rw [World.size_alloc];omega)).trans (heap_alloc_new W _)
  have n2_:W2.heap[W.heap.size + 1]? = some (.cells #[.int .i64 c2,.slice (some A2) n2 k2] 85 (0,0)):=by rw [hW2,← World.size_alloc (w:=W) (o:=.cells #[.int .i64 c1,.slice (some A1) n1 k1] 85)];exact heap_alloc_new _ _
  have HE1:Aside0 (W2.cell? A1 = some (.int .i64 h1)):=⟨(hbw.cell b1).trans e1⟩
  have HE2:Aside0 (W2.cell? A2 = some (.int .i64 h2)):=⟨(hbw.cell b2).trans e2⟩
  have HG1:Aside0 (W2.cell? ⟨W.heap.size,1,none⟩ = some (.slice (some A1) n1 k1)):=⟨(blk_cell n1_ 1).trans rfl⟩
  have HG2:Aside0 (W2.cell? ⟨W.heap.size + 1,1,none⟩ = some (.slice (some A2) n2 k2)):=⟨(blk_cell n2_ 1).trans rfl⟩
  have HQ:Aside0 (∃ q os',W2 = Go.Sort.grow (W.drewN q) os'):=⟨0,_,by rw [hW2,Go.Sort.alloc_eq_grow,Go.Sort.alloc_eq_grow,Go.Sort.grow_grow];rfl⟩
  have HQ2:Aside0 (∃ q os',W2.drew = Go.Sort.grow (W.drewN q) os'):=⟨1,_,by rw [hW2,Go.Sort.alloc_eq_grow,Go.Sort.alloc_eq_grow,Go.Sort.grow_grow];rfl⟩
  have HW:=Aside0.mk hW2
  clear e1 e2 b1 b2 hW2 hbw n1_ n2_
  go_enter Try.func66,Try.ntmps66
  go_wp2
  · rename_i h
    rw [← HW.out]
    go_ret
    exact ⟨by unfold gcf;rw [if_neg (by simpa using h)];rfl,HQ.out⟩
  · rename_i h K_ a_
    rw [← HW.out]
    have hi1:((0:Int) ≤ 0 ∧ (0:Int) < (n1:Int)):=by omega
    have hi2:((0:Int) ≤ 0 ∧ (0:Int) < (n2:Int)):=by omega
    refine start_ (n:=10) (S:=fun w'=>w'.cell? ⟨W.heap.size,1,none⟩ = some (.slice (some A1) n1 k1) ∧ w'.cell? ⟨W.heap.size + 1,1,none⟩ = some (.slice (some A2) n2 k2) ∧ w'.cell? A1 = some (.int .i64 h1) ∧ w'.cell? A2 = some (.int .i64 h2)) (ds:=[]) #[false,false,false,false,false,false,false,false,false,false] (by kernel_rfl) rfl rfl ⟨HG1.out,HG2.out,HE1.out,HE2.out⟩ (fun hHeld=>?_)
    refine pure_ (i:=0) (N:=(some 15)) (v:=?_) (a':=?_) #[true,false,false,false,false,false,false,false,false,false] rfl rfl (by kernel_rfl) (fun _ _ _ h=>h) (Or.inl ⟨by rfl,?_⟩) ?_ ?_
    rotate_left
    · intro w'
      go_simp
      with_reducible rfl
    rotate_left
    · simp only [Act.put,List.setIfInBounds_toArray,List.set_cons_zero,List.set_cons_succ,i64_w,i32_w]
      rfl
    refine take_ (i:=1) (N:=(some 16)) (v:=?_) (a':=?_) #[true,true,false,false,false,false,false,false,false,false] rfl rfl (by kernel_rfl) (fun _ _ _ h=>h) (Or.inl ⟨by rfl,?_⟩) hHeld ?_ ?_
    rotate_left
    · intro w' ⟨s0,s1,s2,s3⟩
      go_simp
      with_reducible rfl
    rotate_left
    · simp only [Act.put,List.setIfInBounds_toArray,List.set_cons_zero,List.set_cons_succ,i64_w,i32_w]
      rfl
    refine pure_ (i:=2) (N:=(some 17)) (v:=?_) (a':=?_) #[true,true,true,false,false,false,false,false,false,false] rfl rfl (by kernel_rfl) (fun _ _ _ h=>h) (Or.inl ⟨by rfl,?_⟩) ?_ ?_
    rotate_left
    · intro w'
      go_simp
      with_reducible rfl
    rotate_left
    · simp only [Act.put,List.setIfInBounds_toArray,List.set_cons_zero,List.set_cons_succ,i64_w,i32_w]
      rfl
    refine take_ (i:=3) (N:=(some 18)) (v:=?_) (a':=?_) #[true,true,true,true,false,false,false,false,false,false] rfl rfl (by kernel_rfl) (fun _ _ _ h=>h) (Or.inl ⟨by rfl,?_⟩) hHeld ?_ ?_
    rotate_left
    · intro w' ⟨s0,s1,s2,s3⟩
      go_simp
      with_reducible rfl
    rotate_left
    · simp only [Act.put,List.setIfInBounds_toArray,List.set_cons_zero,List.set_cons_succ,i64_w,i32_w]
      rfl
    refine pure_ (i:=4) (N:=(some 19)) (v:=?_) (a':=?_) #[true,true,true,true,true,false,false,false,false,false] rfl rfl (by kernel_rfl) (fun _ _ _ h=>h) (Or.inl ⟨by rfl,?_⟩) ?_ ?_
    rotate_left
    · intro w'
      go_simp
      with_reducible rfl
    rotate_left
    · simp only [Act.put,List.setIfInBounds_toArray,List.set_cons_zero,List.set_cons_succ,i64_w,i32_w]
      rfl
    refine take_ (i:=5) (N:=(some 20)) (v:=?_) (a':=?_) #[true,true,true,true,true,true,false,false,false,false] rfl rfl (by kernel_rfl) (fun _ _ _ h=>h) (Or.inl ⟨by rfl,?_⟩) hHeld ?_ ?_
    rotate_left
    · intro w' ⟨s0,s1,s2,s3⟩
      go_simp
      with_reducible rfl
    rotate_left
    · simp only [Act.put,List.setIfInBounds_toArray,List.set_cons_zero,List.set_cons_succ,i64_w,i32_w]
      rfl
    refine pure_ (i:=6) (N:=(some 21)) (v:=?_) (a':=?_) #[true,true,true,true,true,true,true,false,false,false] rfl rfl (by kernel_rfl) (fun _ _ _ h=>h) (Or.inl ⟨by rfl,?_⟩) ?_ ?_
    rotate_left
    · intro w'
      go_simp
      with_reducible rfl
    rotate_left
    · simp only [Act.put,List.setIfInBounds_toArray,List.set_cons_zero,List.set_cons_succ,i64_w,i32_w]
      rfl
    refine take_ (i:=7) (N:=(some 22)) (v:=?_) (a':=?_) #[true,true,true,true,true,true,true,true,false,false] rfl rfl (by kernel_rfl) (fun _ _ _ h=>h) (Or.inl ⟨by rfl,?_⟩) hHeld ?_ ?_
    rotate_left
    · intro w' ⟨s0,s1,s2,s3⟩
      go_simp
      with_reducible rfl
    rotate_left
    · simp only [Act.put,List.setIfInBounds_toArray,List.set_cons_zero,List.set_cons_succ,i64_w,i32_w]
      rfl
    refine pure_ (i:=8) (N:=(some 23)) (v:=?_) (a':=?_) #[true,true,true,true,true,true,true,true,true,false] rfl rfl (by kernel_rfl) (fun _ _ _ h=>h) (Or.inl ⟨by rfl,?_⟩) ?_ ?_
    rotate_left
    · intro w'
      go_simp
      with_reducible rfl
    rotate_left
    · simp only [Act.put,List.setIfInBounds_toArray,List.set_cons_zero,List.set_cons_succ,i64_w,i32_w]
      rfl
    refine pure_ (i:=9) (N:=(some 4)) (v:=?_) (a':=?_) #[true,true,true,true,true,true,true,true,true,true] rfl rfl (by kernel_rfl) (fun _ _ _ h=>h) (Or.inl ⟨by rfl,?_⟩) ?_ ?_
    rotate_left
    · intro w'
      go_simp
      with_reducible rfl
    rotate_left
    · simp only [Act.put,List.setIfInBounds_toArray,List.set_cons_zero,List.set_cons_succ,i64_w,i32_w]
      rfl
    refine done_ (by kernel_rfl) ?_
    go_wp2
    go_ret
    exact ⟨by unfold gcf;rw [if_pos (by simpa using h)];rfl,HQ2.out⟩
/-! ### A row of groups of the call's own that may lie in the midst of a block -/
structure GD where
  c:Int
  has:List Int
  A:Addr
  cap:Nat
def GD.enc (x:GD):List Value:=[.int .i64 x.c,.slice (some x.A) x.has.length x.cap]
def genc (ds:List GD):List Value:=ds.flatMap GD.enc
theorem genc_length (ds:List GD):(genc ds).length = ds.length * 2:=by
  induction ds with
  | nil=>rfl
  | cons x t ih=>unfold genc at ih ⊢;rw [List.flatMap_cons,List.length_append,ih,List.length_cons];show 2 + _ = _;omega
theorem genc_at (ds:List GD):∀ (j i:Nat) (x:GD) (u:Value),ds[j]? = some x → (GD.enc x)[i]? = some u → (genc ds)[j * 2 + i]? = some u:=by
  induction ds with
  | nil=>intro j i x u h _;simp at h
  | cons y t ih =>
    intro j i x u h hu
    unfold genc at ih ⊢
    rw [List.flatMap_cons]
    cases j with
    | zero =>
      simp only [List.getElem?_cons_zero,Option.some.injEq] at h
      subst h
      rw [Nat.zero_mul,Nat.zero_add,List.getElem?_append_left (List.getElem?_eq_some_iff.1 hu).1]
      exact hu
    | succ j =>
      rw [List.getElem?_cons_succ] at h
      rw [List.getElem?_append_right (by show 2 ≤ _;omega),show (j + 1) * 2 + i - (GD.enc y).length = j * 2 + i from by show (j + 1) * 2 + i - 2 = _;omega]
      exact ih j i x u h hu
def GRow (w:World) (base:Nat) (v:Value) (ds:List GD):Prop :=
  (v = .slice none 0 0 ∧ ds = []) ∨ ∃ g off cap,v = .slice (some ⟨g,off,none⟩) ds.length cap ∧ base ≤ g ∧ g < w.heap.size ∧ ds.length ≤ cap ∧ (∀ j,j < cap * 2 → (w.cell? ⟨g,off + j,none⟩).isSome = true ∧ w.frozen? ⟨g,off + j,none⟩ = false) ∧ ∀ j u,(genc ds)[j]? = some u → w.cell? ⟨g,off + j,none⟩ = some u
theorem GRow_nil (w:World) (base:Nat):GRow w base (.slice none 0 0) []:=.inl ⟨rfl,rfl⟩
theorem GRow_move {w w1:World} {base:Nat} {v:Value} {ds:List GD} (h:GRow w base v ds) (hs:w.heap.size ≤ w1.heap.size) (hm:∀ k,v.ownBlock = some k → k < w.heap.size → w1.heap[k]? = w.heap[k]?):GRow w1 base v ds:=by
  rcases h with h|⟨g,off,cap,rfl,hb,hg,hc,hf,hd⟩
  · exact .inl h
  · have hk:=hm g rfl hg
    refine .inr ⟨g,off,cap,rfl,hb,by omega,hc,fun j hj=>?_,fun j u hu=>?_⟩
    · rw [World.cell?_of_block (a:=⟨g,off + j,none⟩) hk,World.frozen?_of_block (a:=⟨g,off + j,none⟩) hk];exact hf j hj
    · rw [World.cell?_of_block (a:=⟨g,off + j,none⟩) hk];exact hd j u hu
theorem GRow_below {w w1:World} {base:Nat} {v:Value} {ds:List GD} (h:GRow w base v ds) (hb:Below w.heap.size w w1):GRow w1 base v ds:=GRow_move h hb.size (fun k _ hk=>hb.block k hk)
theorem GRow_lt {w:World} {base:Nat} {v:Value} {ds:List GD} (h:GRow w base v ds):∀ k,v.ownBlock = some k → base ≤ k ∧ k < w.heap.size:=by
  rcases h with ⟨rfl,_⟩|⟨g,off,cap,rfl,hb,hg,_⟩
  · intro k hk;cases hk
  · intro k hk;injection hk with hk;subst hk;exact ⟨hb,hg⟩
theorem GRow_form {w:World} {base:Nat} {v:Value} {ds:List GD} (h:GRow w base v ds):∃ A c,v = .slice A ds.length c ∧ ds.length ≤ c:=by
  rcases h with ⟨rfl,rfl⟩|⟨g,off,cap,rfl,hb,hg,hc,_⟩
  · exact ⟨none,0,rfl,Nat.le_refl _⟩
  · exact ⟨_,cap,rfl,hc⟩
theorem GRow_some {w:World} {base:Nat} {v:Value} {ds:List GD} (h:GRow w base v ds) (hp:0 < ds.length):∃ g off cap,v = .slice (some ⟨g,off,none⟩) ds.length cap:=by
  rcases h with ⟨rfl,rfl⟩|⟨g,off,cap,rfl,_⟩
  · simp at hp
  · exact ⟨g,off,cap,rfl⟩
/-- Element j: its two cells. -/
theorem GRow_at {w:World} {base:Nat} {g off cap n:Nat} {ds:List GD} (h:GRow w base (.slice (some ⟨g,off,none⟩) n cap) ds) (j:Nat) (x:GD) (hx:ds[j]? = some x):w.cell? ⟨g,off + j * 2,none⟩ = some (.int .i64 x.c) ∧ w.cell? ⟨g,off + j * 2 + 1,none⟩ = some (.slice (some x.A) x.has.length x.cap):=by
  rcases h with ⟨h,_⟩|⟨g',off',cap',he,hb,hg,hc,hf,hd⟩
  · cases h
  · injection he with h1 h2 h3
    injection h1 with h1
    injection h1 with h1 h4
    subst h1 h4
    have a0:=hd (j * 2 + 0) _ (genc_at ds j 0 x _ hx rfl)
    have a1:=hd (j * 2 + 1) _ (genc_at ds j 1 x _ hx rfl)
    rw [Nat.add_zero] at a0
    rw [← Nat.add_assoc] at a1
    exact ⟨a0,a1⟩
/-- The row without its first two. -/
theorem GRow_cut {w:World} {base:Nat} {g off cap n:Nat} {x y:GD} {ds:List GD} (h:GRow w base (.slice (some ⟨g,off,none⟩) n cap) (x :: y :: ds)):GRow w base (.slice (some ⟨g,off + 4,none⟩) ds.length (cap - 2)) ds:=by
  rcases h with ⟨h,_⟩|⟨g',off',cap',he,hb,hg,hc,hf,hd⟩
  · cases h
  · injection he with h1 h2 h3
    injection h1 with h1
    injection h1 with h1 h4
    subst h1 h4 h3
    simp only [List.length_cons] at hc
    refine .inr ⟨_,_,_,rfl,hb,hg,by omega,fun j hj=>?_,fun j u hu=>?_⟩
    · rw [Nat.add_assoc];exact hf (4 + j) (by omega)
    · rw [Nat.add_assoc]
      refine hd (4 + j) u ?_
      unfold genc at hu ⊢
      rw [List.flatMap_cons,List.flatMap_cons,List.getElem?_append_right (by show 2 ≤ _;omega),List.getElem?_append_right (by show 2 ≤ 4 + j - 2;omega)]
      rw [← hu]
      congr 1
      show 4 + j - 2 - 2 = j
      omega
theorem heap_setCells (b:Nat) (vs:List Value):∀ (o:Nat) (w:World) (k:Nat),k ≠ b → (w.setCells b o vs).heap[k]? = w.heap[k]?:=by
  induction vs with
  | nil=>intro o w k _;rfl
  | cons v r ih =>
    intro o w k hk
    rw [World.setCells,ih _ _ k hk]
    exact Below.heap_setCell w ⟨b,o,none⟩ v k hk
theorem setCells_same (b:Nat) (vs:List Value):∀ (o:Nat) (w:World),(w.setCells b o vs).heap.size = w.heap.size ∧ (w.setCells b o vs).os = w.os ∧ (w.setCells b o vs).tape = w.tape ∧ (w.setCells b o vs).output = w.output:=by
  induction vs with
  | nil=>intro o w;exact ⟨rfl,rfl,rfl,rfl⟩
  | cons v r ih =>
    intro o w
    rw [World.setCells]
    obtain ⟨h1,h2,h3,h4⟩:=ih (o + 1) (w.setCell ⟨b,o,none⟩ v)
    exact ⟨by rw [h1];simp [World.setCell],by rw [h2];rfl,by rw [h3];rfl,by rw [h4];rfl⟩
theorem ginfo:(Try.prog.info? 85).map (fun i=>(i.zero,i.size,i.bytes)) = some (some (.agg #[.int .i64 0,.slice none 0 0]),2,32):=by kernel_rfl
theorem Try.run_append_gr (w:World) (base:Nat) (v:Value) (ds:List GD) (y:GD) (ty:TypeId) (h:GRow w base v ds) (ad:Addr) (c:Nat) (hnews:∀ j u,(GD.enc y)[j]? = some u → w.cell? (ad.add j) = some u) (hn:ds.length ≤ 1000) (hbase:base ≤ w.heap.size) :
    ∃ v' w',(Builtin.append_ #[83,83] ty #[v,.slice (some ad) 1 c]).run Try.prog w = .ok v' w' ∧ GRow w' base v' (ds ++ [y]) ∧ w.grownBy w' v.ownBlock ∧ (v'.ownBlock = v.ownBlock ∨ v'.ownBlock = some w.heap.size):=by
  obtain ⟨i,hi,hz,hsz,hby⟩:=info_parts ginfo
  have hnl:(GD.enc y).length = 1 * i.size:=by rw [hsz];rfl
  have h1:∀ u ∈ GD.enc y,u.oneCell' = true:=by
    intro u hu
    simp only [GD.enc,List.mem_cons,List.not_mem_nil,or_false] at hu
    rcases hu with rfl|rfl <;> rfl
  have hl2:(ds ++ [y]).length = ds.length + 1:=by simp
  have hge2:genc (ds ++ [y]) = genc ds ++ GD.enc y:=by unfold genc;simp
  have hgl:=genc_length ds
  have grown:∀ old:Nat,old < ds.length + 1 → GRow (w.drew.alloc (.cells ((genc ds).toArray ++ (GD.enc y).toArray ++ Builtin.zeroCells (Value.cells (.agg #[.int .i64 0,.slice none 0 0])) (grownCap w (ds.length + 1) old 85 - (ds.length + 1))) 85)) base (.slice (some ⟨w.heap.size,0,none⟩) (ds.length + 1) (grownCap w (ds.length + 1) old 85)) (ds ++ [y]):=by
    intro old _
    have hge:=grownCap_ge w (ds.length + 1) old 85
    have hb:=heap_alloc_new w.drew (.cells ((genc ds).toArray ++ (GD.enc y).toArray ++ Builtin.zeroCells (Value.cells (.agg #[.int .i64 0,.slice none 0 0])) (grownCap w (ds.length + 1) old 85 - (ds.length + 1))) 85)
    rw [show w.drew.heap.size = w.heap.size from rfl] at hb
    have hsz:((genc ds).toArray ++ (GD.enc y).toArray ++ Builtin.zeroCells (Value.cells (.agg #[.int .i64 0,.slice none 0 0])) (grownCap w (ds.length + 1) old 85 - (ds.length + 1))).size = grownCap w (ds.length + 1) old 85 * 2:=by
      rw [Array.size_append,Array.size_append,size_zeroCells,List.size_toArray,List.size_toArray,hgl]
      show ds.length * 2 + 2 + (_ - _) * 2 = _
      omega
    refine .inr ⟨w.heap.size,0,_,by rw [hl2],hbase,by rw [World.size_alloc];show w.heap.size < w.heap.size + 1;omega,by rw [hl2];exact hge,fun j hj=>⟨?_,blk_frozen hb _⟩,fun j u hu=>?_⟩
    · rw [blk_cell hb,Nat.zero_add,Array.getElem?_eq_getElem (by rw [hsz];exact hj)];rfl
    · rw [blk_cell hb,Nat.zero_add]
      rw [hge2] at hu
      have hj:j < (genc ds ++ GD.enc y).length:=(List.getElem?_eq_some_iff.1 hu).1
      rw [Array.getElem?_append_left (by simpa using hj),← Array.getElem?_toList]
      simpa using hu
  have hgrew:∀ (o:Obj) (row:Option Nat),w.grownBy (w.drew.alloc o) row:=fun o row=>⟨rfl,rfl,rfl,by simp,fun k hk _=>heap_alloc_old w.drew _ hk⟩
  rcases h with ⟨rfl,rfl⟩|⟨g,off,cap,rfl,hb,hg,hc,hf,hd⟩
  · have hr:=run_append_nil (P:=Try.prog) w 83 ty 85 i _ Try.underlying83 hi hz ad 1 c (GD.enc y) hnl hnews (by omega) (by omega) (by rw [hby];decide)
    refine ⟨_,_,hr,?_,hgrew _ _,.inr rfl⟩
    have:=grown 0 (by omega)
    simpa [genc] using this
  · by_cases hroom:ds.length + 1 ≤ cap
    · have hr:=run_append_room_cells (P:=Try.prog) w 83 ty 85 i Try.underlying83 hi g off ds.length cap ad 1 c (GD.enc y) hnl hnews h1 hroom
        (fun j hj=>by have hj2:j < 2:=hj;rw [hsz,Nat.add_assoc];exact (hf (ds.length * 2 + j) (by omega)).1) (fun j hj=>by have hj2:j < 2:=hj;rw [hsz,Nat.add_assoc];exact (hf (ds.length * 2 + j) (by omega)).2)
      rw [hsz] at hr
      obtain ⟨s1,s2,s3,s4⟩:=setCells_same g (GD.enc y) (off + ds.length * 2) w
      refine ⟨_,_,hr,.inr ⟨g,off,cap,by rw [hl2],hb,?_,by omega,fun j hj=>⟨?_,?_⟩,fun j u hu=>?_⟩,⟨s2,s3,s4,Nat.le_of_eq s1.symm,fun k _ hk=>heap_setCells g _ _ w k (fun e=>hk (by rw [e];rfl))⟩,.inl rfl⟩
      · show g < (w.setCells g (off + ds.length * 2) (GD.enc y)).heap.size
        omega
      · by_cases hin:ds.length * 2 ≤ j ∧ j < ds.length * 2 + 2
        · have:=World.cell?_setCells_in g (GD.enc y) (off + ds.length * 2) w (fun q hq=>by have hq2:q < 2:=hq;rw [Nat.add_assoc];exact (hf (ds.length * 2 + q) (by omega)).1) (j - ds.length * 2) (by show _ < 2;omega)
          rw [show off + ds.length * 2 + (j - ds.length * 2) = off + j by omega] at this
          rw [this];rfl
        · rw [World.cell?_setCells_out g (GD.enc y) _ w _ (fun _ _=>by show off + j < _ ∨ off + ds.length * 2 + 2 ≤ off + j;omega)]
          exact (hf j hj).1
      · exact (World.frozen?_setCells g (GD.enc y) _ w _).trans (hf j hj).2
      · rw [hge2] at hu
        by_cases hin:j < ds.length * 2
        · rw [List.getElem?_append_left (by omega)] at hu
          rw [World.cell?_setCells_out g (GD.enc y) _ w _ (fun _ _=>by show off + j < off + ds.length * 2 ∨ _;omega)]
          exact hd j u hu
        · rw [List.getElem?_append_right (by omega),hgl] at hu
          have hj2:j - ds.length * 2 < (GD.enc y).length:=(List.getElem?_eq_some_iff.1 hu).1
          have:=World.cell?_setCells_in g (GD.enc y) (off + ds.length * 2) w (fun q hq=>by have hq2:q < 2:=hq;rw [Nat.add_assoc];exact (hf (ds.length * 2 + q) (by omega)).1) (j - ds.length * 2) hj2
          rw [show off + ds.length * 2 + (j - ds.length * 2) = off + j by omega] at this
          rw [this,← List.getElem?_eq_getElem,hu]
    · have hr:=run_append_grow (P:=Try.prog) w 83 ty 85 i _ Try.underlying83 hi hz ⟨g,off,none⟩ ds.length cap (genc ds) (by rw [hsz];exact hgl) (fun j u hu=>by rw [Addr.add_mid];exact hd j u hu) ad 1 c (GD.enc y) hnl hnews (by omega) (by omega) (growslice_fits (by omega) (by rw [hby];omega))
      exact ⟨_,_,hr,grown cap (by omega),hgrew _ _,.inr rfl⟩
/-! ### slices.SortFunc over such a row, by the kit's contract -/
open Go.Shelf in
shelf_lay_g SlLaysF0.n6 Slsf 6 at Try 65 as Try.laysSortG
theorem Try.fSortG:Try.laysSortG_ren.f 6 = 65:=by kernel_rfl
theorem Try.tSortG:Try.laysSortG_ren.t 24 = 85:=by kernel_rfl
def GD.ok (w:World) (b:Nat) (x:GD):Prop:=w.cell? x.A = some (.int .i64 (rd x.has 0)) ∧ x.A.block ≠ b ∧ 0 < x.has.length ∧ (0 ≤ x.c ∧ x.c ≤ 1000000) ∧ (0 ≤ rd x.has 0 ∧ rd x.has 0 ≤ 1000000)
def gdlt (x y:GD):Prop:=x.c < y.c ∨ (x.c = y.c ∧ rd x.has 0 < rd y.has 0)
def gcmp {w:World} {b:Nat} (x y:{x:GD // x.ok w b}):Int:=gcf x.1.c (rd x.1.has 0) y.1.c (rd y.1.has 0)
theorem gcmp_lt {w:World} {b:Nat} (x y:{x:GD // x.ok w b}):Go.Proofs.ltOf gcmp x y = true ↔ gdlt x.1 y.1:=by
  obtain ⟨_,_,_,⟨x0,x1⟩,x2,x3⟩:=x.2
  obtain ⟨_,_,_,⟨y0,y1⟩,y2,y3⟩:=y.2
  unfold Go.Proofs.ltOf gcmp gcf gdlt
  rw [decide_eq_true_iff]
  by_cases h:x.1.c = y.1.c
  · rw [if_pos h];unfold wrap64;omega
  · rw [if_neg h];unfold wrap64;omega
theorem gcmp_swo {w:World} {b:Nat}:Go.Sort.SWO (Go.Proofs.ltOf (gcmp (w:=w) (b:=b))) where
  irrefl x:=by
    rw [← Bool.not_eq_true,gcmp_lt];unfold gdlt;omega
  trans x y z h1 h2:=by rw [gcmp_lt] at *;unfold gdlt at *;omega
  ntrans x y z h1 h2:=by
    rw [← Bool.not_eq_true,gcmp_lt] at *;unfold gdlt at *;omega
theorem flatK_genc {w:World} {b:Nat} [Inhabited {x:GD // x.ok w b}] (d:Array {x:GD // x.ok w b}):Go.Sort.flatK (fun x=>GD.enc x.1) 2 d = (genc (d.toList.map (·.1))).toArray:=by
  apply Array.ext
  · rw [Go.Sort.size_flatK];simp [genc_length]
  · intro t h1 h2
    rw [Go.Sort.size_flatK] at h1
    have h3:t / 2 < d.size:=by omega
    have e:=genc_at (d.toList.map (·.1)) (t / 2) (t % 2) d[t / 2].1 ((GD.enc d[t / 2].1)[t % 2]'(by show _ < 2;omega)) (by simp [h3]) (List.getElem?_eq_getElem _)
    rw [show t / 2 * 2 + t % 2 = t by omega] at e
    have e2:=Go.Sort.get_flatK (fun x:{x:GD // x.ok w b}=>GD.enc x.1) 2 d t h1
    rw [getElem!_pos _ t (by rw [Go.Sort.size_flatK];exact h1)] at e2
    rw [e2,getElem!_pos d (t / 2) h3,getElem!_pos _ (t % 2) (by show _ < 2;omega),List.getElem_toArray]
    rw [List.getElem?_eq_getElem (by simpa using h2)] at e
    exact (Option.some.inj e).symm
theorem grownBy_sortK {α:Type} [Inhabited α] {enc:α → List Value} {k:Nat} {w:World} {b off n:Nat} {os:Array Obj} (d:Array α):w.grownBy (Go.Proofs.sortWorldK enc k w b off n d os) (some b):=by
  refine ⟨rfl,rfl,rfl,?_,fun j hj hne=>?_⟩
  · simp [Go.Proofs.sortWorldK,Go.Sort.grow,Go.Sort.putRowK,Go.Sort.putRow,Go.Sort.mapBlock,Go.Sort.ahead]
  · simp [Go.Proofs.sortWorldK,Go.Sort.grow,Go.Sort.putRowK,Go.Sort.putRow,Go.Sort.mapBlock,Go.Sort.ahead,Array.getElem?_append,hj,Array.getElem?_modify,Array.getElem_modify,show ¬ b = j from fun e=>hne (by rw [e])]
theorem Try.gsort_walk (base:Nat) (v:Value) (ds:List GD) (w:World) (hds:ds ≠ []) (hl:ds.length ≤ 1000) (hok:∀ k,v.ownBlock = some k → ∀ x ∈ ds,x.ok w k) (hG:GRow w base v ds) :
    Calls Try.prog 65 #[v,.func (.func 66) #[] #[]] w fun e w'=>e = .returned (.tuple #[]) ∧ ∃ ds':List GD,ds'.Perm ds ∧ ds'.Pairwise (fun x y=>¬ gdlt y x) ∧ Aside0 (GRow w' base v ds') ∧ Aside0 (w.grownBy w' v.ownBlock):=by
  rcases hG with ⟨rfl,rfl⟩|⟨g,off,cap,rfl,hb,hg,hc,hf,hd⟩
  · exact absurd rfl hds
  have hok':=hok g rfl
  obtain ⟨x0,t0,rfl⟩:∃ x t,ds = x :: t:=by cases ds with|nil=>exact absurd rfl hds|cons x t=>exact ⟨x,t,rfl⟩
  haveI:Inhabited {x:GD // x.ok w g}:=⟨⟨x0,hok' x0 List.mem_cons_self⟩⟩
  obtain ⟨ds,hdse⟩:∃ ds,ds = x0 :: t0:=⟨_,rfl⟩
  rw [← hdse] at hok' hd hl hc ⊢
  obtain ⟨d,hde⟩:∃ d:Array {x:GD // x.ok w g},d = (ds.attach.map (fun x=>(⟨x.1,hok' x.1 x.2⟩:{x:GD // x.ok w g}))).toArray:=⟨_,rfl⟩
  have hdm:d.toList.map (·.1) = ds:=by rw [hde];simp [List.map_map,Function.comp_def]
  have hdz:d.size = ds.length:=by rw [hde];simp
  have eg:∀ args w,(callFunc 66 args).run Try.prog w = .ok (.enter 66 args) w:=Go.Proofs.enters_of Try.func66 (by kernel_rfl) rfl
  have hH:Go.Sort.HoldsK (fun x:{x:GD // x.ok w g}=>GD.enc x.1) 2 w g off d:=by
    intro j hj
    rw [flatK_genc,hdm] at hj ⊢
    have hj2:j < (genc ds).length:=by simpa using hj
    refine ⟨?_,(hf j (by rw [genc_length] at hj2;omega)).2⟩
    rw [getElem!_pos _ j hj,List.getElem_toArray]
    exact hd j _ (List.getElem?_eq_getElem hj2)
  have hcmp:Go.Proofs.CmpLays Try.prog 66 #[] (fun x:{x:GD // x.ok w g}=>GD.enc x.1) 2 gcmp g off d.size w:=by
    intro m os dk hs x y
    have hgr:=grownBy_sortK (enc:=fun x:{x:GD // x.ok w g}=>GD.enc x.1) (k:=2) (w:=w) (b:=g) (off:=off) (n:=m) (os:=os) dk
    have cx:∀ x:{x:GD // x.ok w g},(Go.Proofs.sortWorldK (fun x:{x:GD // x.ok w g}=>GD.enc x.1) 2 w g off m dk os).cell? x.1.A = some (.int .i64 (rd x.1.has 0)):=fun x =>
      (World.cell?_of_block (hgr.block _ (World.block_lt_of_cell? w _ x.2.1) (fun e=>x.2.2.1 (by injection e)))).trans x.2.1
    exact Try.comesBefore x.1.c y.1.c (rd x.1.has 0) (rd y.1.has 0) x.1.A y.1.A x.1.has.length y.1.has.length x.1.cap y.1.cap _ x.2.2.2.1 y.2.2.2.1 (cx x) (cx y)
  have hcon:=Go.Proofs.AnyQ.slices_SortFunc Try.laysSortG 2 (by rw [Try.tSortG];exact Try.isAgg85) (by rw [Try.tSortG];exact Try.sizeOf85) (fun x:{x:GD // x.ok w g}=>GD.enc x.1) (fun _=>rfl) (fun x v hv=>by simp [GD.enc] at hv;rcases hv with rfl|rfl <;> rfl) gcmp gcmp_swo 66 #[] g off cap d w eg hcmp hH hg (by omega)
  rw [Try.fSortG,hdz] at hcon
  refine hcon.mono ?_
  rintro e w' ⟨rfl,d',n,os,⟨hp1,_,hp2⟩,hs,rfl⟩
  have hz:d'.size = ds.length:=hp1.trans hdz
  have hperm:d'.toList.Perm d.toList:=by
    have e1:(d'.extract 0 ds.length) = d':=by rw [← hz];simp
    have e2:(d.extract 0 ds.length) = d:=by rw [← hdz];simp
    rw [e1,e2] at hp2
    exact hp2
  have hgr:=grownBy_sortK (enc:=fun x:{x:GD // x.ok w g}=>GD.enc x.1) (k:=2) (w:=w) (b:=g) (off:=off) (n:=n) (os:=os) d'
  refine ⟨rfl,d'.toList.map (·.1),by rw [← hdm];exact hperm.map _,?_,⟨?_⟩,⟨hgr⟩⟩
  · rw [List.pairwise_map,List.pairwise_iff_getElem]
    intro i j hi hj hij
    rw [Array.length_toList] at hi hj
    have:=hs i j (Nat.zero_le _) hij (by omega)
    rw [← Bool.not_eq_true,gcmp_lt,getElem!_pos d' j hj,getElem!_pos d' i hi] at this
    simpa using this
  · have hlen:(d'.toList.map (·.1)).length = ds.length:=by rw [List.length_map,Array.length_toList,hz]
    obtain ⟨F,hF⟩:∃ F,F = (genc (d'.toList.map (·.1))).toArray:=⟨_,rfl⟩
    have hF2:F.size = ds.length * 2:=by rw [hF];simp [genc_length,hz]
    have hW:Go.Proofs.sortWorldK (fun x:{x:GD // x.ok w g}=>GD.enc x.1) 2 w g off n d' os = Go.Sort.grow (Go.Sort.putRow id (Go.Sort.ahead w n) g off F) os:=by
      rw [hF,← flatK_genc];rfl
    have hgs:g < (Go.Sort.putRow id (Go.Sort.ahead w n) g off F).heap.size:=by rw [Go.Sort.size_putRow];exact hg
    have cW:∀ j,(Go.Proofs.sortWorldK (fun x:{x:GD // x.ok w g}=>GD.enc x.1) 2 w g off n d' os).cell? ⟨g,off + j,none⟩ = (Go.Sort.putRow id (Go.Sort.ahead w n) g off F).cell? ⟨g,off + j,none⟩:=fun j=>by rw [hW];exact Go.Sort.cell?_grow _ _ _ hgs
    have fW:∀ j,(Go.Proofs.sortWorldK (fun x:{x:GD // x.ok w g}=>GD.enc x.1) 2 w g off n d' os).frozen? ⟨g,off + j,none⟩ = w.frozen? ⟨g,off + j,none⟩:=fun j=>by rw [hW,Go.Sort.frozen?_grow _ _ _ hgs,Go.Sort.frozen?_putRow];rfl
    refine .inr ⟨g,off,cap,by rw [hlen],hb,Nat.lt_of_lt_of_le hg hgr.size,by rw [hlen];exact hc,fun j hj=>?_,fun j u hu=>?_⟩
    · rw [cW,fW]
      refine ⟨?_,(hf j hj).2⟩
      by_cases hin:j < F.size
      · rw [Go.Sort.cell?_putRow id (Go.Sort.ahead w n) g off _ F hH (by rw [Go.Sort.size_flatK,hF2];omega) j hin];rfl
      · rw [Go.Sort.cell?_putRow_other id _ g off F ⟨g,off + j,none⟩ (.inr (.inr (by show off + F.size ≤ off + j;omega)))]
        exact (hf j hj).1
    · have hj:j < (genc (d'.toList.map (·.1))).length:=(List.getElem?_eq_some_iff.1 hu).1
      rw [cW,Go.Sort.cell?_putRow id (Go.Sort.ahead w n) g off _ F hH (by rw [Go.Sort.size_flatK,hF2];omega) j (by rw [hF];simpa using hj),hF]
      rw [getElem!_pos _ j (by simpa using hj),List.getElem_toArray]
      rw [List.getElem?_eq_getElem hj] at hu
      exact hu
/-! ### What one round of the pairing does, over groups in any order -/
def gasc (l:List Int):Prop:=l.Pairwise (· < ·)
theorem gasc_ext (a:List Int):∀ b:List Int,gasc a → gasc b → (∀ x,x ∈ a ↔ x ∈ b) → a = b:=by
  intro b ha hb h
  unfold gasc at ha hb
  have na:a.Nodup:=ha.imp (fun h=>by omega)
  have nb:b.Nodup:=hb.imp (fun h=>by omega)
  have hp:a.Perm b:=(List.perm_ext_iff_of_nodup na nb).2 h
  exact hp.eq_of_pairwise (fun x y _ _ h1 h2=>by omega) (ha.imp (fun h=>by omega):a.Pairwise (· ≤ ·)) (hb.imp (fun h=>by omega))
theorem gput (v:Int) (k:Nat):∀ (pre post:List Int) (r:List Int),(pre ++ post).length ≤ 1000 → gasc (pre ++ post) → (∀ x ∈ pre,x < v) → spec_l1Put.l0 k (pre ++ post) v (pre.length:Int) = some r → gasc r ∧ (∀ y,y ∈ r ↔ y = v ∨ y ∈ pre ++ post):=by
  induction k with
  | zero=>intro pre post r _ _ _ h;simp [spec_l1Put.l0] at h
  | succ k ih =>
    intro pre post r hl ha hp h
    have ins:(∀ x ∈ post,v < x) → gasc (pre ++ v :: post):=by
      intro h2
      unfold gasc at ha ⊢
      rw [List.pairwise_append] at ha ⊢
      refine ⟨ha.1,List.pairwise_cons.2 ⟨h2,ha.2.1⟩,fun a ha2 b hb=>?_⟩
      rcases List.mem_cons.1 hb with rfl|hb
      · exact hp a ha2
      · exact ha.2.2 a ha2 b hb
    have take:(pre ++ post).take pre.length = pre:=by simp
    have drop:(pre ++ post).drop pre.length = post:=by simp
    have hl2:pre.length + post.length ≤ 1000:=by simpa using hl
    simp only [spec_l1Put.l0] at h
    cases post with
    | nil =>
      rw [if_neg (by simp)] at h
      simp only [Option.bind_some,Int.toNat_natCast,take,drop] at h
      rw [List.length_nil] at hl2
      rw [if_pos (by omega),if_pos (by simp),if_pos (by simp;omega),if_pos (by simp;omega),if_pos (by simp;omega)] at h
      obtain rfl:=Option.some.inj h
      refine ⟨by simpa using ins (by simp),fun y=>by simp [or_comm]⟩
    | cons x post =>
      have hx:rd (pre ++ x :: post) (pre.length:Int) = x:=by unfold rd;simp
      rw [if_pos (by simp;omega),if_pos (by omega),hx] at h
      by_cases g:x < v
      · rw [if_pos g,show wrap64 ((pre.length:Int) + 1) = ((pre ++ [x]).length:Int) by simp only [List.length_append,List.length_singleton];simp only [List.length_cons] at hl2;unfold wrap64;omega,show pre ++ x :: post = (pre ++ [x]) ++ post by simp] at h
        have:=ih (pre ++ [x]) post r (by simpa using hl) (by simpa using ha) (fun y hy=>by
          rcases List.mem_append.1 hy with hy|hy
          · exact hp y hy
          · rw [List.mem_singleton] at hy;rw [hy];exact g) h
        refine ⟨this.1,fun y=>by rw [this.2];simp⟩
      · rw [if_neg g] at h
        by_cases g2:x = v
        · rw [if_pos g2] at h
          obtain rfl:=Option.some.inj h
          refine ⟨ha,fun y=>⟨fun h=>.inr h,fun h=>?_⟩⟩
          rcases h with rfl|h
          · simp [g2]
          · exact h
        · rw [if_neg g2] at h
          simp only [Option.bind_some,Int.toNat_natCast,take,drop] at h
          rw [List.length_cons] at hl2
          rw [if_pos (by simp;omega),if_pos (by simp;omega),if_pos (by simp;omega),if_pos (by simp;omega)] at h
          obtain rfl:=Option.some.inj h
          have hpost:∀ y ∈ x :: post,v < y:=fun y hy=>by
            rcases List.mem_cons.1 hy with rfl|hy
            · omega
            · unfold gasc at ha
              rw [List.pairwise_append] at ha
              have:=(List.pairwise_cons.1 ha.2.1).1 y hy
              omega
          refine ⟨by simpa using ins hpost,fun y=>?_⟩
          simp only [List.nil_append,List.mem_append,List.mem_cons,List.not_mem_nil,or_false]
          constructor
          · rintro ((h|h)|h|h)
            · exact .inr (.inl h)
            · exact .inl h
            · exact .inr (.inr (.inl h))
            · exact .inr (.inr (.inr h))
          · rintro (h|h|h|h)
            · exact .inl (.inr h)
            · exact .inl (.inl h)
            · exact .inr (.inl h)
            · exact .inr (.inr h)
theorem glputs (k:Nat) (t:List Int):∀ (x r:List Int),x.length + t.length ≤ 1000 → gasc x → (x ++ t).Nodup → lputs k x t = some r → gasc r ∧ r.Perm (x ++ t):=by
  induction t with
  | nil =>
    intro x r _ ha _ h
    simp only [lputs,Option.some.injEq] at h
    subst h
    exact ⟨ha,by simp⟩
  | cons v t ih =>
    intro x r hl ha hn h
    simp only [lputs] at h
    obtain ⟨y,hy,h⟩:=Option.bind_eq_some_iff.1 h
    rw [List.length_cons] at hl
    obtain ⟨y1,y2⟩:=gput v k [] x y (by simpa using (by omega:x.length ≤ 1000)) (by simpa using ha) (by simp) hy
    have hyn:y.Nodup:=by unfold gasc at y1;exact y1.imp (fun h=>by omega)
    rw [show x ++ v :: t = (x ++ [v]) ++ t by simp] at hn ⊢
    have hxn:(x ++ [v]).Nodup:=(List.nodup_append.1 hn).1
    have hp:y.Perm (x ++ [v]):=(List.perm_ext_iff_of_nodup hyn hxn).2 (fun z=>by rw [y2];simp [or_comm])
    have hp2:(y ++ t).Perm ((x ++ [v]) ++ t):=hp.append_right t
    have hyl:y.length = x.length + 1:=by rw [hp.length_eq];simp
    obtain ⟨r1,r2⟩:=ih y r (by omega) y1 (hp2.nodup_iff.2 hn) h
    exact ⟨r1,r2.trans hp2⟩
def toG (x:GD):S78:=⟨x.c,x.has⟩
def glt (x y:S78):Prop:=x.f0 < y.f0 ∨ (x.f0 = y.f0 ∧ rd x.f1 0 < rd y.f1 0)
def GI (n:Nat) (gs:List S78):Prop:=(∀ x ∈ gs,x.f1 ≠ [] ∧ gasc x.f1 ∧ (∀ i ∈ x.f1,0 ≤ i ∧ i < (n:Int)) ∧ 0 ≤ x.f0) ∧ (gs.flatMap (·.f1)).Nodup ∧ (gs.map (·.f0)).sum ≤ 12000
theorem rd_mem (x:List Int) (h:x ≠ []):rd x 0 ∈ x:=by
  cases x with
  | nil=>exact absurd rfl h
  | cons a t=>exact List.mem_cons_self
theorem sum_ge (gs:List S78) (h:∀ x ∈ gs,0 ≤ x.f0):0 ≤ (gs.map (·.f0)).sum ∧ ∀ x ∈ gs,x.f0 ≤ (gs.map (·.f0)).sum:=by
  induction gs with
  | nil=>exact ⟨by simp,fun x hx=>by cases hx⟩
  | cons y t ih =>
    obtain ⟨h1,h2⟩:=ih (fun x hx=>h x (List.mem_cons_of_mem _ hx))
    have hy:=h y List.mem_cons_self
    rw [List.map_cons,List.sum_cons]
    refine ⟨by omega,fun x hx=>?_⟩
    rcases List.mem_cons.1 hx with rfl|hx
    · omega
    · have:=h2 x hx;omega
theorem perm_sum {a b:List Int} (h:a.Perm b):a.sum = b.sum:=by
  induction h with
  | nil=>rfl
  | cons x _ ih=>rw [List.sum_cons,List.sum_cons,ih]
  | swap x y l=>simp only [List.sum_cons];omega
  | trans _ _ h1 h2=>exact h1.trans h2
theorem GI_perm {n:Nat} {gs hs:List S78} (h:GI n gs) (hp:hs.Perm gs):GI n hs:=by
  refine ⟨fun x hx=>h.1 x (hp.mem_iff.1 hx),?_,?_⟩
  · exact (List.Perm.flatMap_right _ hp).nodup_iff.2 h.2.1
  · rw [perm_sum (hp.map (·.f0))];exact h.2.2
theorem GI_tail {n:Nat} {x:S78} {gs:List S78} (h:GI n (x :: gs)):GI n gs:=by
  refine ⟨fun y hy=>h.1 y (List.mem_cons_of_mem _ hy),?_,?_⟩
  · have:=h.2.1
    rw [List.flatMap_cons,List.nodup_append] at this
    exact this.2.1
  · have:=h.2.2
    have:=(h.1 x List.mem_cons_self).2.2.2
    rw [List.map_cons,List.sum_cons] at *
    omega
/-- Two groups of the same first symbol are one. -/
theorem GI_inj {n:Nat} {gs:List S78} (h:GI n gs) {x y:S78} (hx:x ∈ gs) (hy:y ∈ gs) (e:rd x.f1 0 = rd y.f1 0):x = y:=by
  obtain ⟨a,b,rfl⟩:=List.append_of_mem hx
  have hm:=(GI_perm h (List.perm_middle (l₁:=a) (a:=x) (l₂:=b)).symm)
  rcases List.mem_cons.1 ((List.perm_middle (l₁:=a) (a:=x) (l₂:=b)).mem_iff.1 hy) with q|q
  · exact q.symm
  · have h2:=hm.2.1
    rw [List.flatMap_cons,List.nodup_append] at h2
    have mx:=rd_mem x.f1 (h.1 x hx).1
    have my:=rd_mem y.f1 (h.1 y hy).1
    exact absurd e (h2.2.2 _ mx _ (List.mem_flatMap.2 ⟨y,q,my⟩))
theorem glbest (l:List S78) (hne:∀ x ∈ l,x.f1 ≠ []) (m:Nat):∀ j b b':Nat,j + m = l.length → b < l.length → (∀ i:Nat,i < j → ¬ glt (rd_T78 l (i:Int)) (rd_T78 l (b:Int))) → lbest l m j b = some b' → b' < l.length ∧ ∀ i:Nat,i < l.length → ¬ glt (rd_T78 l (i:Int)) (rd_T78 l (b':Int)):=by
  induction m with
  | zero =>
    intro j b b' hj hb hi h
    simp only [lbest,Option.some.injEq] at h
    subst h
    exact ⟨hb,fun i h=>hi i (by omega)⟩
  | succ m ih =>
    intro j b b' hj hb hi h
    simp only [lbest] at h
    obtain ⟨c,hc,h⟩:=Option.bind_eq_some_iff.1 h
    have mem:∀ i:Nat,i < l.length → rd_T78 l (i:Int) ∈ l:=fun i hi=>by
      unfold rd_T78
      rw [Int.toNat_natCast,List.getD_eq_getElem?_getD,List.getElem?_eq_getElem hi]
      exact List.getElem_mem hi
    have len:∀ i:Nat,i < l.length → 0 < ((rd_T78 l (i:Int)).f1.length:Int):=fun i hi=>by
      have:=List.length_pos_iff.2 (hne _ (mem i hi));omega
    have hcb:c = true ↔ glt (rd_T78 l (j:Int)) (rd_T78 l (b:Int)):=by
      have lj:=len j (by omega)
      have lb:=len b hb
      unfold spec_l11Less.f at hc
      unfold glt
      generalize rd_T78 l (j:Int) = x at *
      generalize rd_T78 l (b:Int) = y at *
      split at hc
      · rename_i g
        obtain rfl:=Option.some.inj hc
        exact ⟨fun _=>.inl g,fun _=>rfl⟩
      · rename_i g
        split at hc
        · rename_i g2
          try rw [if_pos lj,if_pos lb] at hc
          obtain rfl:=Option.some.inj hc
          rw [decide_eq_true_iff]
          exact ⟨fun h=>.inr ⟨g2,h⟩,fun h=>by rcases h with h|h;exact absurd h g;exact h.2⟩
        · rename_i g2
          obtain rfl:=Option.some.inj hc
          exact ⟨fun h=>(by cases h),fun h=>by rcases h with h|h;exact absurd h g;exact absurd h.1 g2⟩
    by_cases g:c = true
    · rw [if_pos g] at h
      refine ih (j + 1) j b' (by omega) (by omega) (fun i hij=>?_) h
      have h1:=hcb.1 g
      by_cases e:i = j
      · rw [e];unfold glt;omega
      · have h2:=hi i (by omega)
        unfold glt at *
        omega
    · rw [if_neg g] at h
      refine ih (j + 1) b b' (by omega) hb (fun i hij=>?_) h
      by_cases e:i = j
      · rw [e];exact fun q=>g (hcb.2 q)
      · exact hi i (by omega)
theorem gleast (l:List S78) (hne:∀ x ∈ l,x.f1 ≠ []) (r:S78 × List S78) (h:spec_l11Least.f l = some r):(r.1 :: r.2).Perm l ∧ ∀ z ∈ l,¬ glt z r.1:=by
  unfold spec_l11Least.f at h
  split at h
  rotate_left
  · cases h
  rename_i hn
  obtain ⟨b,hb,h⟩:=Option.bind_eq_some_iff.1 h
  obtain rfl:=Option.some.inj h
  obtain ⟨hbl,hm⟩:=glbest l hne l.length 0 0 b (by omega) hn.2 (fun i hi=>by omega) hb
  have hg:rd_T78 l (b:Int) = l[b]:=by unfold rd_T78;rw [Int.toNat_natCast,List.getD_eq_getElem?_getD,List.getElem?_eq_getElem hbl];rfl
  refine ⟨?_,fun z hz=>?_⟩
  · simp only
    rw [hg]
    have e:l = l.take b ++ l[b] :: l.drop (b + 1):=by rw [← List.drop_eq_getElem_cons hbl,List.take_append_drop]
    exact (List.perm_middle.symm).trans (List.Perm.of_eq e.symm)
  · obtain ⟨i,hi,rfl⟩:=List.mem_iff_getElem.1 hz
    have:=hm i hi
    have e:rd_T78 l (i:Int) = l[i]:=by unfold rd_T78;rw [Int.toNat_natCast,List.getD_eq_getElem?_getD,List.getElem?_eq_getElem hi];rfl
    rw [e] at this
    exact this
/-- The first of a sorted row is the least one. -/
theorem gfirst {n:Nat} {gs:List S78} (hI:GI n gs) (r:S78 × List S78) (h:spec_l11Least.f gs = some r) (x:GD) (t:List GD) (hp:((x :: t).map toG).Perm gs) (hs:(x :: t).Pairwise (fun x y=>¬ gdlt y x)):toG x = r.1 ∧ (t.map toG).Perm r.2 ∧ GI n r.2 ∧ t.Pairwise (fun x y=>¬ gdlt y x):=by
  obtain ⟨h1,h2⟩:=gleast gs (fun x hx=>(hI.1 x hx).1) r h
  have mx:toG x ∈ gs:=hp.mem_iff.1 List.mem_cons_self
  have mr:r.1 ∈ gs:=h1.mem_iff.1 List.mem_cons_self
  have hle:¬ glt r.1 (toG x):=by
    have:r.1 ∈ (x :: t).map toG:=hp.mem_iff.2 mr
    obtain ⟨z,hz,hz2⟩:=List.mem_map.1 this
    rw [← hz2]
    rcases List.mem_cons.1 hz with rfl|hz
    · unfold glt;omega
    · exact (List.pairwise_cons.1 hs).1 z hz
  have hge:=h2 _ mx
  have e:toG x = r.1:=GI_inj hI mx mr (by unfold glt at hle hge;omega)
  refine ⟨e,?_,GI_tail (GI_perm hI h1),(List.pairwise_cons.1 hs).2⟩
  have:=hp.trans h1.symm
  rw [List.map_cons,e] at this
  exact (List.perm_cons _).1 this
/-- Two groups made one. -/
theorem gjoin {n:Nat} {gs:List S78} (hI:GI n gs) (a b:S78) (t:List S78) (hp:(a :: b :: t).Perm gs) (k:Nat) (x:List Int) (hx:lputs k a.f1 b.f1 = some x) (hl:n ≤ 400):gasc x ∧ x.Perm (a.f1 ++ b.f1) ∧ GI n (t ++ [(⟨wrap64 (a.f0 + b.f0),x⟩:S78)]) ∧ (∀ i ∈ x,0 ≤ i ∧ i < (n:Int)):=by
  have h:=GI_perm hI hp
  have ha:=h.1 a List.mem_cons_self
  have hb:=h.1 b (List.mem_cons_of_mem _ List.mem_cons_self)
  have hnd:=h.2.1
  rw [List.flatMap_cons,List.flatMap_cons,← List.append_assoc] at hnd
  have hab:(a.f1 ++ b.f1).Nodup:=(List.nodup_append.1 hnd).1
  have bound:∀ y:List Int,gasc y → (∀ i ∈ y,0 ≤ i ∧ i < (n:Int)) → y.length ≤ n:=by
    intro y hy hm
    have hny:(y.map Int.toNat).Nodup:=by
      unfold gasc at hy
      unfold List.Nodup
      rw [List.pairwise_map]
      refine (List.Pairwise.and_mem.1 hy).imp ?_
      rintro p q ⟨hp,hq,h⟩
      have:=hm p hp
      have:=hm q hq
      omega
    have hsub:∀ i ∈ y.map Int.toNat,i ∈ List.range n:=by
      intro i hi
      obtain ⟨j,hj,rfl⟩:=List.mem_map.1 hi
      have:=hm j hj
      exact List.mem_range.2 (by omega)
    have:=hny.length_le_of_subset (fun i hi=>hsub i hi)
    simpa using this
  have la:=bound a.f1 ha.2.1 ha.2.2.1
  have lb:=bound b.f1 hb.2.1 hb.2.2.1
  obtain ⟨x1,x2⟩:=glputs k b.f1 a.f1 x (by omega) ha.2.1 hab hx
  have xm:∀ i ∈ x,0 ≤ i ∧ i < (n:Int):=fun i hi=>by
    rcases List.mem_append.1 (x2.mem_iff.1 hi) with hi|hi
    · exact ha.2.2.1 i hi
    · exact hb.2.2.1 i hi
  have hsum:=h.2.2
  have hpos:=sum_ge _ (fun x hx=>(h.1 x hx).2.2.2)
  have hposT:=sum_ge t (fun x hx=>(h.1 x (List.mem_cons_of_mem _ (List.mem_cons_of_mem _ hx))).2.2.2)
  rw [List.map_cons,List.map_cons,List.sum_cons,List.sum_cons] at hsum
  have hw:wrap64 (a.f0 + b.f0) = a.f0 + b.f0:=by
    have:=ha.2.2.2
    have:=hb.2.2.2
    have:=hposT.1
    unfold wrap64;omega
  refine ⟨x1,x2,⟨fun y hy=>?_,?_,?_⟩,xm⟩
  · rcases List.mem_append.1 hy with hy|hy
    · exact h.1 y (List.mem_cons_of_mem _ (List.mem_cons_of_mem _ hy))
    · rw [List.mem_singleton] at hy
      subst hy
      refine ⟨fun e=>?_,x1,xm,?_⟩
      · have e:x = []:=e
        rw [e] at x2
        have q1:=x2.length_eq
        have q2:=List.length_pos_iff.2 ha.1
        rw [List.length_append,List.length_nil] at q1
        omega
      · show 0 ≤ wrap64 (a.f0 + b.f0)
        rw [hw]
        have:=ha.2.2.2
        have:=hb.2.2.2
        omega
  · rw [List.flatMap_append,List.flatMap_cons,List.flatMap_nil,List.append_nil]
    refine (List.Perm.nodup_iff ?_).2 hnd
    exact List.perm_append_comm.trans (x2.append_right _)
  · rw [List.map_append,List.sum_append,List.map_cons,List.map_nil,List.sum_cons,List.sum_nil]
    show _ + (wrap64 (a.f0 + b.f0) + 0) ≤ _
    rw [hw]
    omega
/-! ### The row in the walk; what its elements lead to; joining two; the first groups -/
theorem Try.run_append_gr2 {w0 W:World} (base:Nat) (v:Value) (ds:List GD) (y:GD) (ty:TypeId) (HG:GRow W base v ds) (HB:Below base w0 W) (hbase:base ≤ W.heap.size) (hn:ds.length ≤ 1000) :
    ∃ v1 w1,(Builtin.append_ #[83,83] ty #[v,.slice (some ⟨W.heap.size,0,none⟩) 1 1]).run Try.prog (W.alloc (.cells #[.int .i64 y.c,.slice (some y.A) y.has.length y.cap] 85)) = .ok v1 w1 ∧ GRow w1 base v1 (ds ++ [y]) ∧ Below base w0 w1 ∧ W.grownBy w1 v.ownBlock ∧ (v1.ownBlock = v.ownBlock ∨ ∃ b,v1.ownBlock = some b ∧ W.heap.size ≤ b):=by
  have hb:=heap_alloc_new W (.cells #[.int .i64 y.c,.slice (some y.A) y.has.length y.cap] 85)
  have hsz:(W.alloc (.cells #[.int .i64 y.c,.slice (some y.A) y.has.length y.cap] 85)).heap.size = W.heap.size + 1:=World.size_alloc _ _
  have hal:Below W.heap.size W (W.alloc (.cells #[.int .i64 y.c,.slice (some y.A) y.has.length y.cap] 85)):=below_alloc (Below.refl _ _) _
  generalize W.alloc (.cells #[.int .i64 y.c,.slice (some y.A) y.has.length y.cap] 85) = W' at *
  obtain ⟨v1,w1,hr,hg,hgr,hat⟩:=Try.run_append_gr W' base v ds y ty (GRow_below HG hal) ⟨W.heap.size,0,none⟩ 1 (fun j u hu=>by
    rw [Addr.add_mid,blk_cell hb,Nat.zero_add,← Array.getElem?_toList]
    exact hu) hn (by omega)
  have hlt:=GRow_lt HG
  have hgW:W.grownBy w1 v.ownBlock:=⟨hgr.os.trans hal.os,hgr.tape.trans hal.tape,hgr.output.trans hal.output,by have:=hgr.size;omega,fun k hk hne=>(hgr.block k (by omega) hne).trans (hal.block k hk)⟩
  refine ⟨v1,w1,hr,hg,HB.grown hgW hbase (fun k hk=>(hlt k hk).1),hgW,?_⟩
  · rcases hat with hat|hat
    · exact .inl hat
    · exact .inr ⟨_,hat,by omega⟩
section
variable {ops:Array Oper} {rest:List Oper} {o:Oper} {a:Act} {Q:Exit → Act → World → Prop} {Kc:Act → World → Prop} {w0 W:World}
theorem Try.gr_append (base:Nat) (hgd:o.guard = none) (s x:Operand) (ho:o.op = .call { callee:=.builtin .append,args:=#[s,x],argTypes:=#[83,83] })
    (v:Value) (ds:List GD) (y:GD) (hs:a.eval s = v) (hx:a.eval x = .slice (some ⟨W.heap.size,0,none⟩) 1 1) (HG:GRow W base v ds) (HB:Below base w0 W) (hbase:base ≤ W.heap.size) (hn:ds.length ≤ 1000)
    (h:∀ v1 w1,GRow w1 base v1 (ds ++ [y]) → Below base w0 w1 → W.grownBy w1 v.ownBlock → (v1.ownBlock = v.ownBlock ∨ ∃ b,v1.ownBlock = some b ∧ W.heap.size ≤ b) → wpList Try.prog ops Q rest (a.put o.dst v1) w1) :
    wpList Try.prog ops Q (o :: rest) a (W.alloc (.cells #[.int .i64 y.c,.slice (some y.A) y.has.length y.cap] 85)):=by
  refine wpList_plain hgd fun K hK=>?_
  obtain ⟨v1,w1,hr,h1,h2,h3,h4⟩:=Try.run_append_gr2 base v ds y o.type HG HB hbase hn
  unfold Oper.wp execOp
  simp only [ho,resolve,invoke,builtin,Sem.run_bind,Sem.run_pure,Result.andThen_ok,List.map_toArray,List.map_cons,List.map_nil,hs,hx,hr]
  exact hK _ _ (h v1 w1 h1 h2 h3 h4)
theorem Try.gr_append_step (base:Nat) (hw:Region.wanted o (yielded ops a.tmps) = true) (s x:Operand) (ho:o.op = .call { callee:=.builtin .append,args:=#[s,x],argTypes:=#[83,83] })
    (v:Value) (ds:List GD) (y:GD) (hs:a.eval s = v) (hx:a.eval x = .slice (some ⟨W.heap.size,0,none⟩) 1 1) (HG:GRow W base v ds) (HB:Below base w0 W) (hbase:base ≤ W.heap.size) (hn:ds.length ≤ 1000)
    (h:∀ v1 w1,GRow w1 base v1 (ds ++ [y]) → Below base w0 w1 → W.grownBy w1 v.ownBlock → (v1.ownBlock = v.ownBlock ∨ ∃ b,v1.ownBlock = some b ∧ W.heap.size ≤ b) → Kc (a.put o.dst v1) w1) :
    if Region.wanted o (yielded ops a.tmps) = true then Oper.wp Try.prog o a (W.alloc (.cells #[.int .i64 y.c,.slice (some y.A) y.has.length y.cap] 85)) Kc Q else Kc (a.put o.dst undef) (W.alloc (.cells #[.int .i64 y.c,.slice (some y.A) y.has.length y.cap] 85)):=by
  rw [if_pos hw]
  obtain ⟨v1,w1,hr,h1,h2,h3,h4⟩:=Try.run_append_gr2 base v ds y o.type HG HB hbase hn
  unfold Oper.wp execOp
  simp only [ho,resolve,invoke,builtin,Sem.run_bind,Sem.run_pure,Result.andThen_ok,List.map_toArray,List.map_cons,List.map_nil,hs,hx,hr]
  exact h v1 w1 h1 h2 h3 h4
end
/-- What the elements lead to is only read, and is neither the row nor block g. -/
def GF (w:World) (g:Nat) (v:Value) (ds:List GD):Prop:=v.ownBlock ≠ some g ∧ ∀ x ∈ ds,Kd.F (Kd.int .i64) w (fun k_=>k_ ≠ g ∧ some k_ ≠ v.ownBlock) (some x.A) x.has.length x.has ∧ x.has.length ≤ x.cap
theorem GF_nil (w:World) (g:Nat):GF w g (.slice none 0 0) []:=⟨by simp [Value.ownBlock],fun x hx=>by cases hx⟩
theorem GF_step {w w1:World} {g:Nat} {v:Value} {ds:List GD} (h:GF w g v ds) (hm:∀ k,k ≠ g → some k ≠ v.ownBlock → k < w.heap.size → w1.heap[k]? = w.heap[k]?):GF w1 g v ds :=
  ⟨h.1,fun x hx=>⟨Kd.F_step (h.2 x hx).1 (fun k hk hlt=>hm k hk.1 hk.2 hlt),(h.2 x hx).2⟩⟩
theorem GF_below {w w1:World} {g:Nat} {v:Value} {ds:List GD} (h:GF w g v ds) (hb:Below w.heap.size w w1):GF w1 g v ds:=GF_step h (fun k _ _ hlt=>hb.block k hlt)
theorem GF_mem {w:World} {g:Nat} {v:Value} {ds ds':List GD} (h:GF w g v ds) (hm:∀ x ∈ ds',x ∈ ds):GF w g v ds':=⟨h.1,fun x hx=>h.2 x (hm x hx)⟩
theorem GF_own {w:World} {g:Nat} {v v':Value} {ds:List GD} (h:GF w g v ds) (hv:v'.ownBlock = v.ownBlock):GF w g v' ds:=by
  unfold GF
  rw [hv]
  exact h
theorem GF_append {w w1:World} {g:Nat} {v v1:Value} {ds:List GD} {y:GD} (h:GF w g v ds) (hg:w.grownBy w1 v.ownBlock) (hat:v1.ownBlock = v.ownBlock ∨ ∃ b,v1.ownBlock = some b ∧ w.heap.size ≤ b) (hgl:g < w.heap.size) (hy:Kd.F (Kd.int .i64) w (fun k_=>k_ ≠ g ∧ some k_ ≠ v.ownBlock) (some y.A) y.has.length y.has) (hc:y.has.length ≤ y.cap):GF w1 g v1 (ds ++ [y]):=by
  refine ⟨?_,fun x hx=>?_⟩
  · rcases hat with hat|⟨b,hb,hle⟩
    · rw [hat];exact h.1
    · rw [hb];intro e;injection e with e;omega
  · rcases List.mem_append.1 hx with hx|hx
    · exact ⟨Kd.F_after (ok:=fun k_=>k_ ≠ g) (h.2 x hx).1 hg hat,(h.2 x hx).2⟩
    · rw [List.mem_singleton] at hx
      subst hx
      exact ⟨Kd.F_after (ok:=fun k_=>k_ ≠ g) hy hg hat,hc⟩
theorem GF_ok {w:World} {g n:Nat} {v:Value} {ds:List GD} (h:GF w g v ds) (hI:GI n (ds.map toG)) (hn:n ≤ 12) (k:Nat) (hk:v.ownBlock = some k):∀ x ∈ ds,x.ok w k:=by
  intro x hx
  have hm:toG x ∈ ds.map toG:=List.mem_map.2 ⟨x,hx,rfl⟩
  obtain ⟨h1,h2,h3,h4⟩:=hI.1 _ hm
  have hlen:0 < x.has.length:=List.length_pos_iff.2 h1
  have hs:=(sum_ge _ (fun z hz=>(hI.1 z hz).2.2.2)).2 _ hm
  have hs2:=hI.2.2
  have hh:=h3 _ (rd_mem x.has h1)
  have hF:=(h.2 x hx).1
  obtain ⟨ad,c,e,hcl,_,hcc,hok⟩:=Kd.F_get hF (0:Int) 0 (by omega) (by omega)
  injection e with e
  subst e
  have hok2:=hok (by decide)
  obtain ⟨ad2,e2,hc2⟩:=Kd.at_int (Kd.F_now hF) (0:Int) (by omega) (by omega)
  injection e2 with e2
  subst e2
  refine ⟨?_,fun e=>hok2.2 (by rw [e,hk]),hlen,⟨h4,?_⟩,hh.1,?_⟩
  · have:x.A.add (0:Int).toNat = x.A:=by simp [Addr.add]
    rw [this] at hc2
    exact hc2
  · show x.c ≤ _
    have:x.c ≤ 12000:=Int.le_trans hs hs2
    omega
  · have:=hh.2
    omega
theorem gconcat (a b:List Int) (ha:a.length ≤ 1000) (hb:b.length ≤ 1000):∃ k,slices_Concat_int_int.f k [a,b] = some (a ++ b):=by
  refine ⟨0 + 1 + 1 + 1 + 1 + 1 + 1,?_⟩
  have e1:wrap64 (0 + (a.length:Int)) = (a.length:Int):=by unfold wrap64;omega
  have e2:wrap64 ((a.length:Int) + (b.length:Int)) = ((a.length + b.length:Nat):Int):=by unfold wrap64;omega
  have e3:wrap64 (((a.length + b.length:Nat):Int)) = ((a.length + b.length:Nat):Int):=by unfold wrap64;omega
  have w0:wrap64 ((0:Int) + 1) = 1:=by unfold wrap64;omega
  have w1:wrap64 ((1:Int) + 1) = 2:=by unfold wrap64;omega
  have g:slices_Grow_int_int.f ((a.length + b.length:Nat):Int) = some []:=by
    unfold slices_Grow_int_int.f
    rw [if_neg (by omega),e3]
    by_cases h:((a.length + b.length:Nat):Int) > 0
    · rw [if_pos h,if_pos (by omega),if_pos (by simp;omega)]
      simp
    · rw [if_neg h]
  have l1:∀ k,slices_Concat_int_int.l1 (k + 1 + 1 + 1) [] [a,b] 2 0 = some (a ++ b):=by
    intro k
    rw [slices_Concat_int_int.l1]
    refine (if_pos (by decide)).trans ((if_pos (by decide)).trans ((if_pos (by simp)).trans ((if_pos (show ([]:List Int).length + a.length < 17592186044416 by simp;omega)).trans ?_)))
    rw [w0]
    show slices_Concat_int_int.l1 (k + 1 + 1) ([] ++ a) [a,b] 2 1 = _
    rw [slices_Concat_int_int.l1]
    refine (if_pos (by decide)).trans ((if_pos (by decide)).trans ((if_pos (by simp)).trans ((if_pos (show ([] ++ a:List Int).length + b.length < 17592186044416 by simp;omega)).trans ?_)))
    rw [w1]
    show slices_Concat_int_int.l1 (k + 1) ([] ++ a ++ b) [a,b] 2 2 = _
    rw [slices_Concat_int_int.l1,if_neg (by decide),List.nil_append]
  unfold slices_Concat_int_int.f
  show slices_Concat_int_int.l0 _ [a,b] 0 [a,b] 2 0 = _
  rw [slices_Concat_int_int.l0]
  refine (if_pos (by decide)).trans ((if_pos (by decide)).trans ((if_pos (by simp)).trans ?_))
  refine (if_neg (show ¬ wrap64 (0 + (a.length:Int)) < 0 by rw [e1];omega)).trans ?_
  rw [w0]
  show slices_Concat_int_int.l0 _ [a,b] (wrap64 (0 + (a.length:Int))) [a,b] 2 1 = _
  rw [e1,slices_Concat_int_int.l0]
  refine (if_pos (by decide)).trans ((if_pos (by decide)).trans ((if_pos (by simp)).trans ?_))
  refine (if_neg (show ¬ wrap64 ((a.length:Int) + (b.length:Int)) < 0 by rw [e2];omega)).trans ?_
  rw [w1]
  show slices_Concat_int_int.l0 _ [a,b] (wrap64 ((a.length:Int) + (b.length:Int))) [a,b] 2 2 = _
  rw [e2,slices_Concat_int_int.l0,if_neg (by decide),g,Option.bind_some]
  exact l1 0
theorem glgrp (n:Nat) (hn:n ≤ 12) (l:List Int):∀ (j:Nat) (acc:List S78),j + l.length = n → (∀ x ∈ l,0 ≤ x ∧ x ≤ 1000) → (∀ x ∈ acc,x.f1 ≠ [] ∧ gasc x.f1 ∧ (∀ i ∈ x.f1,0 ≤ i ∧ i < (j:Int)) ∧ 0 ≤ x.f0) → (acc.flatMap (·.f1)).Nodup → (acc.map (·.f0)).sum ≤ 1000 * (j:Int) → acc.length ≤ j → GI n (lgrp l j acc) ∧ (lgrp l j acc).length ≤ n:=by
  induction l with
  | nil =>
    intro j acc hj _ h1 h2 h3 h4
    simp only [List.length_nil,Nat.add_zero] at hj
    subst hj
    exact ⟨⟨h1,h2,by simp only [lgrp];omega⟩,h4⟩
  | cons c t ih =>
    intro j acc hj hc h1 h2 h3 h4
    rw [List.length_cons] at hj
    have hc0:=hc c List.mem_cons_self
    simp only [lgrp]
    have up:∀ x ∈ acc,x.f1 ≠ [] ∧ gasc x.f1 ∧ (∀ i ∈ x.f1,0 ≤ i ∧ i < ((j + 1:Nat):Int)) ∧ 0 ≤ x.f0:=fun x hx=>by
      obtain ⟨a1,a2,a3,a4⟩:=h1 x hx
      exact ⟨a1,a2,fun i hi=>by have:=a3 i hi;omega,a4⟩
    split
    · refine ih (j + 1) _ (by omega) (fun x hx=>hc x (List.mem_cons_of_mem _ hx)) (fun x hx=>?_) ?_ ?_ (by rw [List.length_append,List.length_singleton];omega)
      · rcases List.mem_append.1 hx with hx|hx
        · exact up x hx
        · rw [List.mem_singleton] at hx
          subst hx
          exact ⟨by simp,by unfold gasc;exact List.pairwise_singleton _ _,fun i hi=>by rw [List.mem_singleton] at hi;subst hi;omega,hc0.1⟩
      · rw [List.flatMap_append,List.flatMap_cons,List.flatMap_nil,List.append_nil,List.nodup_append]
        refine ⟨h2,by simp,fun x hx y hy=>?_⟩
        obtain ⟨z,hz,hz2⟩:=List.mem_flatMap.1 hx
        have:=(h1 z hz).2.2.1 x hz2
        rw [List.mem_singleton] at hy
        omega
      · rw [List.map_append,List.sum_append,List.map_cons,List.map_nil,List.sum_cons,List.sum_nil]
        show _ + (c + 0) ≤ _
        omega
    · exact ih (j + 1) acc (by omega) (fun x hx=>hc x (List.mem_cons_of_mem _ hx)) up h2 (by omega) (by omega)
theorem gasc_len {n:Nat} {y:List Int} (hy:gasc y) (hm:∀ i ∈ y,0 ≤ i ∧ i < (n:Int)):y.length ≤ n:=by
  have hny:(y.map Int.toNat).Nodup:=by
    unfold gasc at hy
    unfold List.Nodup
    rw [List.pairwise_map]
    refine (List.Pairwise.and_mem.1 hy).imp ?_
    rintro p q ⟨hp,hq,h⟩
    have:=hm p hp
    have:=hm q hq
    omega
  have:=hny.length_le_of_subset (l₂:=List.range n) (fun i hi=>by
    obtain ⟨j,hj,rfl⟩:=List.mem_map.1 hi
    have:=hm j hj
    exact List.mem_range.2 (by omega))
  simpa using this
theorem gC2 {W:World} {gb c1 c2:Nat} {A1 A2:Addr} {a b:List Int} (hb:W.heap[gb]? = some (.cells #[.slice (some A1) a.length c1,.slice (some A2) b.length c2] 41 (0,0))) (h1:Kd.C (Kd.int .i64) W (some A1) a.length a) (l1:a.length ≤ c1) (h2:Kd.C (Kd.int .i64) W (some A2) b.length b) (l2:b.length ≤ c2):Kd.C (Kd.slice 3 (Kd.int .i64)) W (some ⟨gb,0,none⟩) [a,b].length [a,b]:=by
  refine ⟨rfl,by simp,fun _=>⟨_,rfl,fun j p hj=>?_⟩⟩
  match j,hj with
  | 0,hj =>
    simp only [List.getElem?_cons_zero,Option.some.injEq] at hj
    subst hj
    refine ⟨[.slice (some A1) a.length c1],rfl,⟨_,_,rfl,l1,h1⟩,fun i u hu=>?_⟩
    match i,hu with
    | 0,hu =>
      simp only [List.getElem?_cons_zero,Option.some.injEq] at hu
      subst hu
      exact (blk_cell hb 0).trans rfl
    | i + 1,hu=>simp at hu
  | 1,hj =>
    simp only [List.getElem?_cons_succ,List.getElem?_cons_zero,Option.some.injEq] at hj
    subst hj
    refine ⟨[.slice (some A2) b.length c2],rfl,⟨_,_,rfl,l2,h2⟩,fun i u hu=>?_⟩
    match i,hu with
    | 0,hu =>
      simp only [List.getElem?_cons_zero,Option.some.injEq] at hu
      subst hu
      exact (blk_cell hb 1).trans rfl
    | i + 1,hu=>simp at hu
  | j + 2,hj=>simp at hj
theorem GRow_cut2 {w:World} {base:Nat} {g off cap n:Nat} {x y:GD} {ds:List GD} (h:GRow w base (.slice (some ⟨g,off,none⟩) n cap) (x :: y :: ds)):GRow w base (.slice (if cap = (2:Int).toNat then (some ⟨g,off,none⟩) else (some (⟨g,off,none⟩:Addr)).map (·.add ((2:Int).toNat * 2))) (n - (2:Int).toNat) (cap - (2:Int).toNat)) ds:=by
  have hn:n = ds.length + 2:=by
    obtain ⟨A,c,e,_⟩:=GRow_form h
    have e2:n = (x :: y :: ds).length:=by injection e
    rw [e2];rfl
  have hc:=GRow_cut h
  have e2:(2:Int).toNat = 2:=rfl
  rw [e2,hn,Nat.add_sub_cancel]
  by_cases g2:cap = 2
  · rw [if_pos g2]
    have hcap:ds = []:=by
      rcases h with ⟨h,_⟩|⟨g',off',cap',he,hb,hg,hc,hf,hd⟩
      · cases h
      · injection he with h1 h2 h3
        subst h3
        simp only [List.length_cons] at hc
        exact List.eq_nil_of_length_eq_zero (by omega)
    subst hcap
    rcases h with ⟨h,_⟩|⟨g',off',cap',he,hb,hg,hc,hf,hd⟩
    · cases h
    · injection he with h1 h2 h3
      injection h1 with h1
      injection h1 with h1 h4
      subst h1 h4 h3
      exact .inr ⟨_,_,_,rfl,hb,hg,by simp,fun j hj=>by omega,fun j u hu=>by simp [genc] at hu⟩
  · rw [if_neg g2]
    show GRow w base (.slice (some ((⟨g,off,none⟩:Addr).add (2 * 2))) ds.length (cap - 2)) ds
    rw [Addr.add_mid]
    exact hc
theorem cut2_own {g off cap n:Nat}:(Value.slice (if cap = (2:Int).toNat then (some ⟨g,off,none⟩) else (some (⟨g,off,none⟩:Addr)).map (·.add ((2:Int).toNat * 2))) (n - (2:Int).toNat) (cap - (2:Int).toNat)).ownBlock = some g:=by
  split
  · rfl
  · show some ((⟨g,off,none⟩:Addr).add ((2:Int).toNat * 2)).block = some g
    rw [Addr.add_mid]
theorem Try.sort_grown (base:Nat) (v:Value) (xs:List Int) (ok:Nat → Prop) (w:World) (h:(Kd.int .i64).R 3 w base ok v xs) (hn:xs.length < 4611686018427387904) :
    Calls Try.prog 68 #[v] w fun x w'=>x = .returned (.tuple #[]) ∧ Aside0 ((Kd.int .i64).R 3 w' base ok v (xs.mergeSort fun a b=>decide (a ≤ b)) ∧ w.grownBy w' v.ownBlock):=by
  rcases Nat.eq_zero_or_pos xs.length with h0|h0
  · obtain rfl:=List.eq_nil_of_length_eq_zero h0
    obtain ⟨A,c,rfl⟩:=Kd.R_slice h
    refine (Try.sort0 A c w).mono ?_
    rintro e w' ⟨rfl,hd⟩
    exact ⟨rfl,⟨by rw [List.mergeSort_nil];exact Kd.R_below h hd.out,⟨hd.out.os,hd.out.tape,hd.out.output,hd.out.size,fun k hk _=>hd.out.block k hk⟩⟩⟩
  · have hok:=h.1
    have ho:=Kd.own_of_R (enc:=Value.int .i64) (h1:=fun _=>rfl) h
    rcases ho with ⟨hl,⟨hv,hn0⟩|⟨g,cap,cur,rfl,hbase,hb,h1,h2,h3,h4⟩⟩
    · omega
    have hb1:Go.Sort.Holds (Value.int .i64) w g 0 xs.toArray:=holds_of_blockI hb (by simpa [encs] using h4)
    have hblk:g < w.heap.size:=(Array.getElem?_eq_some_iff.1 hb).1
    have hcall:=Any.slices_Sort_int Try.laysSort g 0 cap xs w hb1 hblk hn
    rw [Try.fSort] at hcall
    refine hcall.mono ?_
    rintro e w' ⟨rfl,n,os,rfl⟩
    refine ⟨rfl,⟨?_,grownBy_sortedI _⟩⟩
    have hlen:(xs.mergeSort fun a b=>decide (a ≤ b)).length = xs.length:=List.length_mergeSort _
    have hown:=ownsRow_sortedI (n:=n) (os:=os) (ss:=xs) (ts:=xs.mergeSort fun a b=>decide (a ≤ b)) hlen hbase hb h1 h2 h3
    rw [← hlen] at hown ⊢
    exact Kd.R_of_own (enc:=Value.int .i64) (h1:=fun _=>rfl) hown hok
theorem gsorted {x cat:List Int} (h1:gasc x) (h2:x.Perm cat):(cat.mergeSort fun a b=>decide (a ≤ b)) = x:=by
  have p:(cat.mergeSort fun a b=>decide (a ≤ b)).Perm cat:=List.mergeSort_perm cat _
  have s:(cat.mergeSort fun a b=>decide (a ≤ b)).Pairwise (fun a b=>decide (a ≤ b) = true):=List.pairwise_mergeSort (by intro a b c;simp;omega) (by intro a b;simp;omega) cat
  refine (p.trans h2.symm).eq_of_pairwise (fun x y _ _ a b=>by omega) (s.imp (fun h=>by simpa using h):List.Pairwise (· ≤ ·) _) ?_
  unfold gasc at h1
  exact h1.imp (fun h=>by omega)
/-! ### impl.LengthsOf, told by the reference's rounds -/
def impl_LengthsOf.f (k:Nat) (l:List Int):Option (List Int × Bool):=(impl_areWithin.f l 1000).bind fun b=>if b = true then (if l.length ≤ 12 ∧ ∀ x ∈ l,0 ≤ x ∧ x ≤ 1000 then (lone (lgrp l 0 []) (List.replicate l.length 0)).bind fun o=>(lrun k k (lgrp l 0 []) o).bind fun o'=>some (o',true) else none) else some ([],false)
theorem impl_LengthsOf.mono (l:List Int) (k:Nat):LeO (impl_LengthsOf.f k l) (impl_LengthsOf.f (k + 1) l):=by
  intro r h
  unfold impl_LengthsOf.f at h ⊢
  obtain ⟨b,hb,h⟩:=Option.bind_eq_some_iff.1 h
  rw [hb,Option.bind_some]
  split at h
  · rename_i g
    rw [if_pos g]
    split at h
    · rename_i g2
      rw [if_pos g2]
      obtain ⟨q,hq,h⟩:=Option.bind_eq_some_iff.1 h
      obtain ⟨q2,hq2,h⟩:=Option.bind_eq_some_iff.1 h
      rw [hq,Option.bind_some,lrun_mono _ _ _ _ q2 hq2,Option.bind_some]
      exact h
    · cases h
  · rename_i g
    rw [if_neg g];exact h
set_option maxHeartbeats 4000000 in
set_option maxRecDepth 1000000 in
theorem impl_LengthsOf.calls (k:Nat) (A0:Option Addr) (c0:Nat) (l0:List Int) (r1:List Int) (r2:Bool) (w:World) (hr0:Kd.C (Kd.int .i64) w A0 l0.length l0) (hc0:l0.length ≤ c0) (h:impl_LengthsOf.f k l0 = some (r1,r2)) :
    Calls Try.prog 28 #[.slice A0 l0.length c0] w fun e w'=>∃ v0_:Value,e = .returned (.tuple #[v0_,.bool r2]) ∧ Kd.R (Kd.int .i64) 3 w' w.heap.size (fun _=>True) v0_ r1 ∧ Below w.heap.size w w':=by
  unfold impl_LengthsOf.f at h
  obtain ⟨b0,hb0,h⟩:=Option.bind_eq_some_iff.1 h
  have hcall:=impl_areWithin.calls A0 c0 l0 1000 b0 w hr0 hc0 hb0
  clear hb0
  have HR0:=Aside0.mk hr0
  have HC0:=Aside0.mk hc0
  have HB:=Aside0.mk (Below.refl w.heap.size w)
  clear hr0 hc0
  cases b0 with
  | false =>
    rw [if_neg (by simp)] at h
    simp only [Option.some.injEq,Prod.mk.injEq] at h
    obtain ⟨rfl,rfl⟩:=h
    go_enter Try.func28,Try.ntmps28
    go_wp2_with (go_at_call 64;refine hcall.mono ?_;first|rintro e_ W1 rfl hd|rintro e_ W1 ⟨rfl,hd⟩;have HBn:=Aside0.mk (below_step HB.out hd);clear HB;have HB:=HBn;clear HBn hd)
    go_ret2
    exact ⟨_,rfl,Kd.R_nil _ _ _ _ _,HB.out⟩
  | true =>
    rw [if_pos rfl] at h
    split at h
    rotate_left
    · cases h
    rename_i hlen
    obtain ⟨hlen,hbnd⟩:=hlen
    obtain ⟨o1,ho1,h⟩:=Option.bind_eq_some_iff.1 h
    obtain ⟨o2,ho2,h⟩:=Option.bind_eq_some_iff.1 h
    simp only [Option.some.injEq,Prod.mk.injEq] at h
    obtain ⟨rfl,rfl⟩:=h
    obtain ⟨HGI,HGL0⟩:=glgrp l0.length hlen l0 0 [] (by simp) hbnd (fun x hx=>by cases hx) (by simp) (by simp) (by simp)
    obtain ⟨gs1,hgs1⟩:∃ g_,g_ = lgrp l0 0 []:=⟨_,rfl⟩
    rw [← hgs1] at ho1 ho2 HGI HGL0
    have HO1:=Aside0.mk ho1
    have HO2:=Aside0.mk ho2
    have HGS:=Aside0.mk hgs1.symm
    have HI0:=Aside0.mk HGI
    clear ho1 ho2 hgs1 hbnd HGI
    go_enter Try.func28,Try.ntmps28
    go_wp2_with (first|(go_at_call 64;refine hcall.mono ?_;first|rintro e_ W1 rfl hd|rintro e_ W1 ⟨rfl,hd⟩;have HBn:=Aside0.mk (below_step HB.out hd);clear HB;have HB:=HBn;clear HBn hd)|((with_reducible refine gate_dst (N:=16) rfl ?_);refine Kd.R_make (Kd.int .i64) (w0:=w) w.heap.size 3 rfl (N:=16) rfl 41 _ _ rfl (l0.length:Int) rfl rfl Try.underlying41 (.int .i64 0) 8 info3 rfl (by decide) (by decide) (0:Int) (ok:=fun k_=>k_ = W1.heap.size) (okp:=fun _=>False) rfl (fun _ hk=>hk.elim) rfl (by omega) (by omega) HB.out HB.out.size ?_;intro vo W2 ho hb_ hg_ hn_;have HGW:=Aside0.mk (show W1.heap.size < W2.heap.size from by obtain ⟨b_,e_,l_⟩:=hn_;have:=Kd.R_lt ho b_ e_;have:=ho.1 b_ e_;omega);have HGE:=Aside0.mk HB.out.size;have HBn:=Aside0.mk hb_;clear HB;have HB:=HBn;have HOU:=Aside0.mk ho;have HOV:=Aside0.mk hn_;clear HBn ho hb_ hg_ hn_))
    obtain ⟨go,hgo⟩:∃ g_,g_ = W1.heap.size:=⟨_,rfl⟩
    rw [← hgo] at HGW HGE HOU HOV
    rw [Int.toNat_natCast] at HOU
    obtain ⟨ou,hou⟩:∃ u_,u_ = List.replicate l0.length (0:Int):=⟨_,rfl⟩
    rw [← hou] at HOU HO1
    have HOL:=Aside0.mk (show ou.length = l0.length from by rw [hou,List.length_replicate])
    clear hgo hou
    obtain ⟨Ao,co,rfl⟩:=Kd.R_slice HOU.out
    obtain ⟨no,hno⟩:∃ n_,n_ = ou.length:=⟨_,rfl⟩
    rw [← hno] at HOU HOV ⊢
    have HNO:=Aside0.mk hno
    clear hno
    obtain ⟨b_,e_,l_⟩:=HOV.out
    cases Ao with
    | none=>simp [Value.ownBlock] at e_
    | some ao =>
      obtain ⟨g_,rfl⟩:=Kd.R_head HOU.out
      have hgg:g_ = go:=HOU.out.1 g_ (by simp [Value.ownBlock])
      subst hgg
      clear e_ l_ HOV HGW
      rename_i hlen_
      go_loopw [5,19] (fun v5 v19 wr=>∃ (j:Nat) (ds:List GD),j ≤ l0.length ∧ ds.length ≤ j ∧ v19 = .int .i64 j ∧ Hid (lgrp (l0.drop j) j (ds.map toG) = gs1) ∧ Hid (GRow wr w.heap.size v5 ds) ∧ Hid (GF wr g_ v5 ds) ∧ Hid (Kd.R (Kd.int .i64) 3 wr w.heap.size (fun k_=>k_ = g_) (.slice (some ⟨g_,0,none⟩) no co) ou) ∧ Hid (Below w.heap.size w wr)) (fun _ v19 _=>l0.length - (intOf v19).toNat)
      case atStart=>exact ⟨0,[],Nat.zero_le _,Nat.zero_le _,rfl,HGS.out,GRow_nil _ _,GF_nil _ _,HOU.out,HB.out⟩
      case round =>
        clear HGS HOU HB
        obtain ⟨j,ds,hj,hal,rfl,hgr,hN,hF,hO,hB⟩:=hrel
        unfold Hid at hgr hN hF hO hB
        by_cases hp:j < l0.length
        · obtain ⟨ad,e0,q0⟩:=Kd.at_int HR0.out (j:Int) (by omega) (by omega)
          subst e0
          have hrd:rd l0 (j:Int) = l0[j]:=by unfold rd;simp [List.getD_eq_getElem?_getD,hp]
          rw [Int.toNat_natCast,hrd] at q0
          rw [List.drop_eq_getElem_cons hp] at hgr
          generalize l0[j] = n0 at hgr q0
          simp only [lgrp] at hgr
          replace q0:=(hB.cell (World.block_lt_of_cell? w _ q0)).trans q0
          obtain ⟨A5,c5,rfl,h5⟩:=GRow_form hN
          have HG:=Aside0.mk hgr
          have HN:=Aside0.mk hN
          have HF:=Aside0.mk hF
          have HO:=Aside0.mk hO
          have HB:=Aside0.mk hB
          clear hgr hN hF hO hB hrd
          have t1:=eq_true (show (0:Int) ≤ (j:Int) by omega)
          have t2:=eq_true (show (j:Int) < (l0.length:Int) by omega)
          have t3:=eq_true hp
          by_cases hn0:0 < n0
          · have hgr:=HG.out
            rw [if_pos hn0] at hgr
            have HG:=Aside0.mk hgr
            clear hgr
            have u1:=eq_true hn0
            have HGL:=Aside0.mk (Kd.R_lt HO.out g_ (by simp [Value.ownBlock]))
            have HLT:=Aside0.mk (GRow_lt HN.out)
            go_wp2_with (first|((with_reducible refine gate_dst (N:=29) rfl ?_);refine Kd.R_lit (Kd.int .i64) (w0:=w) w.heap.size 3 ?hg (N:=29) ?hd (xs:=[(j:Int)]) (inner:=[.int .i64 (j:Int)]) (ok:=fun k_=>k_ = wr.heap.size) (okp:=fun _=>False) ?hr ?hp (fun _ hk=>hk.elim) rfl HB.out HB.out.size (by simp) ?_;(case hd=>rfl);(case hg=>rfl);(case hr=>first|(go_simp;done)|(go_simp;rfl));(case hp=>exact (Reps.one rfl (Reps.none _ _)));intro v29 W3 hl_ hb_ hg_ hn_;obtain ⟨gL,e1,rfl,_⟩:=Kd.R_form hl_ (by simp);have HL:=Aside0.mk (Kd.N_F (Kd.R_N hl_));have HLE:=Aside0.mk (Kd.R_reads' hl_).2.1;have HG3:=Aside0.mk (show g_ < W3.heap.size from Nat.lt_of_lt_of_le HGL.out hg_.size);have HN3:=Aside0.mk (GRow_move HN.out hg_.size (fun k_ _ hlt_=>hg_.block k_ hlt_ (by simp)));have HF3:=Aside0.mk (GF_step HF.out (fun k_ _ _ hlt_=>hg_.block k_ hlt_ (by simp)));have HO3:=Aside0.mk (Kd.R_grown HO.out hg_ (fun _ _=>by simp));have HB3:=Aside0.mk hb_;clear hl_ hb_ hg_ hn_ HN HF HO HB)|((with_reducible refine gate_builtin (b:=.append) (xs:=#[.tmp 26,.tmp 31]) rfl ?_);at_builtin;refine Try.gr_append (w0:=w) w.heap.size rfl (.tmp 26) (.tmp 31) rfl (.slice A5 ds.length c5) ds (⟨n0,[(j:Int)],⟨gL,0,none⟩,e1⟩:GD) rfl rfl HN3.out HB3.out HB3.out.size (by omega) ?_;intro v5' W4 hq_ hb_ hg_ ha_;have HO4:=Aside0.mk (Kd.R_grown HO3.out hg_ (fun k_ hk e_=>HF3.out.1 (by rw [← e_,hk])));have HN4:=Aside0.mk hq_;have HF4:=Aside0.mk (GF_append HF3.out hg_ ha_ HG3.out (y:=(⟨n0,[(j:Int)],⟨gL,0,none⟩,e1⟩:GD)) (Kd.F_mono HL.out (fun k_ hk=>⟨by have:=HGL.out;omega,fun e_=>by have:=(HLT.out k_ e_.symm).2;omega⟩)) HLE.out);have HB4:=Aside0.mk hb_;clear hq_ hb_ hg_ ha_))
            go_roundw
            case rel=>exact ⟨j + 1,ds ++ [(⟨n0,[(j:Int)],⟨gL,0,none⟩,e1⟩:GD)],hp,by rw [List.length_append,List.length_singleton];omega,rfl,by rw [List.map_append];exact HG.out,HN4.out,HF4.out,HO4.out,HB4.out⟩
            case measure=>simp [intOf];omega
          · have hgr:=HG.out
            rw [if_neg hn0] at hgr
            have HG:=Aside0.mk hgr
            clear hgr
            have u1:=eq_false hn0
            go_wp2
            go_roundw
            case rel=>exact ⟨j + 1,ds,hp,by omega,rfl,HG.out,HN.out,HF.out,HO.out,HB.out⟩
            case measure=>simp [intOf];omega
        · obtain rfl:j = l0.length:=by omega
          rw [List.drop_length] at hgr
          simp only [lgrp] at hgr
          have HDS:=Aside0.mk hgr
          obtain ⟨A5,c5,rfl,h5⟩:=GRow_form hN
          have HN:=Aside0.mk hN
          have HF:=Aside0.mk hF
          have HO:=Aside0.mk hO
          have HB:=Aside0.mk hB
          have HAL:=Aside0.mk hal
          clear hN hF hO hB hal hp hj hgr h5
          by_cases hone:ds.length = 1
          · have ho1:=HO1.out
            rw [← HDS.out] at ho1
            unfold lone at ho1
            rw [if_pos (by rw [List.length_map];exact hone)] at ho1
            obtain ⟨x,hdx⟩:∃ x,ds = [x]:=by
              match ds,hone with
              | [x],_=>exact ⟨x,rfl⟩
            split at ho1
            rotate_left
            · cases ho1
            rename_i hq
            rw [hdx] at hq ho1
            have hq2:0 < x.has.length ∧ 0 ≤ rd x.has 0 ∧ rd x.has 0 < (ou.length:Int):=hq
            have hoe:ou.set (rd x.has 0).toNat 1 = o1:=Option.some.inj ho1
            obtain ⟨z1,z2,z3⟩:=hq2
            clear hq ho1
            obtain ⟨g5,off5,cap5,e5⟩:=GRow_some HN.out (by omega)
            have eA':A5 = some ⟨g5,off5,none⟩:=by injection e5
            subst eA'
            clear e5
            have hcells:=GRow_at HN.out 0 x (by rw [hdx];rfl)
            rw [Nat.zero_mul,Nat.add_zero] at hcells
            obtain ⟨q0,q1⟩:=hcells
            obtain ⟨al,eL,p0⟩:=Kd.at_int (Kd.F_now (HF.out.2 x (by rw [hdx];exact List.mem_cons_self)).1) 0 (by omega) (by omega)
            injection eL with eL
            subst eL
            have hcl:=Kd.R_cell (enc:=Value.int .i64) (h1:=fun _=>rfl) (0:Int) (HNO.out ▸ HO.out) (rd x.has 0) z2 z3
            obtain ⟨hc1,hc2⟩:=hcl
            have t1:=eq_true z2
            have t2:=eq_true (show rd x.has 0 < (no:Int) from by rw [HNO.out];exact z3)
            have t3:=eq_true (show (0:Int) < (x.has.length:Int) by omega)
            have t4:=eq_true z1
            have p0':wr.cell? x.A = some (.int .i64 (rd x.has 0)):=(show x.A.add 0 = x.A from by simp [Addr.add]) ▸ p0
            have hl1:(ds.length:Int) = 1:=by omega
            have u9:=eq_true hl1
            go_wp2
            have HOn:=Aside0.mk (Kd.R_putn (enc:=Value.int .i64) (h1:=fun _=>rfl) HO.out (rd x.has 0) (1:Int))
            have HSZ:=Aside0.mk (show (wr.setCell ⟨g_,(rd x.has 0).toNat,none⟩ (.int .i64 1)).heap.size = wr.heap.size by simp [World.setCell])
            have HNn:=Aside0.mk (GRow_move HN.out (Nat.le_of_eq HSZ.out.symm) (fun k_ hk_ _=>Below.heap_setCell wr ⟨g_,(rd x.has 0).toNat,none⟩ (.int .i64 1) k_ (fun e_=>HF.out.1 (by rw [hk_,e_]))))
            have HFn:=Aside0.mk (GF_step HF.out (fun k_ hk_ _ _=>Below.heap_setCell wr ⟨g_,(rd x.has 0).toNat,none⟩ (.int .i64 1) k_ hk_))
            have HBn:=Aside0.mk (below_set HB.out HGE.out (v:=.int .i64 1) (j:=(rd x.has 0).toNat))
            clear HO HN HF HB HSZ hc1 hc2 p0' p0 q0 q1
            generalize wr.setCell ⟨g_,(rd x.has 0).toNat,none⟩ (.int .i64 1) = W5 at HOn HNn HFn HBn ⊢
            have HL5:=Aside0.mk (show o1.length = no from by rw [← hoe,HNO.out];exact List.length_set ..)
            rw [hoe] at HOn
            clear u9 hl1 t1 t2 t3 t4 z1 z2 z3 hdx
            clear hone
            have HO2':=HO2
            go_loopg [5] k (fun kq v5 w'=>∃ (gs:List S78) (ds:List GD) (oc:List Int),Aside0 (lrun k kq gs oc = some o2) ∧ Aside0 (kq ≤ k) ∧ Aside0 ((ds.map toG).Perm gs) ∧ Aside0 (GI l0.length gs) ∧ ds.length ≤ 12 ∧ Aside0 (GRow w' w.heap.size v5 ds) ∧ Aside0 (GF w' g_ v5 ds) ∧ Aside0 (Kd.R (Kd.int .i64) 3 w' w.heap.size (fun k_=>k_ = g_) (.slice (some ⟨g_,0,none⟩) no co) oc) ∧ Aside0 (oc.length = no) ∧ Aside0 (Below w.heap.size w w'))
            case atStart=>exact ⟨gs1,ds,_,HO2,⟨Nat.le_refl _⟩,⟨List.Perm.of_eq HDS.out⟩,HI0,by have:=HAL.out;omega,HNn,HFn,HOn,HL5,HBn⟩
            case round =>
              clear HNn HFn HOn HL5 HBn HO2 HO2' HDS HAL
              rename World=>wq
              obtain ⟨gs,ds,oc,HA,HK1,HP,HI,hd12,HN,HF,HO,HL,HB⟩:=hrel
              cases gk with
              | zero=>exact absurd HA.out (by simp [lrun])
              | succ k1 =>
                have H:=HA.out
                simp only [lrun] at H
                clear HA
                obtain ⟨A6,c6,rfl,h6⟩:=GRow_form HN.out
                have hgl:gs.length = ds.length:=by have:=HP.out.length_eq;rw [List.length_map] at this;exact this.symm
                by_cases hm:1 < gs.length
                · rw [if_pos hm] at H
                  obtain ⟨a,ha,H⟩:=Option.bind_eq_some_iff.1 H
                  obtain ⟨b,hb,H⟩:=Option.bind_eq_some_iff.1 H
                  split at H
                  rotate_left
                  · cases H
                  rename_i hg2
                  obtain ⟨x,hx,H⟩:=Option.bind_eq_some_iff.1 H
                  split at H
                  rotate_left
                  · cases H
                  rename_i hg3
                  obtain ⟨o3,ho3,H⟩:=Option.bind_eq_some_iff.1 H
                  have H':=Aside0.mk H
                  have HX':=Aside0.mk hx
                  have HI':=Aside0.mk ho3
                  have HAA:=Aside0.mk ha
                  have HBB:=Aside0.mk hb
                  clear H hx ho3 ha hb hg2
                  have u1:=eq_true (show (1:Int) < (ds.length:Int) by omega)
                  have HGL:=Aside0.mk (Kd.R_lt HO.out g_ (by simp [Value.ownBlock]))
                  have HOK:=GF_ok HF.out (GI_perm HI.out HP.out) hlen
                  have hcall1:=Try.gsort_walk w.heap.size (.slice A6 ds.length c6) ds wq (fun e_=>by rw [e_,List.length_nil] at hgl;omega) (by omega) HOK HN.out
                  clear HOK
                  go_upto_region 15 with (go_at_call 65;refine hcall1.mono ?_;first|rintro e_ W6 rfl ds' hp' hs' hn' hg'|rintro e_ W6 ⟨rfl,ds',hp',hs',hn',hg'⟩;have HP6:=Aside0.mk hp';have HS6:=Aside0.mk hs';have HF6:=Aside0.mk (GF_mem (GF_step HF.out (fun k_ _ hk_ hlt_=>hg'.out.block k_ hlt_ hk_)) (fun z_ hz_=>hp'.mem_iff.1 hz_));have HO6:=Aside0.mk (Kd.R_grown HO.out hg'.out (fun k_ hk_ e_=>HF.out.1 (by rw [← e_,hk_])));have HB6:=Aside0.mk (HB.out.grown hg'.out HB.out.size (fun k_ hk_=>(GRow_lt HN.out k_ hk_).1));have HGL6:=Aside0.mk (Nat.lt_of_lt_of_le HGL.out hg'.out.size);have HN6:=hn';clear hcall1 hp' hs' hn' hg' HN HF HO HB HGL)
                  have hd':ds'.length = ds.length:=HP6.out.length_eq
                  have hPm:(ds'.map toG).Perm gs:=(HP6.out.map toG).trans HP.out
                  obtain ⟨x1,y1,t,hdx⟩:∃ x1 y1 t,ds' = x1 :: y1 :: t:=by
                    match ds',(show 1 < ds'.length by omega) with
                    | x1 :: y1 :: t,_=>exact ⟨x1,y1,t,rfl⟩
                  have hs6:=HS6.out
                  rw [hdx] at hs6 hPm
                  obtain ⟨ea,pa,ia,sa⟩:=gfirst HI.out a HAA.out x1 (y1 :: t) hPm hs6
                  obtain ⟨eb,pb,ib,_⟩:=gfirst ia b HBB.out y1 t pa sa
                  have hlp:=HX'.out
                  rw [← ea,← eb] at hlp
                  obtain ⟨j1,j2,j3,j4⟩:=gjoin HI.out (toG x1) (toG y1) (t.map toG) hPm k x hlp (by omega)
                  have hH:=H'.out
                  rw [← ea,← eb] at hH
                  have HLR:=Aside0.mk hH
                  have HJ2:=Aside0.mk (show x.Perm (x1.has ++ y1.has) from j2)
                  have HJ1:=Aside0.mk j1
                  have HJ3:=Aside0.mk j3
                  have HJM:=Aside0.mk j4
                  have HPB:=Aside0.mk pb
                  clear hs6 hPm ea pa ia sa eb pb ib hlp j1 j2 j3 j4 H' HX' HAA HBB HP6 HS6 hH
                  obtain ⟨g5,off5,cap5,e5⟩:=GRow_some HN6.out (by omega)
                  have eA':A6 = some ⟨g5,off5,none⟩:=by injection e5
                  subst eA'
                  clear e5
                  rw [hdx] at HN6 HF6
                  have HD2:=Aside0.mk (show ds.length = t.length + 2 by rw [← hd',hdx];rfl)
                  obtain ⟨q0,q1⟩:=GRow_at HN6.out 0 x1 rfl
                  obtain ⟨p0,p1⟩:=GRow_at HN6.out 1 y1 rfl
                  rw [Nat.zero_mul,Nat.add_zero] at q0 q1
                  rw [Nat.one_mul] at p0 p1
                  have i0:=eq_true (show 0 < ds.length by omega)
                  have i1:=eq_true (show 1 < ds.length by omega)
                  have la_:x1.has.length ≤ 1000 ∧ y1.has.length ≤ 1000:=by
                    have:=HJ2.out.length_eq
                    rw [List.length_append] at this
                    have:=gasc_len HJ1.out HJM.out
                    omega
                  obtain ⟨kc,hkc⟩:=gconcat x1.has y1.has la_.1 la_.2
                  obtain ⟨cat_,hcat⟩:∃ q_,q_ = x1.has ++ y1.has:=⟨_,rfl⟩
                  rw [← hcat] at hkc
                  have HCT:=Aside0.mk hcat
                  clear hcat la_
                  have hd0:Below W6.heap.size W6 W6.drew:=below_drew1 (Below.refl _ _)
                  replace q0:=(hd0.cell (World.block_lt_of_cell? _ _ q0)).trans q0
                  replace q1:=(hd0.cell (World.block_lt_of_cell? _ _ q1)).trans q1
                  replace p0:=(hd0.cell (World.block_lt_of_cell? _ _ p0)).trans p0
                  replace p1:=(hd0.cell (World.block_lt_of_cell? _ _ p1)).trans p1
                  replace HN6:=Aside0.mk (GRow_below HN6.out hd0)
                  replace HF6:=Aside0.mk (GF_below HF6.out hd0)
                  replace HO6:=Aside0.mk (Kd.R_below HO6.out hd0)
                  replace HGL6:=Aside0.mk (Nat.lt_of_lt_of_le HGL6.out hd0.size)
                  replace HB6:=Aside0.mk (below_step HB6.out hd0)
                  clear hd0
                  refine start_ (n:=22) (S:=fun w'=>w'.cell? ⟨g5,off5,none⟩ = some (.int .i64 x1.c) ∧ w'.cell? ⟨g5,off5 + 1,none⟩ = some (.slice (some x1.A) x1.has.length x1.cap) ∧ w'.cell? ⟨g5,off5 + 2,none⟩ = some (.int .i64 y1.c) ∧ w'.cell? ⟨g5,off5 + 2 + 1,none⟩ = some (.slice (some y1.A) y1.has.length y1.cap)) (ds:=[]) #[false,false,false,false,false,false,false,false,false,false,false,false,false,false,false,false,false,false,false,false,false,false] (by kernel_rfl) rfl rfl ⟨q0,q1,p0,p1⟩ (fun hHeld=>?_)
                  generalize W6.drew = W7 at q0 q1 p0 p1 HN6 HF6 HO6 HGL6 HB6 hHeld ⊢
                  refine pure_ (i:=0) (N:=(some 50)) (v:=?_) (a':=?_) #[true,false,false,false,false,false,false,false,false,false,false,false,false,false,false,false,false,false,false,false,false,false] rfl rfl (by kernel_rfl) (fun _ _ _ h=>h) (Or.inl ⟨by rfl,?_⟩) ?_ ?_
                  rotate_left
                  · intro w'
                    go_simp
                    with_reducible rfl
                  rotate_left
                  · simp only [Act.put,List.setIfInBounds_toArray,List.set_cons_zero,List.set_cons_succ,i64_w,i32_w]
                    rfl
                  refine pure_ (i:=1) (N:=(some 51)) (v:=?_) (a':=?_) #[true,true,false,false,false,false,false,false,false,false,false,false,false,false,false,false,false,false,false,false,false,false] rfl rfl (by kernel_rfl) (fun _ _ _ h=>h) (Or.inl ⟨by rfl,?_⟩) ?_ ?_
                  rotate_left
                  · intro w'
                    go_simp
                    with_reducible rfl
                  rotate_left
                  · simp only [Act.put,List.setIfInBounds_toArray,List.set_cons_zero,List.set_cons_succ,i64_w,i32_w]
                    rfl
                  refine pure_ (i:=2) (N:=(some 52)) (v:=?_) (a':=?_) #[true,true,true,false,false,false,false,false,false,false,false,false,false,false,false,false,false,false,false,false,false,false] rfl rfl (by kernel_rfl) (fun _ _ _ h=>h) (Or.inl ⟨by rfl,?_⟩) ?_ ?_
                  rotate_left
                  · intro w'
                    go_simp
                    with_reducible rfl
                  rotate_left
                  · simp only [Act.put,List.setIfInBounds_toArray,List.set_cons_zero,List.set_cons_succ,i64_w,i32_w]
                    rfl
                  refine take_ (i:=3) (N:=(some 53)) (v:=?_) (a':=?_) #[true,true,true,true,false,false,false,false,false,false,false,false,false,false,false,false,false,false,false,false,false,false] rfl rfl (by kernel_rfl) (fun _ _ _ h=>h) (Or.inl ⟨by rfl,?_⟩) hHeld ?_ ?_
                  rotate_left
                  · intro w' ⟨s0,s1,s2,s3⟩
                    go_simp
                    with_reducible rfl
                  rotate_left
                  · simp only [Act.put,List.setIfInBounds_toArray,List.set_cons_zero,List.set_cons_succ,i64_w,i32_w]
                    rfl
                  refine pure_ (i:=4) (N:=(some 54)) (v:=?_) (a':=?_) #[true,true,true,true,true,false,false,false,false,false,false,false,false,false,false,false,false,false,false,false,false,false] rfl rfl (by kernel_rfl) (fun _ _ _ h=>h) (Or.inl ⟨by rfl,?_⟩) ?_ ?_
                  rotate_left
                  · intro w'
                    go_simp
                    with_reducible rfl
                  rotate_left
                  · simp only [Act.put,List.setIfInBounds_toArray,List.set_cons_zero,List.set_cons_succ,i64_w,i32_w]
                    rfl
                  refine pure_ (i:=5) (N:=(some 55)) (v:=?_) (a':=?_) #[true,true,true,true,true,true,false,false,false,false,false,false,false,false,false,false,false,false,false,false,false,false] rfl rfl (by kernel_rfl) (fun _ _ _ h=>h) (Or.inl ⟨by rfl,?_⟩) ?_ ?_
                  rotate_left
                  · intro w'
                    go_simp
                    with_reducible rfl
                  rotate_left
                  · simp only [Act.put,List.setIfInBounds_toArray,List.set_cons_zero,List.set_cons_succ,i64_w,i32_w]
                    rfl
                  refine pure_ (i:=6) (N:=(some 56)) (v:=?_) (a':=?_) #[true,true,true,true,true,true,true,false,false,false,false,false,false,false,false,false,false,false,false,false,false,false] rfl rfl (by kernel_rfl) (fun _ _ _ h=>h) (Or.inl ⟨by rfl,?_⟩) ?_ ?_
                  rotate_left
                  · intro w'
                    go_simp
                    with_reducible rfl
                  rotate_left
                  · simp only [Act.put,List.setIfInBounds_toArray,List.set_cons_zero,List.set_cons_succ,i64_w,i32_w]
                    rfl
                  refine take_ (i:=7) (N:=(some 57)) (v:=?_) (a':=?_) #[true,true,true,true,true,true,true,true,false,false,false,false,false,false,false,false,false,false,false,false,false,false] rfl rfl (by kernel_rfl) (fun _ _ _ h=>h) (Or.inl ⟨by rfl,?_⟩) hHeld ?_ ?_
                  rotate_left
                  · intro w' ⟨s0,s1,s2,s3⟩
                    go_simp
                    with_reducible rfl
                  rotate_left
                  · simp only [Act.put,List.setIfInBounds_toArray,List.set_cons_zero,List.set_cons_succ,i64_w,i32_w]
                    rfl
                  refine pure_ (i:=8) (N:=(some 58)) (v:=?_) (a':=?_) #[true,true,true,true,true,true,true,true,true,false,false,false,false,false,false,false,false,false,false,false,false,false] rfl rfl (by kernel_rfl) (fun _ _ _ h=>h) (Or.inl ⟨by rfl,?_⟩) ?_ ?_
                  rotate_left
                  · intro w'
                    go_simp
                    with_reducible rfl
                  rotate_left
                  · simp only [Act.put,List.setIfInBounds_toArray,List.set_cons_zero,List.set_cons_succ,i64_w,i32_w]
                    rfl
                  refine pure_ (i:=9) (N:=(some 59)) (v:=?_) (a':=?_) #[true,true,true,true,true,true,true,true,true,true,false,false,false,false,false,false,false,false,false,false,false,false] rfl rfl (by kernel_rfl) (fun _ _ _ h=>h) (Or.inl ⟨by rfl,?_⟩) ?_ ?_
                  rotate_left
                  · intro w'
                    go_simp
                    with_reducible rfl
                  rotate_left
                  · simp only [Act.put,List.setIfInBounds_toArray,List.set_cons_zero,List.set_cons_succ,i64_w,i32_w]
                    rfl
                  refine pure_ (i:=10) (N:=(some 60)) (v:=?_) (a':=?_) #[true,true,true,true,true,true,true,true,true,true,true,false,false,false,false,false,false,false,false,false,false,false] rfl rfl (by kernel_rfl) (fun _ _ _ h=>h) (Or.inl ⟨by rfl,?_⟩) ?_ ?_
                  rotate_left
                  · intro w'
                    go_simp
                    with_reducible rfl
                  rotate_left
                  · simp only [Act.put,List.setIfInBounds_toArray,List.set_cons_zero,List.set_cons_succ,i64_w,i32_w]
                    rfl
                  refine pure_ (i:=11) (N:=(some 61)) (v:=?_) (a':=?_) #[true,true,true,true,true,true,true,true,true,true,true,true,false,false,false,false,false,false,false,false,false,false] rfl rfl (by kernel_rfl) (fun _ _ _ h=>h) (Or.inl ⟨by rfl,?_⟩) ?_ ?_
                  rotate_left
                  · intro w'
                    go_simp
                    with_reducible rfl
                  rotate_left
                  · simp only [Act.put,List.setIfInBounds_toArray,List.set_cons_zero,List.set_cons_succ,i64_w,i32_w]
                    rfl
                  refine take_ (i:=12) (N:=(some 62)) (v:=?_) (a':=?_) #[true,true,true,true,true,true,true,true,true,true,true,true,true,false,false,false,false,false,false,false,false,false] rfl rfl (by kernel_rfl) (fun _ _ _ h=>h) (Or.inl ⟨by rfl,?_⟩) hHeld ?_ ?_
                  rotate_left
                  · intro w' ⟨s0,s1,s2,s3⟩
                    go_simp
                    with_reducible rfl
                  rotate_left
                  · simp only [Act.put,List.setIfInBounds_toArray,List.set_cons_zero,List.set_cons_succ,i64_w,i32_w]
                    rfl
                  refine pure_ (i:=13) (N:=(some 63)) (v:=?_) (a':=?_) #[true,true,true,true,true,true,true,true,true,true,true,true,true,true,false,false,false,false,false,false,false,false] rfl rfl (by kernel_rfl) (fun _ _ _ h=>h) (Or.inl ⟨by rfl,?_⟩) ?_ ?_
                  rotate_left
                  · intro w'
                    go_simp
                    with_reducible rfl
                  rotate_left
                  · simp only [Act.put,List.setIfInBounds_toArray,List.set_cons_zero,List.set_cons_succ,i64_w,i32_w]
                    rfl
                  refine pure_ (i:=14) (N:=(some 64)) (v:=?_) (a':=?_) #[true,true,true,true,true,true,true,true,true,true,true,true,true,true,true,false,false,false,false,false,false,false] rfl rfl (by kernel_rfl) (fun _ _ _ h=>h) (Or.inl ⟨by rfl,?_⟩) ?_ ?_
                  rotate_left
                  · intro w'
                    go_simp
                    with_reducible rfl
                  rotate_left
                  · simp only [Act.put,List.setIfInBounds_toArray,List.set_cons_zero,List.set_cons_succ,i64_w,i32_w]
                    rfl
                  refine pure_ (i:=15) (N:=(some 65)) (v:=?_) (a':=?_) #[true,true,true,true,true,true,true,true,true,true,true,true,true,true,true,true,false,false,false,false,false,false] rfl rfl (by kernel_rfl) (fun _ _ _ h=>h) (Or.inl ⟨by rfl,?_⟩) ?_ ?_
                  rotate_left
                  · intro w'
                    go_simp
                    with_reducible rfl
                  rotate_left
                  · simp only [Act.put,List.setIfInBounds_toArray,List.set_cons_zero,List.set_cons_succ,i64_w,i32_w]
                    rfl
                  refine take_ (i:=16) (N:=(some 66)) (v:=?_) (a':=?_) #[true,true,true,true,true,true,true,true,true,true,true,true,true,true,true,true,true,false,false,false,false,false] rfl rfl (by kernel_rfl) (fun _ _ _ h=>h) (Or.inl ⟨by rfl,?_⟩) hHeld ?_ ?_
                  rotate_left
                  · intro w' ⟨s0,s1,s2,s3⟩
                    go_simp
                    with_reducible rfl
                  rotate_left
                  · simp only [Act.put,List.setIfInBounds_toArray,List.set_cons_zero,List.set_cons_succ,i64_w,i32_w]
                    rfl
                  obtain ⟨sm,hsm⟩:∃ q_,q_ = wrap64 (x1.c + y1.c):=⟨_,rfl⟩
                  rw [← hsm]
                  have HSM:=Aside0.mk hsm
                  clear hsm
                  have m1:=HF6.out.2 x1 List.mem_cons_self
                  have m2:=HF6.out.2 y1 (List.mem_cons_of_mem _ List.mem_cons_self)
                  have HC:=Aside0.mk (Below.refl W7.heap.size W7)
                  refine join_ (σ:=Value × Nat × Nat) 1 #[true,true,true,true,true,true,true,true,true,true,true,true,true,true,true,true,true,true,true,true,true,false] (fun s_=>[(67,.slice (some ⟨s_.2.2,0,none⟩) 2 2),(68,s_.1),(8,.pointer (some ⟨s_.2.1,0,none⟩)),(69,.agg #[.int .i64 sm,s_.1])]) (fun s_ w'=>(w'.cell? ⟨g5,off5,none⟩ = some (.int .i64 x1.c) ∧ w'.cell? ⟨g5,off5 + 1,none⟩ = some (.slice (some x1.A) x1.has.length x1.cap) ∧ w'.cell? ⟨g5,off5 + 2,none⟩ = some (.int .i64 y1.c) ∧ w'.cell? ⟨g5,off5 + 2 + 1,none⟩ = some (.slice (some y1.A) y1.has.length y1.cap)) ∧ (Kd.int .i64).R 3 w' W7.heap.size (fun _=>True) s_.1 cat_ ∧ w'.heap[s_.2.1]? = some (.cells #[.int .i64 0,.slice none 0 0] 85 (0,0)) ∧ Below W7.heap.size W7 w' ∧ W7.heap.size ≤ s_.2.1 ∧ some s_.2.1 ≠ s_.1.ownBlock) ?_ ?_
                  rotate_left
                  · intro hCont
                    refine two_ (i:=17) (j:=20) (Ni:=some 67) (Nj:=some 8) #[true,true,true,true,true,true,true,true,true,true,true,true,true,true,true,true,true,true,false,false,false,false] #[true,true,true,true,true,true,true,true,true,true,true,true,true,true,true,true,true,false,false,false,true,false] rfl rfl rfl rfl (by kernel_rfl) (by decide) (by decide) (fun K hK=>?_) (fun K hK=>?_)
                    · skip
                      refine value_ (w1:=?_) (v:=?_) (by rfl) rfl ?_ ?_
                      rotate_left 2
                      · go_simp
                        constructor
                        · rfl
                        · rfl
                      refine hK.out _ _ ⟨((below_alloc (Below.refl _ _) _).cell (World.block_lt_of_cell? _ _ hHeld.1)).trans hHeld.1,((below_alloc (Below.refl _ _) _).cell (World.block_lt_of_cell? _ _ hHeld.2.1)).trans hHeld.2.1,((below_alloc (Below.refl _ _) _).cell (World.block_lt_of_cell? _ _ hHeld.2.2.1)).trans hHeld.2.2.1,((below_alloc (Below.refl _ _) _).cell (World.block_lt_of_cell? _ _ hHeld.2.2.2)).trans hHeld.2.2.2⟩ (fun hHeld=>?_)
                      clear hK K
                      have HK:=Aside0.mk (heap_alloc_new W7 (.cells #[.slice (some x1.A) x1.has.length x1.cap,.slice (some y1.A) y1.has.length y1.cap] 41))
                      replace HC:=Aside0.mk (below_alloc HC.out (.cells #[.slice (some x1.A) x1.has.length x1.cap,.slice (some y1.A) y1.has.length y1.cap] 41))
                      generalize W7.alloc (.cells #[.slice (some x1.A) x1.has.length x1.cap,.slice (some y1.A) y1.has.length y1.cap] 41) = W8 at HK HC hHeld ⊢
                      refine norm_ (a':=?_) ?_ ?_
                      rotate_left
                      · show Act.put _ (some 67) _ = _
                        simp only [Act.put,List.setIfInBounds_toArray,List.set_cons_zero,List.set_cons_succ,i64_w,i32_w]
                        rfl
                      refine two_ (i:=18) (j:=20) (Ni:=some 68) (Nj:=some 8) #[true,true,true,true,true,true,true,true,true,true,true,true,true,true,true,true,true,true,true,false,false,false] #[true,true,true,true,true,true,true,true,true,true,true,true,true,true,true,true,true,true,false,false,true,false] rfl rfl rfl rfl (by kernel_rfl) (by decide) (by decide) (fun K hK=>?_) (fun K hK=>?_)
                      · skip
                        refine goes_ Try.func67 (by kernel_rfl) rfl #[.slice (some ⟨W7.heap.size,0,none⟩) 2 2] (by rfl) rfl rfl (by (try simp only [List.map_toArray,List.map_cons,List.map_nil]);first|done|rfl) ?_
                        refine (slices_Concat_int_int.calls kc (some ⟨W7.heap.size,0,none⟩) 2 [x1.has,y1.has] cat_ W8 (gC2 HK.out (Kd.C_below (Kd.F_now m1.1) HC.out) m1.2 (Kd.C_below (Kd.F_now m2.1) HC.out) m2.2) (Nat.le_refl _) hkc).mono ?_
                        rintro e_ W9 ⟨v_,rfl,hr,hd⟩
                        refine ⟨_,rfl,?_⟩
                        obtain ⟨AW,cW,rfl⟩:=Kd.R_slice hr
                        have HW:=Aside0.mk (Kd.R_lower hr HC.out.size)
                        replace HC:=Aside0.mk (below_step HC.out hd)
                        refine hK.out _ _ ⟨(hd.cell (World.block_lt_of_cell? _ _ hHeld.1)).trans hHeld.1,(hd.cell (World.block_lt_of_cell? _ _ hHeld.2.1)).trans hHeld.2.1,(hd.cell (World.block_lt_of_cell? _ _ hHeld.2.2.1)).trans hHeld.2.2.1,(hd.cell (World.block_lt_of_cell? _ _ hHeld.2.2.2)).trans hHeld.2.2.2⟩ (fun hHeld=>?_)
                        clear hK K
                        clear hd hr
                        refine norm_ (a':=?_) ?_ ?_
                        rotate_left
                        · show Act.put _ (some 68) _ = _
                          simp only [Act.put,List.setIfInBounds_toArray,List.set_cons_zero,List.set_cons_succ,i64_w,i32_w]
                          rfl
                        refine pure_ (i:=19) (N:=(some 69)) (v:=?_) (a':=?_) #[true,true,true,true,true,true,true,true,true,true,true,true,true,true,true,true,true,true,true,true,false,false] rfl rfl (by kernel_rfl) (fun _ _ _ h=>h) (Or.inl ⟨by rfl,?_⟩) ?_ ?_
                        rotate_left
                        · intro w'
                          go_simp
                          with_reducible rfl
                        rotate_left
                        · simp only [Act.put,List.setIfInBounds_toArray,List.set_cons_zero,List.set_cons_succ,i64_w,i32_w]
                          rfl
                        refine one_ (i:=20) (N:=(some 8)) #[true,true,true,true,true,true,true,true,true,true,true,true,true,true,true,true,true,true,true,true,true,false] rfl rfl (by kernel_rfl) (by decide) (fun K hK=>?_)
                        refine box_step ?_ (N:=8) ?_ (cs:=#[.int .i64 0,.slice none 0 0]) (t:=85) ?_ ?_
                        · exact rfl
                        · exact rfl
                        · first|(go_simp;done)|(go_simp;rfl)
                        intro gy hgy W10 hbox hd
                        have HY:=Aside0.mk hbox
                        have hle:W7.heap.size ≤ gy:=by have:=HC.out.size;omega
                        replace HW:=Aside0.mk (Kd.R_below HW.out hd)
                        replace HC:=Aside0.mk (below_step HC.out hd)
                        refine hK.out _ _ ⟨(hd.cell (World.block_lt_of_cell? _ _ hHeld.1)).trans hHeld.1,(hd.cell (World.block_lt_of_cell? _ _ hHeld.2.1)).trans hHeld.2.1,(hd.cell (World.block_lt_of_cell? _ _ hHeld.2.2.1)).trans hHeld.2.2.1,(hd.cell (World.block_lt_of_cell? _ _ hHeld.2.2.2)).trans hHeld.2.2.2⟩ (fun hHeld=>?_)
                        clear hK K
                        clear hd hgy hbox
                        refine norm_ (a':=?_) ?_ ?_
                        rotate_left
                        · show Act.put _ (some 8) _ = _
                          simp only [Act.put,List.setIfInBounds_toArray,List.set_cons_zero,List.set_cons_succ,i64_w,i32_w]
                          rfl
                        exact norm_ (by simp only [putAll,Act.put,List.setIfInBounds_toArray,List.set_cons_zero,List.set_cons_succ]) (hCont (.slice AW cat_.length cW,gy,W7.heap.size) _ ⟨hHeld,HW.out,HY.out,HC.out,hle,Kd.R_ne HW.out HY.out (by decide)⟩)
                      · skip
                        refine box_step ?_ (N:=8) ?_ (cs:=#[.int .i64 0,.slice none 0 0]) (t:=85) ?_ ?_
                        · exact rfl
                        · exact rfl
                        · first|(go_simp;done)|(go_simp;rfl)
                        intro gy hgy W9 hbox hd
                        have HY:=Aside0.mk hbox
                        have hle:W7.heap.size ≤ gy:=by have:=HC.out.size;omega
                        replace HK:=Aside0.mk ((hd.block _ (blk_lt HK.out)).trans HK.out)
                        replace HC:=Aside0.mk (below_step HC.out hd)
                        refine hK.out _ _ ⟨(hd.cell (World.block_lt_of_cell? _ _ hHeld.1)).trans hHeld.1,(hd.cell (World.block_lt_of_cell? _ _ hHeld.2.1)).trans hHeld.2.1,(hd.cell (World.block_lt_of_cell? _ _ hHeld.2.2.1)).trans hHeld.2.2.1,(hd.cell (World.block_lt_of_cell? _ _ hHeld.2.2.2)).trans hHeld.2.2.2⟩ (fun hHeld=>?_)
                        clear hK K
                        clear hd hgy hbox
                        refine norm_ (a':=?_) ?_ ?_
                        rotate_left
                        · show Act.put _ (some 8) _ = _
                          simp only [Act.put,List.setIfInBounds_toArray,List.set_cons_zero,List.set_cons_succ,i64_w,i32_w]
                          rfl
                        refine one_ (i:=18) (N:=(some 68)) #[true,true,true,true,true,true,true,true,true,true,true,true,true,true,true,true,true,true,true,false,true,false] rfl rfl (by kernel_rfl) (by decide) (fun K hK=>?_)
                        refine goes_ Try.func67 (by kernel_rfl) rfl #[.slice (some ⟨W7.heap.size,0,none⟩) 2 2] (by rfl) rfl rfl (by (try simp only [List.map_toArray,List.map_cons,List.map_nil]);first|done|rfl) ?_
                        refine (slices_Concat_int_int.calls kc (some ⟨W7.heap.size,0,none⟩) 2 [x1.has,y1.has] cat_ W9 (gC2 HK.out (Kd.C_below (Kd.F_now m1.1) HC.out) m1.2 (Kd.C_below (Kd.F_now m2.1) HC.out) m2.2) (Nat.le_refl _) hkc).mono ?_
                        rintro e_ W10 ⟨v_,rfl,hr,hd⟩
                        refine ⟨_,rfl,?_⟩
                        obtain ⟨AW,cW,rfl⟩:=Kd.R_slice hr
                        have HW:=Aside0.mk (Kd.R_lower hr HC.out.size)
                        replace HY:=Aside0.mk ((hd.block _ (blk_lt HY.out)).trans HY.out)
                        replace HC:=Aside0.mk (below_step HC.out hd)
                        refine hK.out _ _ ⟨(hd.cell (World.block_lt_of_cell? _ _ hHeld.1)).trans hHeld.1,(hd.cell (World.block_lt_of_cell? _ _ hHeld.2.1)).trans hHeld.2.1,(hd.cell (World.block_lt_of_cell? _ _ hHeld.2.2.1)).trans hHeld.2.2.1,(hd.cell (World.block_lt_of_cell? _ _ hHeld.2.2.2)).trans hHeld.2.2.2⟩ (fun hHeld=>?_)
                        clear hK K
                        clear hd hr
                        refine norm_ (a':=?_) ?_ ?_
                        rotate_left
                        · show Act.put _ (some 68) _ = _
                          simp only [Act.put,List.setIfInBounds_toArray,List.set_cons_zero,List.set_cons_succ,i64_w,i32_w]
                          rfl
                        refine pure_ (i:=19) (N:=(some 69)) (v:=?_) (a':=?_) #[true,true,true,true,true,true,true,true,true,true,true,true,true,true,true,true,true,true,true,true,true,false] rfl rfl (by kernel_rfl) (fun _ _ _ h=>h) (Or.inl ⟨by rfl,?_⟩) ?_ ?_
                        rotate_left
                        · intro w'
                          go_simp
                          with_reducible rfl
                        rotate_left
                        · simp only [Act.put,List.setIfInBounds_toArray,List.set_cons_zero,List.set_cons_succ,i64_w,i32_w]
                          rfl
                        exact norm_ (by simp only [putAll,Act.put,List.setIfInBounds_toArray,List.set_cons_zero,List.set_cons_succ]) (hCont (.slice AW cat_.length cW,gy,W7.heap.size) _ ⟨hHeld,HW.out,HY.out,HC.out,hle,Kd.R_ne HW.out HY.out (by decide)⟩)
                    · skip
                      refine box_step ?_ (N:=8) ?_ (cs:=#[.int .i64 0,.slice none 0 0]) (t:=85) ?_ ?_
                      · exact rfl
                      · exact rfl
                      · first|(go_simp;done)|(go_simp;rfl)
                      intro gy hgy W8 hbox hd
                      have HY:=Aside0.mk hbox
                      have hle:W7.heap.size ≤ gy:=by have:=HC.out.size;omega
                      replace HC:=Aside0.mk (below_step HC.out hd)
                      refine hK.out _ _ ⟨(hd.cell (World.block_lt_of_cell? _ _ hHeld.1)).trans hHeld.1,(hd.cell (World.block_lt_of_cell? _ _ hHeld.2.1)).trans hHeld.2.1,(hd.cell (World.block_lt_of_cell? _ _ hHeld.2.2.1)).trans hHeld.2.2.1,(hd.cell (World.block_lt_of_cell? _ _ hHeld.2.2.2)).trans hHeld.2.2.2⟩ (fun hHeld=>?_)
                      clear hK K
                      clear hd hgy hbox
                      refine norm_ (a':=?_) ?_ ?_
                      rotate_left
                      · show Act.put _ (some 8) _ = _
                        simp only [Act.put,List.setIfInBounds_toArray,List.set_cons_zero,List.set_cons_succ,i64_w,i32_w]
                        rfl
                      refine one_ (i:=17) (N:=(some 67)) #[true,true,true,true,true,true,true,true,true,true,true,true,true,true,true,true,true,true,false,false,true,false] rfl rfl (by kernel_rfl) (by decide) (fun K hK=>?_)
                      refine value_ (w1:=?_) (v:=?_) (by rfl) rfl ?_ ?_
                      rotate_left 2
                      · go_simp
                        constructor
                        · rfl
                        · rfl
                      refine hK.out _ _ ⟨((below_alloc (Below.refl _ _) _).cell (World.block_lt_of_cell? _ _ hHeld.1)).trans hHeld.1,((below_alloc (Below.refl _ _) _).cell (World.block_lt_of_cell? _ _ hHeld.2.1)).trans hHeld.2.1,((below_alloc (Below.refl _ _) _).cell (World.block_lt_of_cell? _ _ hHeld.2.2.1)).trans hHeld.2.2.1,((below_alloc (Below.refl _ _) _).cell (World.block_lt_of_cell? _ _ hHeld.2.2.2)).trans hHeld.2.2.2⟩ (fun hHeld=>?_)
                      clear hK K
                      have HK:=Aside0.mk (heap_alloc_new W8 (.cells #[.slice (some x1.A) x1.has.length x1.cap,.slice (some y1.A) y1.has.length y1.cap] 41))
                      replace HY:=Aside0.mk (blk_alloc HY.out (.cells #[.slice (some x1.A) x1.has.length x1.cap,.slice (some y1.A) y1.has.length y1.cap] 41))
                      replace HC:=Aside0.mk (below_alloc HC.out (.cells #[.slice (some x1.A) x1.has.length x1.cap,.slice (some y1.A) y1.has.length y1.cap] 41))
                      generalize W8.alloc (.cells #[.slice (some x1.A) x1.has.length x1.cap,.slice (some y1.A) y1.has.length y1.cap] 41) = W9 at HK HC hHeld HY ⊢
                      refine norm_ (a':=?_) ?_ ?_
                      rotate_left
                      · show Act.put _ (some 67) _ = _
                        simp only [Act.put,List.setIfInBounds_toArray,List.set_cons_zero,List.set_cons_succ,i64_w,i32_w]
                        rfl
                      refine one_ (i:=18) (N:=(some 68)) #[true,true,true,true,true,true,true,true,true,true,true,true,true,true,true,true,true,true,true,false,true,false] rfl rfl (by kernel_rfl) (by decide) (fun K hK=>?_)
                      refine goes_ Try.func67 (by kernel_rfl) rfl #[.slice (some ⟨W8.heap.size,0,none⟩) 2 2] (by rfl) rfl rfl (by (try simp only [List.map_toArray,List.map_cons,List.map_nil]);first|done|rfl) ?_
                      refine (slices_Concat_int_int.calls kc (some ⟨W8.heap.size,0,none⟩) 2 [x1.has,y1.has] cat_ W9 (gC2 HK.out (Kd.C_below (Kd.F_now m1.1) HC.out) m1.2 (Kd.C_below (Kd.F_now m2.1) HC.out) m2.2) (Nat.le_refl _) hkc).mono ?_
                      rintro e_ W10 ⟨v_,rfl,hr,hd⟩
                      refine ⟨_,rfl,?_⟩
                      obtain ⟨AW,cW,rfl⟩:=Kd.R_slice hr
                      have HW:=Aside0.mk (Kd.R_lower hr HC.out.size)
                      replace HY:=Aside0.mk ((hd.block _ (blk_lt HY.out)).trans HY.out)
                      replace HC:=Aside0.mk (below_step HC.out hd)
                      refine hK.out _ _ ⟨(hd.cell (World.block_lt_of_cell? _ _ hHeld.1)).trans hHeld.1,(hd.cell (World.block_lt_of_cell? _ _ hHeld.2.1)).trans hHeld.2.1,(hd.cell (World.block_lt_of_cell? _ _ hHeld.2.2.1)).trans hHeld.2.2.1,(hd.cell (World.block_lt_of_cell? _ _ hHeld.2.2.2)).trans hHeld.2.2.2⟩ (fun hHeld=>?_)
                      clear hK K
                      clear hd hr
                      refine norm_ (a':=?_) ?_ ?_
                      rotate_left
                      · show Act.put _ (some 68) _ = _
                        simp only [Act.put,List.setIfInBounds_toArray,List.set_cons_zero,List.set_cons_succ,i64_w,i32_w]
                        rfl
                      refine pure_ (i:=19) (N:=(some 69)) (v:=?_) (a':=?_) #[true,true,true,true,true,true,true,true,true,true,true,true,true,true,true,true,true,true,true,true,true,false] rfl rfl (by kernel_rfl) (fun _ _ _ h=>h) (Or.inl ⟨by rfl,?_⟩) ?_ ?_
                      rotate_left
                      · intro w'
                        go_simp
                        with_reducible rfl
                      rotate_left
                      · simp only [Act.put,List.setIfInBounds_toArray,List.set_cons_zero,List.set_cons_succ,i64_w,i32_w]
                        rfl
                      exact norm_ (by simp only [putAll,Act.put,List.setIfInBounds_toArray,List.set_cons_zero,List.set_cons_succ]) (hCont (.slice AW cat_.length cW,gy,W8.heap.size) _ ⟨hHeld,HW.out,HY.out,HC.out,hle,Kd.R_ne HW.out HY.out (by decide)⟩)
                  clear m1 m2 HC
                  rintro ⟨vw,gy,gb⟩ W9 ⟨hHeld,hw_,hy_,hc_,hle,hne⟩
                  simp only at hw_ hy_ hle hne
                  obtain ⟨AW,cW,rfl⟩:=Kd.R_slice hw_
                  have HC:=Aside0.mk hc_
                  have HY:=Aside0.mk hy_
                  have HW:=Aside0.mk (Kd.R_types hw_ hy_ (by decide))
                  have HLE:=Aside0.mk hle
                  clear hw_ hy_ hc_ hle hne
                  refine norm_ (a':=?_) ?_ ?_
                  rotate_left
                  · simp only [putAll,Act.put,List.setIfInBounds_toArray,List.set_cons_zero,List.set_cons_succ]
                    rfl
                  refine one_ (i:=21) (N:=none) #[true,true,true,true,true,true,true,true,true,true,true,true,true,true,true,true,true,true,true,true,true,true] rfl rfl (by kernel_rfl) (by decide) (fun K hK=>?_)
                  have hs0:W9.cell? ⟨gy,0,none⟩ = some (.int .i64 0):=(blk_cell HY.out 0).trans rfl
                  have hf0:=blk_frozen HY.out 0
                  have hs1:W9.cell? ⟨gy,1,none⟩ = some (.slice none 0 0):=(blk_cell HY.out 1).trans rfl
                  have hf1:=blk_frozen HY.out 1
                  refine skip_ (w1:=?_) (by rfl) rfl ?_ ?_
                  rotate_left
                  · go_simp
                    rfl
                  have HYn:=Aside0.mk (blk_put (cs':=#[.int .i64 sm,.slice AW cat_.length cW]) (blk_put (cs':=#[.int .i64 sm,.slice none 0 0]) HY.out 0 (.int .i64 sm) rfl) 1 (.slice AW cat_.length cW) rfl)
                  have HWn:=Aside0.mk (Kd.R_far (p:=⟨gy,1,none⟩) (Kd.R_far (p:=⟨gy,0,none⟩) HW.out (fun _ h=>h.2) (.int .i64 sm)) (fun _ h=>h.2) (.slice AW cat_.length cW))
                  have HCn:=(HC.out.setCell HLE.out (.int .i64 sm) (p:=⟨gy,0,none⟩)).setCell HLE.out (.slice AW cat_.length cW) (p:=⟨gy,1,none⟩)
                  have hh:((W9.setCell ⟨gy,0,none⟩ (.int .i64 sm)).setCell ⟨gy,1,none⟩ (.slice AW cat_.length cW)).cell? ⟨g5,off5,none⟩ = some (.int .i64 x1.c) ∧ ((W9.setCell ⟨gy,0,none⟩ (.int .i64 sm)).setCell ⟨gy,1,none⟩ (.slice AW cat_.length cW)).cell? ⟨g5,off5 + 1,none⟩ = some (.slice (some x1.A) x1.has.length x1.cap) ∧ ((W9.setCell ⟨gy,0,none⟩ (.int .i64 sm)).setCell ⟨gy,1,none⟩ (.slice AW cat_.length cW)).cell? ⟨g5,off5 + 2,none⟩ = some (.int .i64 y1.c) ∧ ((W9.setCell ⟨gy,0,none⟩ (.int .i64 sm)).setCell ⟨gy,1,none⟩ (.slice AW cat_.length cW)).cell? ⟨g5,off5 + 2 + 1,none⟩ = some (.slice (some y1.A) y1.has.length y1.cap):=⟨(HCn.cell (World.block_lt_of_cell? _ _ q0)).trans q0,(HCn.cell (World.block_lt_of_cell? _ _ q1)).trans q1,(HCn.cell (World.block_lt_of_cell? _ _ p0)).trans p0,(HCn.cell (World.block_lt_of_cell? _ _ p1)).trans p1⟩
                  clear hs0 hf0 hs1 hf1 HY HW HC
                  generalize (W9.setCell ⟨gy,0,none⟩ (.int .i64 sm)).setCell ⟨gy,1,none⟩ (.slice AW cat_.length cW) = W10 at HYn HWn HCn hh ⊢
                  refine hK.out _ _ hh (fun hHeld=>?_)
                  clear hK K hHeld
                  refine done_ (by kernel_rfl) ?_
                  clear hh q0 q1 p0 p1 i0 i1 u1
                  have HRL:=Aside0.mk (fun k_ hk_=>(GRow_lt HN6.out k_ hk_).2)
                  have HGL7:=HGL6
                  have HB7:=Aside0.mk HB6.out.size
                  replace HN6:=Aside0.mk (GRow_below HN6.out HCn)
                  replace HO6:=Aside0.mk (Kd.R_below HO6.out HCn)
                  replace HB6:=Aside0.mk (below_step HB6.out HCn)
                  have HC10:=Aside0.mk HCn
                  clear HCn HGL6
                  have hcl:cat_.length = x.length:=by rw [HCT.out];exact HJ2.out.length_eq.symm
                  rw [hcl] at HYn HWn ⊢
                  have hxp:x.Perm cat_:=by rw [HCT.out];exact HJ2.out
                  have hxs:=gsorted HJ1.out hxp
                  clear hxp HJ2 HCT hkc
                  have hcs:=Try.sort_grown W7.heap.size (.slice AW x.length cW) cat_ _ W10 HWn.out (by rw [hcl];omega)
                  rw [hxs] at hcs
                  have z1:W10.cell? ⟨gy,1,none⟩ = some (.slice AW x.length cW):=(blk_cell HYn.out 1).trans rfl
                  have HLW:=Aside0.mk (show ∀ k_,(Value.slice AW x.length cW).ownBlock = some k_ → W7.heap.size ≤ k_ ∧ k_ ≠ gy from fun k_ hk_=>⟨Kd.R_base HWn.out k_ hk_,(HWn.out.1 k_ hk_).2⟩)
                  go_upto_region 17 with (go_at_call 68;refine hcs.mono ?_;first|rintro e_ W11 rfl hs_|rintro e_ W11 ⟨rfl,hs_⟩;obtain ⟨hr_,hg_⟩:=hs_.out;have HX:=Aside0.mk ((hg_.block gy (blk_lt HYn.out) (fun e_=>(HLW.out gy e_.symm).2 rfl)).trans HYn.out);have HNs:=Aside0.mk (GRow_move HN6.out hg_.size (fun k_ hk_ hlt_=>hg_.block k_ hlt_ (fun e_=>by have:=(HLW.out k_ e_.symm).1;have:=HRL.out k_ hk_;omega)));have HFs:=Aside0.mk (GF_step HF6.out (fun k_ _ _ hlt_=>(hg_.block k_ (Nat.lt_of_lt_of_le hlt_ HC10.out.size) (fun e_=>by have:=(HLW.out k_ e_.symm).1;omega)).trans (HC10.out.block k_ hlt_)));have HOs:=Aside0.mk (Kd.R_grown HO6.out hg_ (fun k_ hk_ e_=>by have:=(HLW.out k_ e_.symm).1;have:=HGL7.out;omega));have HBs:=Aside0.mk (HB6.out.grown hg_ HB6.out.size (fun k_ hk_=>by have:=(HLW.out k_ hk_).1;have:=HB7.out;omega));have HRs:=Aside0.mk hr_;clear hcs hs_ hr_ hg_ HYn HWn HN6 HF6 HO6 HB6 z1)
                  have hx0:0 < x.length:=List.length_pos_iff.2 (HJ3.out.1 _ (List.mem_append_right _ List.mem_cons_self)).1
                  obtain ⟨gw,cw_,ew_,_⟩:=Kd.R_form HRs.out hx0
                  have eAW:AW = some ⟨gw,0,none⟩:=by injection ew_
                  subst eAW
                  clear ew_
                  obtain ⟨aw,haw⟩:∃ q_:Addr,q_ = ⟨gw,0,none⟩:=⟨_,rfl⟩
                  rw [← haw] at HX HRs HLW ⊢
                  clear haw
                  have hxcap:x.length ≤ cW:=(Kd.R_reads' HRs.out).2.1
                  have HF3:=Aside0.mk (Kd.F_mono (Kd.N_F (Kd.R_N (Kd.R_bound HRs.out))) (ok':=fun k_=>k_ ≠ g_ ∧ k_ ≠ gy ∧ some k_ ≠ (Value.slice (some ⟨g5,off5,none⟩) ds.length c6).ownBlock) (fun k_ hk=>⟨by have:=hk.2.1;have:=HGL7.out;omega,hk.1.2,fun e_=>by have:=HRL.out k_ e_.symm;have:=hk.2.1;omega⟩))
                  clear HRs HLW hxs hcl
                  have x121:W11.cell? ⟨gy,1,none⟩ = some (.slice (some aw) x.length cW):=(blk_cell HX.out 1).trans rfl
                  have hxl:x.length ≤ 1048576:=hg3
                  go_wp2
                  go_loopw [76] (fun v76 wr=>∃ (j:Nat) (od:List Int),j ≤ x.length ∧ v76 = .int .i64 j ∧ od.length = no ∧ Hid (lincs od (x.drop j) = some o3) ∧ Hid (Kd.F (Kd.int .i64) wr (fun k_=>k_ ≠ g_ ∧ k_ ≠ gy ∧ some k_ ≠ (Value.slice (some ⟨g5,off5,none⟩) ds.length c6).ownBlock) (some aw) x.length x) ∧ Hid (wr.heap[gy]? = some (.cells #[.int .i64 sm,.slice (some aw) x.length cW] 85 (0,0))) ∧ Hid (GRow wr w.heap.size (.slice (some ⟨g5,off5,none⟩) ds.length c6) (x1 :: y1 :: t)) ∧ Hid (GF wr g_ (.slice (some ⟨g5,off5,none⟩) ds.length c6) (x1 :: y1 :: t)) ∧ Hid (Kd.R (Kd.int .i64) 3 wr w.heap.size (fun k_=>k_ = g_) (.slice (some ⟨g_,0,none⟩) no co) od) ∧ Hid (Below w.heap.size w wr)) (fun v76 _=>x.length - (intOf v76).toNat)
                  case atStart=>exact ⟨0,oc,Nat.zero_le _,rfl,HL.out,HI'.out,HF3.out,HX.out,HNs.out,HFs.out,HOs.out,HBs.out⟩
                  case round =>
                    rename World=>wj
                    clear HI' HF3 HX HNs HFs HOs HBs x121 HL
                    obtain ⟨j,od,hj,rfl,hod,hli,hF,hX,hN,hG,hO,hB⟩:=hrel
                    unfold Hid at hli hF hX hN hG hO hB
                    have HX:=Aside0.mk hX
                    have HNs:=Aside0.mk hN
                    have HFs:=Aside0.mk hG
                    have HO6:=Aside0.mk hO
                    have HB6:=Aside0.mk hB
                    have HF3:=Aside0.mk hF
                    clear hX hN hG hO hB
                    by_cases hp:j < x.length
                    · obtain ⟨ad,e0,q0⟩:=Kd.at_int (Kd.F_now hF) (j:Int) (by omega) (by omega)
                      injection e0 with e0
                      subst e0
                      have hrd:rd x (j:Int) = x[j]:=by unfold rd;simp [List.getD_eq_getElem?_getD,hp]
                      rw [Int.toNat_natCast,hrd] at q0
                      rw [List.drop_eq_getElem_cons hp] at hli
                      generalize x[j] = n0 at hli q0
                      simp only [lincs] at hli
                      split at hli
                      rotate_left
                      · cases hli
                      rename_i hn0
                      have HLI:=Aside0.mk hli
                      obtain ⟨hc1,hc2⟩:=Kd.R_cell (enc:=Value.int .i64) (h1:=fun _=>rfl) (0:Int) (hod.symm ▸ HO6.out) n0 hn0.1 hn0.2
                      have hc1':wj.cell? ⟨g_,n0.toNat,none⟩ = some (.int .i64 (rd od n0)):=hc1
                      have t1:=eq_true (show (0:Int) ≤ (j:Int) by omega)
                      have t2:=eq_true (show (j:Int) < (x.length:Int) by omega)
                      have t3:=eq_true hp
                      have t4:=eq_true hn0.1
                      have t5:=eq_true (show n0 < (no:Int) from by rw [← hod];exact hn0.2)
                      clear hF hli hrd hc1
                      go_wp2
                      generalize hvv:wrap64 (rd od n0 + 1) = vv at HLI ⊢
                      have HSZ:=Aside0.mk (show (wj.setCell ⟨g_,n0.toNat,none⟩ (.int .i64 vv)).heap.size = wj.heap.size by simp [World.setCell])
                      have HFn:=Aside0.mk (Kd.F_far (p:=⟨g_,n0.toNat,none⟩) HF3.out (fun _ hk=>hk.1) (.int .i64 vv))
                      have HXn:=Aside0.mk ((Below.heap_setCell wj ⟨g_,n0.toNat,none⟩ (.int .i64 vv) gy (fun q_=>by have:=HGL7.out;have:=HLE.out;have q2_:gy = g_:=q_;omega)).trans HX.out)
                      have HNn:=Aside0.mk (GRow_move HNs.out (Nat.le_of_eq HSZ.out.symm) (fun k_ hk_ _=>Below.heap_setCell wj ⟨g_,n0.toNat,none⟩ (.int .i64 vv) k_ (fun e_=>HFs.out.1 (by rw [hk_,e_]))))
                      have HGn:=Aside0.mk (GF_step HFs.out (fun k_ hk_ _ _=>Below.heap_setCell wj ⟨g_,n0.toNat,none⟩ (.int .i64 vv) k_ hk_))
                      have HOn:=Aside0.mk (Kd.R_putn (enc:=Value.int .i64) (h1:=fun _=>rfl) HO6.out n0 vv)
                      have HBn:=Aside0.mk (below_set HB6.out HGE.out (v:=.int .i64 vv) (j:=n0.toNat))
                      clear hc1' hc2 hvv q0 HSZ
                      generalize wj.setCell ⟨g_,n0.toNat,none⟩ (.int .i64 vv) = W16 at HXn HFn HNn HGn HOn HBn ⊢
                      go_roundw
                      case rel=>exact ⟨j + 1,od.set n0.toNat vv,hp,rfl,by rw [List.length_set];exact hod,HLI.out,HFn.out,HXn.out,HNn.out,HGn.out,HOn.out,HBn.out⟩
                      case measure=>simp [intOf];omega
                    · obtain rfl:j = x.length:=by omega
                      rw [List.drop_length] at hli
                      simp only [lincs,Option.some.injEq] at hli
                      subst hli
                      clear hF hp hj
                      obtain ⟨i7,hi7,_,hsz7,_⟩:=info_parts ginfo
                      have hcut2:=cut_from (P:=Try.prog) 83 85 .i64 Try.underlying83 hi7 2 hsz7 (some ⟨g5,off5,none⟩) ds.length c6 2 (by omega) (by have:=HD2.out;omega)
                      obtain ⟨v6,hv6⟩:∃ q_,q_ = Value.slice (if c6 = (2:Int).toNat then (some ⟨g5,off5,none⟩) else (some (⟨g5,off5,none⟩:Addr)).map (·.add ((2:Int).toNat * 2))) (ds.length - (2:Int).toNat) (c6 - (2:Int).toNat):=⟨_,rfl⟩
                      rw [← hv6] at hcut2
                      have h6own:v6.ownBlock = some g5:=by rw [hv6];exact cut2_own
                      have HN2:=Aside0.mk (show GRow wj w.heap.size v6 t by rw [hv6];exact GRow_cut2 HNs.out)
                      have HG2:=Aside0.mk (GF_own (v':=v6) (GF_mem HFs.out (ds':=t) (fun z_ hz_=>List.mem_cons_of_mem _ (List.mem_cons_of_mem _ hz_))) (by rw [h6own];rfl))
                      have hgy5:gy ≠ g5:=by have:=HRL.out g5 rfl;have:=HLE.out;omega
                      have HGLj:=Aside0.mk (Kd.R_lt HO6.out g_ (by simp [Value.ownBlock]))
                      clear hv6 HNs HFs
                      go_upto_region 22 with fail
                      have hd0:Below wj.heap.size wj wj.drew:=below_drew1 (Below.refl _ _)
                      replace HX:=Aside0.mk ((hd0.block gy (blk_lt HX.out)).trans HX.out)
                      replace HN2:=Aside0.mk (GRow_below HN2.out hd0)
                      replace HG2:=Aside0.mk (GF_below HG2.out hd0)
                      replace HF3:=Aside0.mk (Kd.F_below HF3.out hd0)
                      replace HO6:=Aside0.mk (Kd.R_below HO6.out hd0)
                      replace HGLj:=Aside0.mk (Nat.lt_of_lt_of_le HGLj.out hd0.size)
                      replace HB6:=Aside0.mk (below_step HB6.out hd0)
                      clear hd0
                      refine start_ (n:=6) (S:=fun w'=>w'.cell? ⟨gy,0,none⟩ = some (.int .i64 sm) ∧ w'.cell? ⟨gy,1,none⟩ = some (.slice (some aw) x.length cW)) (ds:=[]) #[false,false,false,false,false,false] (by kernel_rfl) rfl rfl ⟨(blk_cell HX.out 0).trans rfl,(blk_cell HX.out 1).trans rfl⟩ (fun hHeld=>?_)
                      generalize wj.drew = wk at HX HN2 HG2 HF3 HO6 HGLj HB6 hHeld ⊢
                      refine pure_ (i:=0) (N:=(some 87)) (v:=?_) (a':=?_) #[true,false,false,false,false,false] rfl rfl (by kernel_rfl) (fun _ _ _ h=>h) (Or.inl ⟨by rfl,?_⟩) ?_ ?_
                      rotate_left
                      · intro w'
                        go_simp
                        with_reducible rfl
                      rotate_left
                      · simp only [Act.put,List.setIfInBounds_toArray,List.set_cons_zero,List.set_cons_succ,i64_w,i32_w]
                        rfl
                      refine pure_ (i:=1) (N:=(some 88)) (v:=?_) (a':=?_) #[true,true,false,false,false,false] rfl rfl (by kernel_rfl) (fun _ _ _ h=>h) (Or.inl ⟨by rfl,?_⟩) ?_ ?_
                      rotate_left
                      · intro w'
                        go_simp
                        with_reducible rfl
                      rotate_left
                      · simp only [Act.put,List.setIfInBounds_toArray,List.set_cons_zero,List.set_cons_succ,i64_w,i32_w]
                        rfl
                      refine take_ (i:=2) (N:=(some 89)) (v:=?_) (a':=?_) #[true,true,true,false,false,false] rfl rfl (by kernel_rfl) (fun _ _ _ h=>h) (Or.inl ⟨by rfl,?_⟩) hHeld ?_ ?_
                      rotate_left
                      · intro w' ⟨s0,s1⟩
                        go_simp
                        with_reducible rfl
                      rotate_left
                      · simp only [Act.put,List.setIfInBounds_toArray,List.set_cons_zero,List.set_cons_succ,i64_w,i32_w]
                        rfl
                      refine one_ (i:=3) (N:=(some 90)) #[true,true,true,true,false,false] rfl rfl (by kernel_rfl) (by decide) (fun K hK=>?_)
                      refine value_ (w1:=?_) (v:=?_) (by rfl) rfl ?_ ?_
                      rotate_left 2
                      · go_simp
                        constructor
                        · rfl
                        · rfl
                      refine hK.out _ _ ⟨(below_alloc (Below.refl _ _) _).cell (World.block_lt_of_cell? _ _ hHeld.1) |>.trans hHeld.1,(below_alloc (Below.refl _ _) _).cell (World.block_lt_of_cell? _ _ hHeld.2) |>.trans hHeld.2⟩ (fun hHeld=>?_)
                      clear hK K
                      refine norm_ (a':=?_) ?_ ?_
                      rotate_left
                      · show Act.put _ (some 90) _ = _
                        simp only [Act.put,List.setIfInBounds_toArray,List.set_cons_zero,List.set_cons_succ,i64_w,i32_w]
                        rfl
                      refine one_ (i:=4) (N:=(some 91)) #[true,true,true,true,true,false] rfl rfl (by kernel_rfl) (by decide) (fun K hK=>?_)
                      refine Try.gr_append_step (w0:=w) (W:=wk) w.heap.size rfl (.tmp 88) (.tmp 90) rfl v6 t (⟨sm,x,aw,cW⟩:GD) rfl rfl HN2.out HB6.out HB6.out.size (by have:=HD2.out;omega) ?_
                      intro v7 W18 hq_ hb_ hg_ ha_
                      have HO8:=Aside0.mk (Kd.R_grown HO6.out hg_ (fun k_ hk e_=>HG2.out.1 (by rw [← e_,hk])))
                      have HN8:=Aside0.mk hq_
                      have HF8:=Aside0.mk (GF_append HG2.out hg_ ha_ HGLj.out (y:=(⟨sm,x,aw,cW⟩:GD)) (Kd.F_mono HF3.out (fun k_ hk=>⟨hk.1,fun e_=>hk.2.2 (by rw [e_,h6own];rfl)⟩)) hxcap)
                      have HB8:=Aside0.mk hb_
                      have hh:W18.cell? ⟨gy,0,none⟩ = some (.int .i64 sm) ∧ W18.cell? ⟨gy,1,none⟩ = some (.slice (some aw) x.length cW):=by have hx8:=(hg_.block gy (blk_lt HX.out) (fun e_=>hgy5 (by rw [h6own] at e_;injection e_))).trans HX.out;exact ⟨(blk_cell hx8 0).trans rfl,(blk_cell hx8 1).trans rfl⟩
                      clear hq_ hb_ hg_ ha_
                      refine hK.out _ _ hh (fun hHeld=>?_)
                      clear hK K hHeld
                      refine norm_ (a':=?_) ?_ ?_
                      rotate_left
                      · show Act.put _ (some 91) _ = _
                        simp only [Act.put,List.setIfInBounds_toArray,List.set_cons_zero,List.set_cons_succ,i64_w,i32_w]
                        rfl
                      refine pure_ (i:=5) (N:=(some 5)) (v:=?_) (a':=?_) #[true,true,true,true,true,true] rfl rfl (by kernel_rfl) (fun _ _ _ h=>h) (Or.inl ⟨by rfl,?_⟩) ?_ ?_
                      rotate_left
                      · intro w'
                        go_simp
                        with_reducible rfl
                      rotate_left
                      · simp only [Act.put,List.setIfInBounds_toArray,List.set_cons_zero,List.set_cons_succ,i64_w,i32_w]
                        rfl
                      refine done_ (by kernel_rfl) ?_
                      go_wp2
                      go_roundg k1
                      case measure=>have:=HK1.out;omega
                      case rel=>exact ⟨b.2 ++ [(⟨sm,x⟩:S78)],t ++ [(⟨sm,x,aw,cW⟩:GD)],od,⟨by have:=HLR.out;rw [HSM.out];exact this⟩,⟨by have:=HK1.out;omega⟩,⟨by rw [List.map_append];exact HPB.out.append_right _⟩,⟨by rw [HSM.out];exact GI_perm HJ3.out (HPB.out.symm.append_right _)⟩,by rw [List.length_append,List.length_singleton];have:=HD2.out;omega,HN8,HF8,HO8,⟨hod⟩,HB8⟩
                · rw [if_neg hm] at H
                  obtain rfl:=Option.some.inj H
                  have u1:=eq_false (show ¬ (1:Int) < (ds.length:Int) by omega)
                  go_wp2
                  go_ret2
                  exact ⟨_,rfl,Kd.R_mono HO.out (fun _ _=>trivial),HB.out⟩
          · have ho1:=HO1.out
            rw [← HDS.out] at ho1
            unfold lone at ho1
            rw [if_neg (by rw [List.length_map];exact hone)] at ho1
            obtain rfl:=Option.some.inj ho1
            have hl1:¬ (ds.length:Int) = 1:=by omega
            have u9:=eq_false hl1
            go_wp2
            have HNn:=HN
            have HFn:=HF
            have HOn:=HO
            have HBn:=HB
            have HL5:=Aside0.mk HNO.out.symm
            clear HN HF HO HB u9 hl1 ho1
            clear hone
            have HO2':=HO2
            go_loopg [5] k (fun kq v5 w'=>∃ (gs:List S78) (ds:List GD) (oc:List Int),Aside0 (lrun k kq gs oc = some o2) ∧ Aside0 (kq ≤ k) ∧ Aside0 ((ds.map toG).Perm gs) ∧ Aside0 (GI l0.length gs) ∧ ds.length ≤ 12 ∧ Aside0 (GRow w' w.heap.size v5 ds) ∧ Aside0 (GF w' g_ v5 ds) ∧ Aside0 (Kd.R (Kd.int .i64) 3 w' w.heap.size (fun k_=>k_ = g_) (.slice (some ⟨g_,0,none⟩) no co) oc) ∧ Aside0 (oc.length = no) ∧ Aside0 (Below w.heap.size w w'))
            case atStart=>exact ⟨gs1,ds,_,HO2,⟨Nat.le_refl _⟩,⟨List.Perm.of_eq HDS.out⟩,HI0,by have:=HAL.out;omega,HNn,HFn,HOn,HL5,HBn⟩
            case round =>
              clear HNn HFn HOn HL5 HBn HO2 HO2' HDS HAL
              rename World=>wq
              obtain ⟨gs,ds,oc,HA,HK1,HP,HI,hd12,HN,HF,HO,HL,HB⟩:=hrel
              cases gk with
              | zero=>exact absurd HA.out (by simp [lrun])
              | succ k1 =>
                have H:=HA.out
                simp only [lrun] at H
                clear HA
                obtain ⟨A6,c6,rfl,h6⟩:=GRow_form HN.out
                have hgl:gs.length = ds.length:=by have:=HP.out.length_eq;rw [List.length_map] at this;exact this.symm
                by_cases hm:1 < gs.length
                · rw [if_pos hm] at H
                  obtain ⟨a,ha,H⟩:=Option.bind_eq_some_iff.1 H
                  obtain ⟨b,hb,H⟩:=Option.bind_eq_some_iff.1 H
                  split at H
                  rotate_left
                  · cases H
                  rename_i hg2
                  obtain ⟨x,hx,H⟩:=Option.bind_eq_some_iff.1 H
                  split at H
                  rotate_left
                  · cases H
                  rename_i hg3
                  obtain ⟨o3,ho3,H⟩:=Option.bind_eq_some_iff.1 H
                  have H':=Aside0.mk H
                  have HX':=Aside0.mk hx
                  have HI':=Aside0.mk ho3
                  have HAA:=Aside0.mk ha
                  have HBB:=Aside0.mk hb
                  clear H hx ho3 ha hb hg2
                  have u1:=eq_true (show (1:Int) < (ds.length:Int) by omega)
                  have HGL:=Aside0.mk (Kd.R_lt HO.out g_ (by simp [Value.ownBlock]))
                  have HOK:=GF_ok HF.out (GI_perm HI.out HP.out) hlen
                  have hcall1:=Try.gsort_walk w.heap.size (.slice A6 ds.length c6) ds wq (fun e_=>by rw [e_,List.length_nil] at hgl;omega) (by omega) HOK HN.out
                  clear HOK
                  go_upto_region 15 with (go_at_call 65;refine hcall1.mono ?_;first|rintro e_ W6 rfl ds' hp' hs' hn' hg'|rintro e_ W6 ⟨rfl,ds',hp',hs',hn',hg'⟩;have HP6:=Aside0.mk hp';have HS6:=Aside0.mk hs';have HF6:=Aside0.mk (GF_mem (GF_step HF.out (fun k_ _ hk_ hlt_=>hg'.out.block k_ hlt_ hk_)) (fun z_ hz_=>hp'.mem_iff.1 hz_));have HO6:=Aside0.mk (Kd.R_grown HO.out hg'.out (fun k_ hk_ e_=>HF.out.1 (by rw [← e_,hk_])));have HB6:=Aside0.mk (HB.out.grown hg'.out HB.out.size (fun k_ hk_=>(GRow_lt HN.out k_ hk_).1));have HGL6:=Aside0.mk (Nat.lt_of_lt_of_le HGL.out hg'.out.size);have HN6:=hn';clear hcall1 hp' hs' hn' hg' HN HF HO HB HGL)
                  have hd':ds'.length = ds.length:=HP6.out.length_eq
                  have hPm:(ds'.map toG).Perm gs:=(HP6.out.map toG).trans HP.out
                  obtain ⟨x1,y1,t,hdx⟩:∃ x1 y1 t,ds' = x1 :: y1 :: t:=by
                    match ds',(show 1 < ds'.length by omega) with
                    | x1 :: y1 :: t,_=>exact ⟨x1,y1,t,rfl⟩
                  have hs6:=HS6.out
                  rw [hdx] at hs6 hPm
                  obtain ⟨ea,pa,ia,sa⟩:=gfirst HI.out a HAA.out x1 (y1 :: t) hPm hs6
                  obtain ⟨eb,pb,ib,_⟩:=gfirst ia b HBB.out y1 t pa sa
                  have hlp:=HX'.out
                  rw [← ea,← eb] at hlp
                  obtain ⟨j1,j2,j3,j4⟩:=gjoin HI.out (toG x1) (toG y1) (t.map toG) hPm k x hlp (by omega)
                  have hH:=H'.out
                  rw [← ea,← eb] at hH
                  have HLR:=Aside0.mk hH
                  have HJ2:=Aside0.mk (show x.Perm (x1.has ++ y1.has) from j2)
                  have HJ1:=Aside0.mk j1
                  have HJ3:=Aside0.mk j3
                  have HJM:=Aside0.mk j4
                  have HPB:=Aside0.mk pb
                  clear hs6 hPm ea pa ia sa eb pb ib hlp j1 j2 j3 j4 H' HX' HAA HBB HP6 HS6 hH
                  obtain ⟨g5,off5,cap5,e5⟩:=GRow_some HN6.out (by omega)
                  have eA':A6 = some ⟨g5,off5,none⟩:=by injection e5
                  subst eA'
                  clear e5
                  rw [hdx] at HN6 HF6
                  have HD2:=Aside0.mk (show ds.length = t.length + 2 by rw [← hd',hdx];rfl)
                  obtain ⟨q0,q1⟩:=GRow_at HN6.out 0 x1 rfl
                  obtain ⟨p0,p1⟩:=GRow_at HN6.out 1 y1 rfl
                  rw [Nat.zero_mul,Nat.add_zero] at q0 q1
                  rw [Nat.one_mul] at p0 p1
                  have i0:=eq_true (show 0 < ds.length by omega)
                  have i1:=eq_true (show 1 < ds.length by omega)
                  have la_:x1.has.length ≤ 1000 ∧ y1.has.length ≤ 1000:=by
                    have:=HJ2.out.length_eq
                    rw [List.length_append] at this
                    have:=gasc_len HJ1.out HJM.out
                    omega
                  obtain ⟨kc,hkc⟩:=gconcat x1.has y1.has la_.1 la_.2
                  obtain ⟨cat_,hcat⟩:∃ q_,q_ = x1.has ++ y1.has:=⟨_,rfl⟩
                  rw [← hcat] at hkc
                  have HCT:=Aside0.mk hcat
                  clear hcat la_
                  have hd0:Below W6.heap.size W6 W6.drew:=below_drew1 (Below.refl _ _)
                  replace q0:=(hd0.cell (World.block_lt_of_cell? _ _ q0)).trans q0
                  replace q1:=(hd0.cell (World.block_lt_of_cell? _ _ q1)).trans q1
                  replace p0:=(hd0.cell (World.block_lt_of_cell? _ _ p0)).trans p0
                  replace p1:=(hd0.cell (World.block_lt_of_cell? _ _ p1)).trans p1
                  replace HN6:=Aside0.mk (GRow_below HN6.out hd0)
                  replace HF6:=Aside0.mk (GF_below HF6.out hd0)
                  replace HO6:=Aside0.mk (Kd.R_below HO6.out hd0)
                  replace HGL6:=Aside0.mk (Nat.lt_of_lt_of_le HGL6.out hd0.size)
                  replace HB6:=Aside0.mk (below_step HB6.out hd0)
                  clear hd0
                  refine start_ (n:=22) (S:=fun w'=>w'.cell? ⟨g5,off5,none⟩ = some (.int .i64 x1.c) ∧ w'.cell? ⟨g5,off5 + 1,none⟩ = some (.slice (some x1.A) x1.has.length x1.cap) ∧ w'.cell? ⟨g5,off5 + 2,none⟩ = some (.int .i64 y1.c) ∧ w'.cell? ⟨g5,off5 + 2 + 1,none⟩ = some (.slice (some y1.A) y1.has.length y1.cap)) (ds:=[]) #[false,false,false,false,false,false,false,false,false,false,false,false,false,false,false,false,false,false,false,false,false,false] (by kernel_rfl) rfl rfl ⟨q0,q1,p0,p1⟩ (fun hHeld=>?_)
                  generalize W6.drew = W7 at q0 q1 p0 p1 HN6 HF6 HO6 HGL6 HB6 hHeld ⊢
                  refine pure_ (i:=0) (N:=(some 50)) (v:=?_) (a':=?_) #[true,false,false,false,false,false,false,false,false,false,false,false,false,false,false,false,false,false,false,false,false,false] rfl rfl (by kernel_rfl) (fun _ _ _ h=>h) (Or.inl ⟨by rfl,?_⟩) ?_ ?_
                  rotate_left
                  · intro w'
                    go_simp
                    with_reducible rfl
                  rotate_left
                  · simp only [Act.put,List.setIfInBounds_toArray,List.set_cons_zero,List.set_cons_succ,i64_w,i32_w]
                    rfl
                  refine pure_ (i:=1) (N:=(some 51)) (v:=?_) (a':=?_) #[true,true,false,false,false,false,false,false,false,false,false,false,false,false,false,false,false,false,false,false,false,false] rfl rfl (by kernel_rfl) (fun _ _ _ h=>h) (Or.inl ⟨by rfl,?_⟩) ?_ ?_
                  rotate_left
                  · intro w'
                    go_simp
                    with_reducible rfl
                  rotate_left
                  · simp only [Act.put,List.setIfInBounds_toArray,List.set_cons_zero,List.set_cons_succ,i64_w,i32_w]
                    rfl
                  refine pure_ (i:=2) (N:=(some 52)) (v:=?_) (a':=?_) #[true,true,true,false,false,false,false,false,false,false,false,false,false,false,false,false,false,false,false,false,false,false] rfl rfl (by kernel_rfl) (fun _ _ _ h=>h) (Or.inl ⟨by rfl,?_⟩) ?_ ?_
                  rotate_left
                  · intro w'
                    go_simp
                    with_reducible rfl
                  rotate_left
                  · simp only [Act.put,List.setIfInBounds_toArray,List.set_cons_zero,List.set_cons_succ,i64_w,i32_w]
                    rfl
                  refine take_ (i:=3) (N:=(some 53)) (v:=?_) (a':=?_) #[true,true,true,true,false,false,false,false,false,false,false,false,false,false,false,false,false,false,false,false,false,false] rfl rfl (by kernel_rfl) (fun _ _ _ h=>h) (Or.inl ⟨by rfl,?_⟩) hHeld ?_ ?_
                  rotate_left
                  · intro w' ⟨s0,s1,s2,s3⟩
                    go_simp
                    with_reducible rfl
                  rotate_left
                  · simp only [Act.put,List.setIfInBounds_toArray,List.set_cons_zero,List.set_cons_succ,i64_w,i32_w]
                    rfl
                  refine pure_ (i:=4) (N:=(some 54)) (v:=?_) (a':=?_) #[true,true,true,true,true,false,false,false,false,false,false,false,false,false,false,false,false,false,false,false,false,false] rfl rfl (by kernel_rfl) (fun _ _ _ h=>h) (Or.inl ⟨by rfl,?_⟩) ?_ ?_
                  rotate_left
                  · intro w'
                    go_simp
                    with_reducible rfl
                  rotate_left
                  · simp only [Act.put,List.setIfInBounds_toArray,List.set_cons_zero,List.set_cons_succ,i64_w,i32_w]
                    rfl
                  refine pure_ (i:=5) (N:=(some 55)) (v:=?_) (a':=?_) #[true,true,true,true,true,true,false,false,false,false,false,false,false,false,false,false,false,false,false,false,false,false] rfl rfl (by kernel_rfl) (fun _ _ _ h=>h) (Or.inl ⟨by rfl,?_⟩) ?_ ?_
                  rotate_left
                  · intro w'
                    go_simp
                    with_reducible rfl
                  rotate_left
                  · simp only [Act.put,List.setIfInBounds_toArray,List.set_cons_zero,List.set_cons_succ,i64_w,i32_w]
                    rfl
                  refine pure_ (i:=6) (N:=(some 56)) (v:=?_) (a':=?_) #[true,true,true,true,true,true,true,false,false,false,false,false,false,false,false,false,false,false,false,false,false,false] rfl rfl (by kernel_rfl) (fun _ _ _ h=>h) (Or.inl ⟨by rfl,?_⟩) ?_ ?_
                  rotate_left
                  · intro w'
                    go_simp
                    with_reducible rfl
                  rotate_left
                  · simp only [Act.put,List.setIfInBounds_toArray,List.set_cons_zero,List.set_cons_succ,i64_w,i32_w]
                    rfl
                  refine take_ (i:=7) (N:=(some 57)) (v:=?_) (a':=?_) #[true,true,true,true,true,true,true,true,false,false,false,false,false,false,false,false,false,false,false,false,false,false] rfl rfl (by kernel_rfl) (fun _ _ _ h=>h) (Or.inl ⟨by rfl,?_⟩) hHeld ?_ ?_
                  rotate_left
                  · intro w' ⟨s0,s1,s2,s3⟩
                    go_simp
                    with_reducible rfl
                  rotate_left
                  · simp only [Act.put,List.setIfInBounds_toArray,List.set_cons_zero,List.set_cons_succ,i64_w,i32_w]
                    rfl
                  refine pure_ (i:=8) (N:=(some 58)) (v:=?_) (a':=?_) #[true,true,true,true,true,true,true,true,true,false,false,false,false,false,false,false,false,false,false,false,false,false] rfl rfl (by kernel_rfl) (fun _ _ _ h=>h) (Or.inl ⟨by rfl,?_⟩) ?_ ?_
                  rotate_left
                  · intro w'
                    go_simp
                    with_reducible rfl
                  rotate_left
                  · simp only [Act.put,List.setIfInBounds_toArray,List.set_cons_zero,List.set_cons_succ,i64_w,i32_w]
                    rfl
                  refine pure_ (i:=9) (N:=(some 59)) (v:=?_) (a':=?_) #[true,true,true,true,true,true,true,true,true,true,false,false,false,false,false,false,false,false,false,false,false,false] rfl rfl (by kernel_rfl) (fun _ _ _ h=>h) (Or.inl ⟨by rfl,?_⟩) ?_ ?_
                  rotate_left
                  · intro w'
                    go_simp
                    with_reducible rfl
                  rotate_left
                  · simp only [Act.put,List.setIfInBounds_toArray,List.set_cons_zero,List.set_cons_succ,i64_w,i32_w]
                    rfl
                  refine pure_ (i:=10) (N:=(some 60)) (v:=?_) (a':=?_) #[true,true,true,true,true,true,true,true,true,true,true,false,false,false,false,false,false,false,false,false,false,false] rfl rfl (by kernel_rfl) (fun _ _ _ h=>h) (Or.inl ⟨by rfl,?_⟩) ?_ ?_
                  rotate_left
                  · intro w'
                    go_simp
                    with_reducible rfl
                  rotate_left
                  · simp only [Act.put,List.setIfInBounds_toArray,List.set_cons_zero,List.set_cons_succ,i64_w,i32_w]
                    rfl
                  refine pure_ (i:=11) (N:=(some 61)) (v:=?_) (a':=?_) #[true,true,true,true,true,true,true,true,true,true,true,true,false,false,false,false,false,false,false,false,false,false] rfl rfl (by kernel_rfl) (fun _ _ _ h=>h) (Or.inl ⟨by rfl,?_⟩) ?_ ?_
                  rotate_left
                  · intro w'
                    go_simp
                    with_reducible rfl
                  rotate_left
                  · simp only [Act.put,List.setIfInBounds_toArray,List.set_cons_zero,List.set_cons_succ,i64_w,i32_w]
                    rfl
                  refine take_ (i:=12) (N:=(some 62)) (v:=?_) (a':=?_) #[true,true,true,true,true,true,true,true,true,true,true,true,true,false,false,false,false,false,false,false,false,false] rfl rfl (by kernel_rfl) (fun _ _ _ h=>h) (Or.inl ⟨by rfl,?_⟩) hHeld ?_ ?_
                  rotate_left
                  · intro w' ⟨s0,s1,s2,s3⟩
                    go_simp
                    with_reducible rfl
                  rotate_left
                  · simp only [Act.put,List.setIfInBounds_toArray,List.set_cons_zero,List.set_cons_succ,i64_w,i32_w]
                    rfl
                  refine pure_ (i:=13) (N:=(some 63)) (v:=?_) (a':=?_) #[true,true,true,true,true,true,true,true,true,true,true,true,true,true,false,false,false,false,false,false,false,false] rfl rfl (by kernel_rfl) (fun _ _ _ h=>h) (Or.inl ⟨by rfl,?_⟩) ?_ ?_
                  rotate_left
                  · intro w'
                    go_simp
                    with_reducible rfl
                  rotate_left
                  · simp only [Act.put,List.setIfInBounds_toArray,List.set_cons_zero,List.set_cons_succ,i64_w,i32_w]
                    rfl
                  refine pure_ (i:=14) (N:=(some 64)) (v:=?_) (a':=?_) #[true,true,true,true,true,true,true,true,true,true,true,true,true,true,true,false,false,false,false,false,false,false] rfl rfl (by kernel_rfl) (fun _ _ _ h=>h) (Or.inl ⟨by rfl,?_⟩) ?_ ?_
                  rotate_left
                  · intro w'
                    go_simp
                    with_reducible rfl
                  rotate_left
                  · simp only [Act.put,List.setIfInBounds_toArray,List.set_cons_zero,List.set_cons_succ,i64_w,i32_w]
                    rfl
                  refine pure_ (i:=15) (N:=(some 65)) (v:=?_) (a':=?_) #[true,true,true,true,true,true,true,true,true,true,true,true,true,true,true,true,false,false,false,false,false,false] rfl rfl (by kernel_rfl) (fun _ _ _ h=>h) (Or.inl ⟨by rfl,?_⟩) ?_ ?_
                  rotate_left
                  · intro w'
                    go_simp
                    with_reducible rfl
                  rotate_left
                  · simp only [Act.put,List.setIfInBounds_toArray,List.set_cons_zero,List.set_cons_succ,i64_w,i32_w]
                    rfl
                  refine take_ (i:=16) (N:=(some 66)) (v:=?_) (a':=?_) #[true,true,true,true,true,true,true,true,true,true,true,true,true,true,true,true,true,false,false,false,false,false] rfl rfl (by kernel_rfl) (fun _ _ _ h=>h) (Or.inl ⟨by rfl,?_⟩) hHeld ?_ ?_
                  rotate_left
                  · intro w' ⟨s0,s1,s2,s3⟩
                    go_simp
                    with_reducible rfl
                  rotate_left
                  · simp only [Act.put,List.setIfInBounds_toArray,List.set_cons_zero,List.set_cons_succ,i64_w,i32_w]
                    rfl
                  obtain ⟨sm,hsm⟩:∃ q_,q_ = wrap64 (x1.c + y1.c):=⟨_,rfl⟩
                  rw [← hsm]
                  have HSM:=Aside0.mk hsm
                  clear hsm
                  have m1:=HF6.out.2 x1 List.mem_cons_self
                  have m2:=HF6.out.2 y1 (List.mem_cons_of_mem _ List.mem_cons_self)
                  have HC:=Aside0.mk (Below.refl W7.heap.size W7)
                  refine join_ (σ:=Value × Nat × Nat) 1 #[true,true,true,true,true,true,true,true,true,true,true,true,true,true,true,true,true,true,true,true,true,false] (fun s_=>[(67,.slice (some ⟨s_.2.2,0,none⟩) 2 2),(68,s_.1),(8,.pointer (some ⟨s_.2.1,0,none⟩)),(69,.agg #[.int .i64 sm,s_.1])]) (fun s_ w'=>(w'.cell? ⟨g5,off5,none⟩ = some (.int .i64 x1.c) ∧ w'.cell? ⟨g5,off5 + 1,none⟩ = some (.slice (some x1.A) x1.has.length x1.cap) ∧ w'.cell? ⟨g5,off5 + 2,none⟩ = some (.int .i64 y1.c) ∧ w'.cell? ⟨g5,off5 + 2 + 1,none⟩ = some (.slice (some y1.A) y1.has.length y1.cap)) ∧ (Kd.int .i64).R 3 w' W7.heap.size (fun _=>True) s_.1 cat_ ∧ w'.heap[s_.2.1]? = some (.cells #[.int .i64 0,.slice none 0 0] 85 (0,0)) ∧ Below W7.heap.size W7 w' ∧ W7.heap.size ≤ s_.2.1 ∧ some s_.2.1 ≠ s_.1.ownBlock) ?_ ?_
                  rotate_left
                  · intro hCont
                    refine two_ (i:=17) (j:=20) (Ni:=some 67) (Nj:=some 8) #[true,true,true,true,true,true,true,true,true,true,true,true,true,true,true,true,true,true,false,false,false,false] #[true,true,true,true,true,true,true,true,true,true,true,true,true,true,true,true,true,false,false,false,true,false] rfl rfl rfl rfl (by kernel_rfl) (by decide) (by decide) (fun K hK=>?_) (fun K hK=>?_)
                    · skip
                      refine value_ (w1:=?_) (v:=?_) (by rfl) rfl ?_ ?_
                      rotate_left 2
                      · go_simp
                        constructor
                        · rfl
                        · rfl
                      refine hK.out _ _ ⟨((below_alloc (Below.refl _ _) _).cell (World.block_lt_of_cell? _ _ hHeld.1)).trans hHeld.1,((below_alloc (Below.refl _ _) _).cell (World.block_lt_of_cell? _ _ hHeld.2.1)).trans hHeld.2.1,((below_alloc (Below.refl _ _) _).cell (World.block_lt_of_cell? _ _ hHeld.2.2.1)).trans hHeld.2.2.1,((below_alloc (Below.refl _ _) _).cell (World.block_lt_of_cell? _ _ hHeld.2.2.2)).trans hHeld.2.2.2⟩ (fun hHeld=>?_)
                      clear hK K
                      have HK:=Aside0.mk (heap_alloc_new W7 (.cells #[.slice (some x1.A) x1.has.length x1.cap,.slice (some y1.A) y1.has.length y1.cap] 41))
                      replace HC:=Aside0.mk (below_alloc HC.out (.cells #[.slice (some x1.A) x1.has.length x1.cap,.slice (some y1.A) y1.has.length y1.cap] 41))
                      generalize W7.alloc (.cells #[.slice (some x1.A) x1.has.length x1.cap,.slice (some y1.A) y1.has.length y1.cap] 41) = W8 at HK HC hHeld ⊢
                      refine norm_ (a':=?_) ?_ ?_
                      rotate_left
                      · show Act.put _ (some 67) _ = _
                        simp only [Act.put,List.setIfInBounds_toArray,List.set_cons_zero,List.set_cons_succ,i64_w,i32_w]
                        rfl
                      refine two_ (i:=18) (j:=20) (Ni:=some 68) (Nj:=some 8) #[true,true,true,true,true,true,true,true,true,true,true,true,true,true,true,true,true,true,true,false,false,false] #[true,true,true,true,true,true,true,true,true,true,true,true,true,true,true,true,true,true,false,false,true,false] rfl rfl rfl rfl (by kernel_rfl) (by decide) (by decide) (fun K hK=>?_) (fun K hK=>?_)
                      · skip
                        refine goes_ Try.func67 (by kernel_rfl) rfl #[.slice (some ⟨W7.heap.size,0,none⟩) 2 2] (by rfl) rfl rfl (by (try simp only [List.map_toArray,List.map_cons,List.map_nil]);first|done|rfl) ?_
                        refine (slices_Concat_int_int.calls kc (some ⟨W7.heap.size,0,none⟩) 2 [x1.has,y1.has] cat_ W8 (gC2 HK.out (Kd.C_below (Kd.F_now m1.1) HC.out) m1.2 (Kd.C_below (Kd.F_now m2.1) HC.out) m2.2) (Nat.le_refl _) hkc).mono ?_
                        rintro e_ W9 ⟨v_,rfl,hr,hd⟩
                        refine ⟨_,rfl,?_⟩
                        obtain ⟨AW,cW,rfl⟩:=Kd.R_slice hr
                        have HW:=Aside0.mk (Kd.R_lower hr HC.out.size)
                        replace HC:=Aside0.mk (below_step HC.out hd)
                        refine hK.out _ _ ⟨(hd.cell (World.block_lt_of_cell? _ _ hHeld.1)).trans hHeld.1,(hd.cell (World.block_lt_of_cell? _ _ hHeld.2.1)).trans hHeld.2.1,(hd.cell (World.block_lt_of_cell? _ _ hHeld.2.2.1)).trans hHeld.2.2.1,(hd.cell (World.block_lt_of_cell? _ _ hHeld.2.2.2)).trans hHeld.2.2.2⟩ (fun hHeld=>?_)
                        clear hK K
                        clear hd hr
                        refine norm_ (a':=?_) ?_ ?_
                        rotate_left
                        · show Act.put _ (some 68) _ = _
                          simp only [Act.put,List.setIfInBounds_toArray,List.set_cons_zero,List.set_cons_succ,i64_w,i32_w]
                          rfl
                        refine pure_ (i:=19) (N:=(some 69)) (v:=?_) (a':=?_) #[true,true,true,true,true,true,true,true,true,true,true,true,true,true,true,true,true,true,true,true,false,false] rfl rfl (by kernel_rfl) (fun _ _ _ h=>h) (Or.inl ⟨by rfl,?_⟩) ?_ ?_
                        rotate_left
                        · intro w'
                          go_simp
                          with_reducible rfl
                        rotate_left
                        · simp only [Act.put,List.setIfInBounds_toArray,List.set_cons_zero,List.set_cons_succ,i64_w,i32_w]
                          rfl
                        refine one_ (i:=20) (N:=(some 8)) #[true,true,true,true,true,true,true,true,true,true,true,true,true,true,true,true,true,true,true,true,true,false] rfl rfl (by kernel_rfl) (by decide) (fun K hK=>?_)
                        refine box_step ?_ (N:=8) ?_ (cs:=#[.int .i64 0,.slice none 0 0]) (t:=85) ?_ ?_
                        · exact rfl
                        · exact rfl
                        · first|(go_simp;done)|(go_simp;rfl)
                        intro gy hgy W10 hbox hd
                        have HY:=Aside0.mk hbox
                        have hle:W7.heap.size ≤ gy:=by have:=HC.out.size;omega
                        replace HW:=Aside0.mk (Kd.R_below HW.out hd)
                        replace HC:=Aside0.mk (below_step HC.out hd)
                        refine hK.out _ _ ⟨(hd.cell (World.block_lt_of_cell? _ _ hHeld.1)).trans hHeld.1,(hd.cell (World.block_lt_of_cell? _ _ hHeld.2.1)).trans hHeld.2.1,(hd.cell (World.block_lt_of_cell? _ _ hHeld.2.2.1)).trans hHeld.2.2.1,(hd.cell (World.block_lt_of_cell? _ _ hHeld.2.2.2)).trans hHeld.2.2.2⟩ (fun hHeld=>?_)
                        clear hK K
                        clear hd hgy hbox
                        refine norm_ (a':=?_) ?_ ?_
                        rotate_left
                        · show Act.put _ (some 8) _ = _
                          simp only [Act.put,List.setIfInBounds_toArray,List.set_cons_zero,List.set_cons_succ,i64_w,i32_w]
                          rfl
                        exact norm_ (by simp only [putAll,Act.put,List.setIfInBounds_toArray,List.set_cons_zero,List.set_cons_succ]) (hCont (.slice AW cat_.length cW,gy,W7.heap.size) _ ⟨hHeld,HW.out,HY.out,HC.out,hle,Kd.R_ne HW.out HY.out (by decide)⟩)
                      · skip
                        refine box_step ?_ (N:=8) ?_ (cs:=#[.int .i64 0,.slice none 0 0]) (t:=85) ?_ ?_
                        · exact rfl
                        · exact rfl
                        · first|(go_simp;done)|(go_simp;rfl)
                        intro gy hgy W9 hbox hd
                        have HY:=Aside0.mk hbox
                        have hle:W7.heap.size ≤ gy:=by have:=HC.out.size;omega
                        replace HK:=Aside0.mk ((hd.block _ (blk_lt HK.out)).trans HK.out)
                        replace HC:=Aside0.mk (below_step HC.out hd)
                        refine hK.out _ _ ⟨(hd.cell (World.block_lt_of_cell? _ _ hHeld.1)).trans hHeld.1,(hd.cell (World.block_lt_of_cell? _ _ hHeld.2.1)).trans hHeld.2.1,(hd.cell (World.block_lt_of_cell? _ _ hHeld.2.2.1)).trans hHeld.2.2.1,(hd.cell (World.block_lt_of_cell? _ _ hHeld.2.2.2)).trans hHeld.2.2.2⟩ (fun hHeld=>?_)
                        clear hK K
                        clear hd hgy hbox
                        refine norm_ (a':=?_) ?_ ?_
                        rotate_left
                        · show Act.put _ (some 8) _ = _
                          simp only [Act.put,List.setIfInBounds_toArray,List.set_cons_zero,List.set_cons_succ,i64_w,i32_w]
                          rfl
                        refine one_ (i:=18) (N:=(some 68)) #[true,true,true,true,true,true,true,true,true,true,true,true,true,true,true,true,true,true,true,false,true,false] rfl rfl (by kernel_rfl) (by decide) (fun K hK=>?_)
                        refine goes_ Try.func67 (by kernel_rfl) rfl #[.slice (some ⟨W7.heap.size,0,none⟩) 2 2] (by rfl) rfl rfl (by (try simp only [List.map_toArray,List.map_cons,List.map_nil]);first|done|rfl) ?_
                        refine (slices_Concat_int_int.calls kc (some ⟨W7.heap.size,0,none⟩) 2 [x1.has,y1.has] cat_ W9 (gC2 HK.out (Kd.C_below (Kd.F_now m1.1) HC.out) m1.2 (Kd.C_below (Kd.F_now m2.1) HC.out) m2.2) (Nat.le_refl _) hkc).mono ?_
                        rintro e_ W10 ⟨v_,rfl,hr,hd⟩
                        refine ⟨_,rfl,?_⟩
                        obtain ⟨AW,cW,rfl⟩:=Kd.R_slice hr
                        have HW:=Aside0.mk (Kd.R_lower hr HC.out.size)
                        replace HY:=Aside0.mk ((hd.block _ (blk_lt HY.out)).trans HY.out)
                        replace HC:=Aside0.mk (below_step HC.out hd)
                        refine hK.out _ _ ⟨(hd.cell (World.block_lt_of_cell? _ _ hHeld.1)).trans hHeld.1,(hd.cell (World.block_lt_of_cell? _ _ hHeld.2.1)).trans hHeld.2.1,(hd.cell (World.block_lt_of_cell? _ _ hHeld.2.2.1)).trans hHeld.2.2.1,(hd.cell (World.block_lt_of_cell? _ _ hHeld.2.2.2)).trans hHeld.2.2.2⟩ (fun hHeld=>?_)
                        clear hK K
                        clear hd hr
                        refine norm_ (a':=?_) ?_ ?_
                        rotate_left
                        · show Act.put _ (some 68) _ = _
                          simp only [Act.put,List.setIfInBounds_toArray,List.set_cons_zero,List.set_cons_succ,i64_w,i32_w]
                          rfl
                        refine pure_ (i:=19) (N:=(some 69)) (v:=?_) (a':=?_) #[true,true,true,true,true,true,true,true,true,true,true,true,true,true,true,true,true,true,true,true,true,false] rfl rfl (by kernel_rfl) (fun _ _ _ h=>h) (Or.inl ⟨by rfl,?_⟩) ?_ ?_
                        rotate_left
                        · intro w'
                          go_simp
                          with_reducible rfl
                        rotate_left
                        · simp only [Act.put,List.setIfInBounds_toArray,List.set_cons_zero,List.set_cons_succ,i64_w,i32_w]
                          rfl
                        exact norm_ (by simp only [putAll,Act.put,List.setIfInBounds_toArray,List.set_cons_zero,List.set_cons_succ]) (hCont (.slice AW cat_.length cW,gy,W7.heap.size) _ ⟨hHeld,HW.out,HY.out,HC.out,hle,Kd.R_ne HW.out HY.out (by decide)⟩)
                    · skip
                      refine box_step ?_ (N:=8) ?_ (cs:=#[.int .i64 0,.slice none 0 0]) (t:=85) ?_ ?_
                      · exact rfl
                      · exact rfl
                      · first|(go_simp;done)|(go_simp;rfl)
                      intro gy hgy W8 hbox hd
                      have HY:=Aside0.mk hbox
                      have hle:W7.heap.size ≤ gy:=by have:=HC.out.size;omega
                      replace HC:=Aside0.mk (below_step HC.out hd)
                      refine hK.out _ _ ⟨(hd.cell (World.block_lt_of_cell? _ _ hHeld.1)).trans hHeld.1,(hd.cell (World.block_lt_of_cell? _ _ hHeld.2.1)).trans hHeld.2.1,(hd.cell (World.block_lt_of_cell? _ _ hHeld.2.2.1)).trans hHeld.2.2.1,(hd.cell (World.block_lt_of_cell? _ _ hHeld.2.2.2)).trans hHeld.2.2.2⟩ (fun hHeld=>?_)
                      clear hK K
                      clear hd hgy hbox
                      refine norm_ (a':=?_) ?_ ?_
                      rotate_left
                      · show Act.put _ (some 8) _ = _
                        simp only [Act.put,List.setIfInBounds_toArray,List.set_cons_zero,List.set_cons_succ,i64_w,i32_w]
                        rfl
                      refine one_ (i:=17) (N:=(some 67)) #[true,true,true,true,true,true,true,true,true,true,true,true,true,true,true,true,true,true,false,false,true,false] rfl rfl (by kernel_rfl) (by decide) (fun K hK=>?_)
                      refine value_ (w1:=?_) (v:=?_) (by rfl) rfl ?_ ?_
                      rotate_left 2
                      · go_simp
                        constructor
                        · rfl
                        · rfl
                      refine hK.out _ _ ⟨((below_alloc (Below.refl _ _) _).cell (World.block_lt_of_cell? _ _ hHeld.1)).trans hHeld.1,((below_alloc (Below.refl _ _) _).cell (World.block_lt_of_cell? _ _ hHeld.2.1)).trans hHeld.2.1,((below_alloc (Below.refl _ _) _).cell (World.block_lt_of_cell? _ _ hHeld.2.2.1)).trans hHeld.2.2.1,((below_alloc (Below.refl _ _) _).cell (World.block_lt_of_cell? _ _ hHeld.2.2.2)).trans hHeld.2.2.2⟩ (fun hHeld=>?_)
                      clear hK K
                      have HK:=Aside0.mk (heap_alloc_new W8 (.cells #[.slice (some x1.A) x1.has.length x1.cap,.slice (some y1.A) y1.has.length y1.cap] 41))
                      replace HY:=Aside0.mk (blk_alloc HY.out (.cells #[.slice (some x1.A) x1.has.length x1.cap,.slice (some y1.A) y1.has.length y1.cap] 41))
                      replace HC:=Aside0.mk (below_alloc HC.out (.cells #[.slice (some x1.A) x1.has.length x1.cap,.slice (some y1.A) y1.has.length y1.cap] 41))
                      generalize W8.alloc (.cells #[.slice (some x1.A) x1.has.length x1.cap,.slice (some y1.A) y1.has.length y1.cap] 41) = W9 at HK HC hHeld HY ⊢
                      refine norm_ (a':=?_) ?_ ?_
                      rotate_left
                      · show Act.put _ (some 67) _ = _
                        simp only [Act.put,List.setIfInBounds_toArray,List.set_cons_zero,List.set_cons_succ,i64_w,i32_w]
                        rfl
                      refine one_ (i:=18) (N:=(some 68)) #[true,true,true,true,true,true,true,true,true,true,true,true,true,true,true,true,true,true,true,false,true,false] rfl rfl (by kernel_rfl) (by decide) (fun K hK=>?_)
                      refine goes_ Try.func67 (by kernel_rfl) rfl #[.slice (some ⟨W8.heap.size,0,none⟩) 2 2] (by rfl) rfl rfl (by (try simp only [List.map_toArray,List.map_cons,List.map_nil]);first|done|rfl) ?_
                      refine (slices_Concat_int_int.calls kc (some ⟨W8.heap.size,0,none⟩) 2 [x1.has,y1.has] cat_ W9 (gC2 HK.out (Kd.C_below (Kd.F_now m1.1) HC.out) m1.2 (Kd.C_below (Kd.F_now m2.1) HC.out) m2.2) (Nat.le_refl _) hkc).mono ?_
                      rintro e_ W10 ⟨v_,rfl,hr,hd⟩
                      refine ⟨_,rfl,?_⟩
                      obtain ⟨AW,cW,rfl⟩:=Kd.R_slice hr
                      have HW:=Aside0.mk (Kd.R_lower hr HC.out.size)
                      replace HY:=Aside0.mk ((hd.block _ (blk_lt HY.out)).trans HY.out)
                      replace HC:=Aside0.mk (below_step HC.out hd)
                      refine hK.out _ _ ⟨(hd.cell (World.block_lt_of_cell? _ _ hHeld.1)).trans hHeld.1,(hd.cell (World.block_lt_of_cell? _ _ hHeld.2.1)).trans hHeld.2.1,(hd.cell (World.block_lt_of_cell? _ _ hHeld.2.2.1)).trans hHeld.2.2.1,(hd.cell (World.block_lt_of_cell? _ _ hHeld.2.2.2)).trans hHeld.2.2.2⟩ (fun hHeld=>?_)
                      clear hK K
                      clear hd hr
                      refine norm_ (a':=?_) ?_ ?_
                      rotate_left
                      · show Act.put _ (some 68) _ = _
                        simp only [Act.put,List.setIfInBounds_toArray,List.set_cons_zero,List.set_cons_succ,i64_w,i32_w]
                        rfl
                      refine pure_ (i:=19) (N:=(some 69)) (v:=?_) (a':=?_) #[true,true,true,true,true,true,true,true,true,true,true,true,true,true,true,true,true,true,true,true,true,false] rfl rfl (by kernel_rfl) (fun _ _ _ h=>h) (Or.inl ⟨by rfl,?_⟩) ?_ ?_
                      rotate_left
                      · intro w'
                        go_simp
                        with_reducible rfl
                      rotate_left
                      · simp only [Act.put,List.setIfInBounds_toArray,List.set_cons_zero,List.set_cons_succ,i64_w,i32_w]
                        rfl
                      exact norm_ (by simp only [putAll,Act.put,List.setIfInBounds_toArray,List.set_cons_zero,List.set_cons_succ]) (hCont (.slice AW cat_.length cW,gy,W8.heap.size) _ ⟨hHeld,HW.out,HY.out,HC.out,hle,Kd.R_ne HW.out HY.out (by decide)⟩)
                  clear m1 m2 HC
                  rintro ⟨vw,gy,gb⟩ W9 ⟨hHeld,hw_,hy_,hc_,hle,hne⟩
                  simp only at hw_ hy_ hle hne
                  obtain ⟨AW,cW,rfl⟩:=Kd.R_slice hw_
                  have HC:=Aside0.mk hc_
                  have HY:=Aside0.mk hy_
                  have HW:=Aside0.mk (Kd.R_types hw_ hy_ (by decide))
                  have HLE:=Aside0.mk hle
                  clear hw_ hy_ hc_ hle hne
                  refine norm_ (a':=?_) ?_ ?_
                  rotate_left
                  · simp only [putAll,Act.put,List.setIfInBounds_toArray,List.set_cons_zero,List.set_cons_succ]
                    rfl
                  refine one_ (i:=21) (N:=none) #[true,true,true,true,true,true,true,true,true,true,true,true,true,true,true,true,true,true,true,true,true,true] rfl rfl (by kernel_rfl) (by decide) (fun K hK=>?_)
                  have hs0:W9.cell? ⟨gy,0,none⟩ = some (.int .i64 0):=(blk_cell HY.out 0).trans rfl
                  have hf0:=blk_frozen HY.out 0
                  have hs1:W9.cell? ⟨gy,1,none⟩ = some (.slice none 0 0):=(blk_cell HY.out 1).trans rfl
                  have hf1:=blk_frozen HY.out 1
                  refine skip_ (w1:=?_) (by rfl) rfl ?_ ?_
                  rotate_left
                  · go_simp
                    rfl
                  have HYn:=Aside0.mk (blk_put (cs':=#[.int .i64 sm,.slice AW cat_.length cW]) (blk_put (cs':=#[.int .i64 sm,.slice none 0 0]) HY.out 0 (.int .i64 sm) rfl) 1 (.slice AW cat_.length cW) rfl)
                  have HWn:=Aside0.mk (Kd.R_far (p:=⟨gy,1,none⟩) (Kd.R_far (p:=⟨gy,0,none⟩) HW.out (fun _ h=>h.2) (.int .i64 sm)) (fun _ h=>h.2) (.slice AW cat_.length cW))
                  have HCn:=(HC.out.setCell HLE.out (.int .i64 sm) (p:=⟨gy,0,none⟩)).setCell HLE.out (.slice AW cat_.length cW) (p:=⟨gy,1,none⟩)
                  have hh:((W9.setCell ⟨gy,0,none⟩ (.int .i64 sm)).setCell ⟨gy,1,none⟩ (.slice AW cat_.length cW)).cell? ⟨g5,off5,none⟩ = some (.int .i64 x1.c) ∧ ((W9.setCell ⟨gy,0,none⟩ (.int .i64 sm)).setCell ⟨gy,1,none⟩ (.slice AW cat_.length cW)).cell? ⟨g5,off5 + 1,none⟩ = some (.slice (some x1.A) x1.has.length x1.cap) ∧ ((W9.setCell ⟨gy,0,none⟩ (.int .i64 sm)).setCell ⟨gy,1,none⟩ (.slice AW cat_.length cW)).cell? ⟨g5,off5 + 2,none⟩ = some (.int .i64 y1.c) ∧ ((W9.setCell ⟨gy,0,none⟩ (.int .i64 sm)).setCell ⟨gy,1,none⟩ (.slice AW cat_.length cW)).cell? ⟨g5,off5 + 2 + 1,none⟩ = some (.slice (some y1.A) y1.has.length y1.cap):=⟨(HCn.cell (World.block_lt_of_cell? _ _ q0)).trans q0,(HCn.cell (World.block_lt_of_cell? _ _ q1)).trans q1,(HCn.cell (World.block_lt_of_cell? _ _ p0)).trans p0,(HCn.cell (World.block_lt_of_cell? _ _ p1)).trans p1⟩
                  clear hs0 hf0 hs1 hf1 HY HW HC
                  generalize (W9.setCell ⟨gy,0,none⟩ (.int .i64 sm)).setCell ⟨gy,1,none⟩ (.slice AW cat_.length cW) = W10 at HYn HWn HCn hh ⊢
                  refine hK.out _ _ hh (fun hHeld=>?_)
                  clear hK K hHeld
                  refine done_ (by kernel_rfl) ?_
                  clear hh q0 q1 p0 p1 i0 i1 u1
                  have HRL:=Aside0.mk (fun k_ hk_=>(GRow_lt HN6.out k_ hk_).2)
                  have HGL7:=HGL6
                  have HB7:=Aside0.mk HB6.out.size
                  replace HN6:=Aside0.mk (GRow_below HN6.out HCn)
                  replace HO6:=Aside0.mk (Kd.R_below HO6.out HCn)
                  replace HB6:=Aside0.mk (below_step HB6.out HCn)
                  have HC10:=Aside0.mk HCn
                  clear HCn HGL6
                  have hcl:cat_.length = x.length:=by rw [HCT.out];exact HJ2.out.length_eq.symm
                  rw [hcl] at HYn HWn ⊢
                  have hxp:x.Perm cat_:=by rw [HCT.out];exact HJ2.out
                  have hxs:=gsorted HJ1.out hxp
                  clear hxp HJ2 HCT hkc
                  have hcs:=Try.sort_grown W7.heap.size (.slice AW x.length cW) cat_ _ W10 HWn.out (by rw [hcl];omega)
                  rw [hxs] at hcs
                  have z1:W10.cell? ⟨gy,1,none⟩ = some (.slice AW x.length cW):=(blk_cell HYn.out 1).trans rfl
                  have HLW:=Aside0.mk (show ∀ k_,(Value.slice AW x.length cW).ownBlock = some k_ → W7.heap.size ≤ k_ ∧ k_ ≠ gy from fun k_ hk_=>⟨Kd.R_base HWn.out k_ hk_,(HWn.out.1 k_ hk_).2⟩)
                  go_upto_region 17 with (go_at_call 68;refine hcs.mono ?_;first|rintro e_ W11 rfl hs_|rintro e_ W11 ⟨rfl,hs_⟩;obtain ⟨hr_,hg_⟩:=hs_.out;have HX:=Aside0.mk ((hg_.block gy (blk_lt HYn.out) (fun e_=>(HLW.out gy e_.symm).2 rfl)).trans HYn.out);have HNs:=Aside0.mk (GRow_move HN6.out hg_.size (fun k_ hk_ hlt_=>hg_.block k_ hlt_ (fun e_=>by have:=(HLW.out k_ e_.symm).1;have:=HRL.out k_ hk_;omega)));have HFs:=Aside0.mk (GF_step HF6.out (fun k_ _ _ hlt_=>(hg_.block k_ (Nat.lt_of_lt_of_le hlt_ HC10.out.size) (fun e_=>by have:=(HLW.out k_ e_.symm).1;omega)).trans (HC10.out.block k_ hlt_)));have HOs:=Aside0.mk (Kd.R_grown HO6.out hg_ (fun k_ hk_ e_=>by have:=(HLW.out k_ e_.symm).1;have:=HGL7.out;omega));have HBs:=Aside0.mk (HB6.out.grown hg_ HB6.out.size (fun k_ hk_=>by have:=(HLW.out k_ hk_).1;have:=HB7.out;omega));have HRs:=Aside0.mk hr_;clear hcs hs_ hr_ hg_ HYn HWn HN6 HF6 HO6 HB6 z1)
                  have hx0:0 < x.length:=List.length_pos_iff.2 (HJ3.out.1 _ (List.mem_append_right _ List.mem_cons_self)).1
                  obtain ⟨gw,cw_,ew_,_⟩:=Kd.R_form HRs.out hx0
                  have eAW:AW = some ⟨gw,0,none⟩:=by injection ew_
                  subst eAW
                  clear ew_
                  obtain ⟨aw,haw⟩:∃ q_:Addr,q_ = ⟨gw,0,none⟩:=⟨_,rfl⟩
                  rw [← haw] at HX HRs HLW ⊢
                  clear haw
                  have hxcap:x.length ≤ cW:=(Kd.R_reads' HRs.out).2.1
                  have HF3:=Aside0.mk (Kd.F_mono (Kd.N_F (Kd.R_N (Kd.R_bound HRs.out))) (ok':=fun k_=>k_ ≠ g_ ∧ k_ ≠ gy ∧ some k_ ≠ (Value.slice (some ⟨g5,off5,none⟩) ds.length c6).ownBlock) (fun k_ hk=>⟨by have:=hk.2.1;have:=HGL7.out;omega,hk.1.2,fun e_=>by have:=HRL.out k_ e_.symm;have:=hk.2.1;omega⟩))
                  clear HRs HLW hxs hcl
                  have x121:W11.cell? ⟨gy,1,none⟩ = some (.slice (some aw) x.length cW):=(blk_cell HX.out 1).trans rfl
                  have hxl:x.length ≤ 1048576:=hg3
                  go_wp2
                  go_loopw [76] (fun v76 wr=>∃ (j:Nat) (od:List Int),j ≤ x.length ∧ v76 = .int .i64 j ∧ od.length = no ∧ Hid (lincs od (x.drop j) = some o3) ∧ Hid (Kd.F (Kd.int .i64) wr (fun k_=>k_ ≠ g_ ∧ k_ ≠ gy ∧ some k_ ≠ (Value.slice (some ⟨g5,off5,none⟩) ds.length c6).ownBlock) (some aw) x.length x) ∧ Hid (wr.heap[gy]? = some (.cells #[.int .i64 sm,.slice (some aw) x.length cW] 85 (0,0))) ∧ Hid (GRow wr w.heap.size (.slice (some ⟨g5,off5,none⟩) ds.length c6) (x1 :: y1 :: t)) ∧ Hid (GF wr g_ (.slice (some ⟨g5,off5,none⟩) ds.length c6) (x1 :: y1 :: t)) ∧ Hid (Kd.R (Kd.int .i64) 3 wr w.heap.size (fun k_=>k_ = g_) (.slice (some ⟨g_,0,none⟩) no co) od) ∧ Hid (Below w.heap.size w wr)) (fun v76 _=>x.length - (intOf v76).toNat)
                  case atStart=>exact ⟨0,oc,Nat.zero_le _,rfl,HL.out,HI'.out,HF3.out,HX.out,HNs.out,HFs.out,HOs.out,HBs.out⟩
                  case round =>
                    rename World=>wj
                    clear HI' HF3 HX HNs HFs HOs HBs x121 HL
                    obtain ⟨j,od,hj,rfl,hod,hli,hF,hX,hN,hG,hO,hB⟩:=hrel
                    unfold Hid at hli hF hX hN hG hO hB
                    have HX:=Aside0.mk hX
                    have HNs:=Aside0.mk hN
                    have HFs:=Aside0.mk hG
                    have HO6:=Aside0.mk hO
                    have HB6:=Aside0.mk hB
                    have HF3:=Aside0.mk hF
                    clear hX hN hG hO hB
                    by_cases hp:j < x.length
                    · obtain ⟨ad,e0,q0⟩:=Kd.at_int (Kd.F_now hF) (j:Int) (by omega) (by omega)
                      injection e0 with e0
                      subst e0
                      have hrd:rd x (j:Int) = x[j]:=by unfold rd;simp [List.getD_eq_getElem?_getD,hp]
                      rw [Int.toNat_natCast,hrd] at q0
                      rw [List.drop_eq_getElem_cons hp] at hli
                      generalize x[j] = n0 at hli q0
                      simp only [lincs] at hli
                      split at hli
                      rotate_left
                      · cases hli
                      rename_i hn0
                      have HLI:=Aside0.mk hli
                      obtain ⟨hc1,hc2⟩:=Kd.R_cell (enc:=Value.int .i64) (h1:=fun _=>rfl) (0:Int) (hod.symm ▸ HO6.out) n0 hn0.1 hn0.2
                      have hc1':wj.cell? ⟨g_,n0.toNat,none⟩ = some (.int .i64 (rd od n0)):=hc1
                      have t1:=eq_true (show (0:Int) ≤ (j:Int) by omega)
                      have t2:=eq_true (show (j:Int) < (x.length:Int) by omega)
                      have t3:=eq_true hp
                      have t4:=eq_true hn0.1
                      have t5:=eq_true (show n0 < (no:Int) from by rw [← hod];exact hn0.2)
                      clear hF hli hrd hc1
                      go_wp2
                      generalize hvv:wrap64 (rd od n0 + 1) = vv at HLI ⊢
                      have HSZ:=Aside0.mk (show (wj.setCell ⟨g_,n0.toNat,none⟩ (.int .i64 vv)).heap.size = wj.heap.size by simp [World.setCell])
                      have HFn:=Aside0.mk (Kd.F_far (p:=⟨g_,n0.toNat,none⟩) HF3.out (fun _ hk=>hk.1) (.int .i64 vv))
                      have HXn:=Aside0.mk ((Below.heap_setCell wj ⟨g_,n0.toNat,none⟩ (.int .i64 vv) gy (fun q_=>by have:=HGL7.out;have:=HLE.out;have q2_:gy = g_:=q_;omega)).trans HX.out)
                      have HNn:=Aside0.mk (GRow_move HNs.out (Nat.le_of_eq HSZ.out.symm) (fun k_ hk_ _=>Below.heap_setCell wj ⟨g_,n0.toNat,none⟩ (.int .i64 vv) k_ (fun e_=>HFs.out.1 (by rw [hk_,e_]))))
                      have HGn:=Aside0.mk (GF_step HFs.out (fun k_ hk_ _ _=>Below.heap_setCell wj ⟨g_,n0.toNat,none⟩ (.int .i64 vv) k_ hk_))
                      have HOn:=Aside0.mk (Kd.R_putn (enc:=Value.int .i64) (h1:=fun _=>rfl) HO6.out n0 vv)
                      have HBn:=Aside0.mk (below_set HB6.out HGE.out (v:=.int .i64 vv) (j:=n0.toNat))
                      clear hc1' hc2 hvv q0 HSZ
                      generalize wj.setCell ⟨g_,n0.toNat,none⟩ (.int .i64 vv) = W16 at HXn HFn HNn HGn HOn HBn ⊢
                      go_roundw
                      case rel=>exact ⟨j + 1,od.set n0.toNat vv,hp,rfl,by rw [List.length_set];exact hod,HLI.out,HFn.out,HXn.out,HNn.out,HGn.out,HOn.out,HBn.out⟩
                      case measure=>simp [intOf];omega
                    · obtain rfl:j = x.length:=by omega
                      rw [List.drop_length] at hli
                      simp only [lincs,Option.some.injEq] at hli
                      subst hli
                      clear hF hp hj
                      obtain ⟨i7,hi7,_,hsz7,_⟩:=info_parts ginfo
                      have hcut2:=cut_from (P:=Try.prog) 83 85 .i64 Try.underlying83 hi7 2 hsz7 (some ⟨g5,off5,none⟩) ds.length c6 2 (by omega) (by have:=HD2.out;omega)
                      obtain ⟨v6,hv6⟩:∃ q_,q_ = Value.slice (if c6 = (2:Int).toNat then (some ⟨g5,off5,none⟩) else (some (⟨g5,off5,none⟩:Addr)).map (·.add ((2:Int).toNat * 2))) (ds.length - (2:Int).toNat) (c6 - (2:Int).toNat):=⟨_,rfl⟩
                      rw [← hv6] at hcut2
                      have h6own:v6.ownBlock = some g5:=by rw [hv6];exact cut2_own
                      have HN2:=Aside0.mk (show GRow wj w.heap.size v6 t by rw [hv6];exact GRow_cut2 HNs.out)
                      have HG2:=Aside0.mk (GF_own (v':=v6) (GF_mem HFs.out (ds':=t) (fun z_ hz_=>List.mem_cons_of_mem _ (List.mem_cons_of_mem _ hz_))) (by rw [h6own];rfl))
                      have hgy5:gy ≠ g5:=by have:=HRL.out g5 rfl;have:=HLE.out;omega
                      have HGLj:=Aside0.mk (Kd.R_lt HO6.out g_ (by simp [Value.ownBlock]))
                      clear hv6 HNs HFs
                      go_upto_region 22 with fail
                      have hd0:Below wj.heap.size wj wj.drew:=below_drew1 (Below.refl _ _)
                      replace HX:=Aside0.mk ((hd0.block gy (blk_lt HX.out)).trans HX.out)
                      replace HN2:=Aside0.mk (GRow_below HN2.out hd0)
                      replace HG2:=Aside0.mk (GF_below HG2.out hd0)
                      replace HF3:=Aside0.mk (Kd.F_below HF3.out hd0)
                      replace HO6:=Aside0.mk (Kd.R_below HO6.out hd0)
                      replace HGLj:=Aside0.mk (Nat.lt_of_lt_of_le HGLj.out hd0.size)
                      replace HB6:=Aside0.mk (below_step HB6.out hd0)
                      clear hd0
                      refine start_ (n:=6) (S:=fun w'=>w'.cell? ⟨gy,0,none⟩ = some (.int .i64 sm) ∧ w'.cell? ⟨gy,1,none⟩ = some (.slice (some aw) x.length cW)) (ds:=[]) #[false,false,false,false,false,false] (by kernel_rfl) rfl rfl ⟨(blk_cell HX.out 0).trans rfl,(blk_cell HX.out 1).trans rfl⟩ (fun hHeld=>?_)
                      generalize wj.drew = wk at HX HN2 HG2 HF3 HO6 HGLj HB6 hHeld ⊢
                      refine pure_ (i:=0) (N:=(some 87)) (v:=?_) (a':=?_) #[true,false,false,false,false,false] rfl rfl (by kernel_rfl) (fun _ _ _ h=>h) (Or.inl ⟨by rfl,?_⟩) ?_ ?_
                      rotate_left
                      · intro w'
                        go_simp
                        with_reducible rfl
                      rotate_left
                      · simp only [Act.put,List.setIfInBounds_toArray,List.set_cons_zero,List.set_cons_succ,i64_w,i32_w]
                        rfl
                      refine pure_ (i:=1) (N:=(some 88)) (v:=?_) (a':=?_) #[true,true,false,false,false,false] rfl rfl (by kernel_rfl) (fun _ _ _ h=>h) (Or.inl ⟨by rfl,?_⟩) ?_ ?_
                      rotate_left
                      · intro w'
                        go_simp
                        with_reducible rfl
                      rotate_left
                      · simp only [Act.put,List.setIfInBounds_toArray,List.set_cons_zero,List.set_cons_succ,i64_w,i32_w]
                        rfl
                      refine take_ (i:=2) (N:=(some 89)) (v:=?_) (a':=?_) #[true,true,true,false,false,false] rfl rfl (by kernel_rfl) (fun _ _ _ h=>h) (Or.inl ⟨by rfl,?_⟩) hHeld ?_ ?_
                      rotate_left
                      · intro w' ⟨s0,s1⟩
                        go_simp
                        with_reducible rfl
                      rotate_left
                      · simp only [Act.put,List.setIfInBounds_toArray,List.set_cons_zero,List.set_cons_succ,i64_w,i32_w]
                        rfl
                      refine one_ (i:=3) (N:=(some 90)) #[true,true,true,true,false,false] rfl rfl (by kernel_rfl) (by decide) (fun K hK=>?_)
                      refine value_ (w1:=?_) (v:=?_) (by rfl) rfl ?_ ?_
                      rotate_left 2
                      · go_simp
                        constructor
                        · rfl
                        · rfl
                      refine hK.out _ _ ⟨(below_alloc (Below.refl _ _) _).cell (World.block_lt_of_cell? _ _ hHeld.1) |>.trans hHeld.1,(below_alloc (Below.refl _ _) _).cell (World.block_lt_of_cell? _ _ hHeld.2) |>.trans hHeld.2⟩ (fun hHeld=>?_)
                      clear hK K
                      refine norm_ (a':=?_) ?_ ?_
                      rotate_left
                      · show Act.put _ (some 90) _ = _
                        simp only [Act.put,List.setIfInBounds_toArray,List.set_cons_zero,List.set_cons_succ,i64_w,i32_w]
                        rfl
                      refine one_ (i:=4) (N:=(some 91)) #[true,true,true,true,true,false] rfl rfl (by kernel_rfl) (by decide) (fun K hK=>?_)
                      refine Try.gr_append_step (w0:=w) (W:=wk) w.heap.size rfl (.tmp 88) (.tmp 90) rfl v6 t (⟨sm,x,aw,cW⟩:GD) rfl rfl HN2.out HB6.out HB6.out.size (by have:=HD2.out;omega) ?_
                      intro v7 W18 hq_ hb_ hg_ ha_
                      have HO8:=Aside0.mk (Kd.R_grown HO6.out hg_ (fun k_ hk e_=>HG2.out.1 (by rw [← e_,hk])))
                      have HN8:=Aside0.mk hq_
                      have HF8:=Aside0.mk (GF_append HG2.out hg_ ha_ HGLj.out (y:=(⟨sm,x,aw,cW⟩:GD)) (Kd.F_mono HF3.out (fun k_ hk=>⟨hk.1,fun e_=>hk.2.2 (by rw [e_,h6own];rfl)⟩)) hxcap)
                      have HB8:=Aside0.mk hb_
                      have hh:W18.cell? ⟨gy,0,none⟩ = some (.int .i64 sm) ∧ W18.cell? ⟨gy,1,none⟩ = some (.slice (some aw) x.length cW):=by have hx8:=(hg_.block gy (blk_lt HX.out) (fun e_=>hgy5 (by rw [h6own] at e_;injection e_))).trans HX.out;exact ⟨(blk_cell hx8 0).trans rfl,(blk_cell hx8 1).trans rfl⟩
                      clear hq_ hb_ hg_ ha_
                      refine hK.out _ _ hh (fun hHeld=>?_)
                      clear hK K hHeld
                      refine norm_ (a':=?_) ?_ ?_
                      rotate_left
                      · show Act.put _ (some 91) _ = _
                        simp only [Act.put,List.setIfInBounds_toArray,List.set_cons_zero,List.set_cons_succ,i64_w,i32_w]
                        rfl
                      refine pure_ (i:=5) (N:=(some 5)) (v:=?_) (a':=?_) #[true,true,true,true,true,true] rfl rfl (by kernel_rfl) (fun _ _ _ h=>h) (Or.inl ⟨by rfl,?_⟩) ?_ ?_
                      rotate_left
                      · intro w'
                        go_simp
                        with_reducible rfl
                      rotate_left
                      · simp only [Act.put,List.setIfInBounds_toArray,List.set_cons_zero,List.set_cons_succ,i64_w,i32_w]
                        rfl
                      refine done_ (by kernel_rfl) ?_
                      go_wp2
                      go_roundg k1
                      case measure=>have:=HK1.out;omega
                      case rel=>exact ⟨b.2 ++ [(⟨sm,x⟩:S78)],t ++ [(⟨sm,x,aw,cW⟩:GD)],od,⟨by have:=HLR.out;rw [HSM.out];exact this⟩,⟨by have:=HK1.out;omega⟩,⟨by rw [List.map_append];exact HPB.out.append_right _⟩,⟨by rw [HSM.out];exact GI_perm HJ3.out (HPB.out.symm.append_right _)⟩,by rw [List.length_append,List.length_singleton];have:=HD2.out;omega,HN8,HF8,HO8,⟨hod⟩,HB8⟩
                · rw [if_neg hm] at H
                  obtain rfl:=Option.some.inj H
                  have u1:=eq_false (show ¬ (1:Int) < (ds.length:Int) by omega)
                  go_wp2
                  go_ret2
                  exact ⟨_,rfl,Kd.R_mono HO.out (fun _ _=>trivial),HB.out⟩

end Go.Proofs.Ytmgkflkfoccgkab.QFnHuffman
