
import Derived.Test.YtmgkflkfoccgkabDoorQFnCodedx10
namespace Go.Proofs.YtmgkflkfoccgkabDoor.Pure
open Go.RowKit Go.Proofs.YtmgkflkfoccgkabDoor.QFnCoded Go.Proofs.YtmgkflkfoccgkabDoorW.PrintWords Go.Proofs.YtmgkflkfoccgkabDoorW.PrintLast Go.Proofs.YtmgkflkfoccgkabDoorW.PrintMore
set_option linter.unusedVariables false
set_option linter.unusedSimpArgs false
theorem w64 {x:Int} (h0:-9223372036854775808≤x)(h1:x≤9223372036854775807):wrap64 x=x:=by
 unfold wrap64;omega
theorem Ev.succ {α:Type} {g:Nat→Option α} {r:α} (h:Ev (fun k=>g (k+1)) r):Ev g r:=Ev.step (fun _=>rfl) h
theorem Ev.pos {α:Type} {c:Prop} [Decidable c] {a b:Nat→Option α} {r:α} (h:c)(e:Ev (fun k=>a k) r):Ev (fun k=>if c then a k else b k) r:=Ev.congr (fun _=>if_pos h) e
theorem Ev.neg {α:Type} {c:Prop} [Decidable c] {a b:Nat→Option α} {r:α} (h:¬ c)(e:Ev (fun k=>b k) r):Ev (fun k=>if c then a k else b k) r:=Ev.congr (fun _=>if_neg h) e
theorem Ev.bnd {α β:Type} {g:Nat→Option α} {f:Nat→α→Option β} {a:α} {r:β} (h:Ev (fun k=>g k) a)(k:Ev (fun n=>f n a) r):Ev (fun n=>(g n).bind (fun x=>f n x)) r:=Ev.bind h k
theorem Ev.bnd1 {α β:Type} {g:Option α} {f:Nat→α→Option β} {a:α} {r:β} (h:g=some a)(k:Ev (fun n=>f n a) r):Ev (fun n=>g.bind (fun x=>f n x)) r:=by
 rw[h];exact k
theorem Ev.ret {α:Type} (r:α):Ev (fun _=>some r) r:=Ev.now r
theorem Ev.eq {α:Type} {g:Nat→Option α} {r r':α} (h:Ev g r)(e:r=r'):Ev g r':=e ▸ h
theorem Ev.all {α:Type} {g:Nat→Option α} {r:α} (h:Ev (fun k=>g k) r):∃ k,g k=some r:=h.rounds
theorem rd_mid (pre:List Int)(x:Int)(post:List Int):rd (pre++x :: post) (pre.length:Int)=x:=by
 unfold rd;simp
theorem spec_in_eq (a lo hi:Int):spec_l1In.f a lo hi=some (decide (lo≤a∧a≤hi)):=by
 unfold spec_l1In.f
 by_cases h1:a≥lo
 ·rw[if_pos h1]
  by_cases h2:a≤hi
  ·rw[decide_eq_true h2,decide_eq_true ⟨h1,h2⟩]
  ·rw[decide_eq_false h2,decide_eq_false (fun h=>h2 h.2)]
 ·rw[if_neg h1,decide_eq_false (fun h=>h1 h.1)]
def inAll (lo hi:Int)(l:List Int):Bool:=l.all fun x=>decide (lo≤x∧x≤hi)
theorem spec_l1All_l0 (lo hi:Int)(post:List Int):∀ pre:List Int,(pre++post).length≤140737488351232→Ev (fun k=>spec_l1All.l0 k lo hi (pre++post) ((pre++post).length:Int) (pre.length:Int)) (inAll lo hi post):=by
 induction post with
 | nil=>
  intro pre hl
  refine Ev.succ ?_
  simp only[spec_l1All.l0]
  exact Ev.neg (by simp) (Ev.ret _)
 | cons x post ih=>
  intro pre hl
  have h:=ih (pre++[x]) (by simpa using hl)
  simp only[List.length_append,List.length_cons]at hl
  refine Ev.succ ?_
  simp only[spec_l1All.l0]
  refine Ev.pos (by simp only[List.length_append,List.length_cons];omega) (Ev.pos (by omega) (Ev.pos (by simp only[List.length_append,List.length_cons];omega) ?_))
  rw[rd_mid]
  refine Ev.bnd1 (spec_in_eq _ _ _) ?_
  by_cases hx:lo≤x∧x≤hi
  ·rw[decide_eq_true hx]
   refine Ev.pos rfl ?_
   rw[w64 (by omega) (by omega)]
   refine Ev.eq (by simpa using h) ?_
   simp[inAll,hx]
  ·rw[decide_eq_false hx]
   exact Ev.neg (by simp) (Ev.eq (Ev.ret _) (by simp only[inAll,List.all_cons,decide_eq_false hx,Bool.false_and]))
theorem spec_l1All_ev (lo hi:Int)(l:List Int)(hl:l.length≤140737488351232):Ev (fun k=>spec_l1All.f k l lo hi) (inAll lo hi l):=by
 simp only[spec_l1All.f]
 simpa using spec_l1All_l0 lo hi l [] (by simpa using hl)
theorem inAll_mem {lo hi:Int} {l:List Int} (h:inAll lo hi l=true):∀ x∈l,lo≤x∧x≤hi:=by
 intro x hx
 unfold inAll at h
 simpa using List.all_eq_true.1 h x hx
theorem anyO_not {α:Type} (f:α→Option Bool)(p:α→Bool)(l:List α)(h:∀ x∈l,f x=some (!p x)):anyO f l=some (!l.all p):=by
 induction l with
 | nil=>rfl
 | cons x t ih=>
  simp only[anyO]
  rw[h x (by simp),Option.bind_some]
  cases hp:p x with
  | true=>simp[hp,ih (fun y hy=>h y (by simp[hy]))]
  | false=>simp[hp]
def within (m:Int)(l:List Int):Bool:=decide (l.length≤12) && inAll 0 m l
theorem impl_aw1 (a m:Int):impl_areWithin_1.f a m=some (!decide (0≤a∧a≤m)):=by
 unfold impl_areWithin_1.f
 by_cases h:a<0
 ·rw[if_pos h,decide_eq_false (fun h2=>absurd h2.1 (by omega))];rfl
 ·rw[if_neg h]
  by_cases h2:a > m
  ·rw[decide_eq_true h2,decide_eq_false (fun h3=>absurd h3.2 (by omega))];rfl
  ·rw[decide_eq_false h2,decide_eq_true ⟨by omega,by omega⟩];rfl
theorem impl_areWithin_eq (l:List Int)(m:Int):impl_areWithin.f l m=some (within m l):=by
 unfold impl_areWithin.f within
 by_cases h:l.length≤12
 ·rw[if_pos (by omega),decide_eq_true h]
  unfold impl_areWithin_1_any.f
  rw[anyO_not _ (fun x=>decide (0≤x∧x≤m)) l (fun x _=>impl_aw1 x m)]
  simp[inAll]
 ·rw[if_neg (by omega),decide_eq_false h];rfl
theorem shr_4096 (n:Int):0≤shr .i64 4096 n∧shr .i64 4096 n≤4096:=by
 unfold shr
 have h:(0:Int)≤2 ^ min n.toNat (IntKind.bits .i64):=Int.pow_nonneg (by omega)
 exact⟨Int.ediv_nonneg (by omega) h,Int.ediv_le_self _ (by omega)⟩
theorem u64_id {n:Int} (h0:0≤n)(h1:n≤9223372036854775807):IntKind.u64.wrap n=n:=by
 simp[IntKind.wrap,IntKind.bits,IntKind.signed];omega
def kr:Int→List Int→Int
 | s,[]=>s
 | s,n :: t=>kr (if n > 0 then s+shr .i64 4096 n else s) t
theorem spec_kraft_l0 (post:List Int):∀ (pre:List Int) (s:Int),0≤s→s+post.length*4096≤1000000000000→inAll 0 12 post=true→(pre++post).length≤140737488351232→Ev (fun k=>spec_l11Kraft.l0 k s (pre++post) ((pre++post).length:Int) (pre.length:Int)) (kr s post):=by
 induction post with
 | nil=>
  intro pre s h0 h1 hp hl
  refine Ev.succ ?_
  simp only[spec_l11Kraft.l0]
  exact Ev.neg (by simp) (Ev.ret _)
 | cons n post ih=>
  intro pre s h0 h1 hp hl
  have hn:=inAll_mem hp n (by simp)
  have hp':inAll 0 12 post=true:=by simp only[inAll,List.all_cons,Bool.and_eq_true]at hp;exact hp.2
  have hl':(pre++[n]++post).length≤140737488351232:=by simpa using hl
  simp only[List.length_append,List.length_cons]at hl h1
  have hs:=shr_4096 n
  refine Ev.succ ?_
  simp only[spec_l11Kraft.l0]
  refine Ev.pos (by simp only[List.length_append,List.length_cons];omega) (Ev.pos (by omega) (Ev.pos (by simp only[List.length_append,List.length_cons];omega) ?_))
  rw[w64 (x:=(pre.length:Int)+1) (by omega) (by omega)]
  by_cases g:n > 0
  ·refine Ev.pos (by rw[rd_mid];exact g) ?_
   rw[rd_mid,u64_id (by omega) (by omega)]
   refine Ev.pos (by omega) ?_
   rw[w64 (x:=s+shr .i64 4096 n) (by omega) (by omega)]
   have h:=ih (pre++[n]) (s+shr .i64 4096 n) (by omega) (by omega) hp' hl'
   simp only[kr,if_pos g]
   simpa using h
  ·refine Ev.neg (by rw[rd_mid];exact g) ?_
   have h:=ih (pre++[n]) s (by omega) (by omega) hp' hl'
   simp only[kr,if_neg g]
   simpa using h
theorem within_facts {m:Int} {l:List Int} (h:within m l=true):l.length≤12∧inAll 0 m l=true:=by
 simpa [within] using h
theorem spec_kraft (l:List Int)(h:within 12 l=true):Ev (fun k=>spec_l11Kraft.f k l) (kr 0 l):=by
 obtain⟨h1,h2⟩:=within_facts h
 simp only[spec_l11Kraft.f]
 simpa using spec_kraft_l0 l [] 0 (by omega) (by omega) h2 (by simp;omega)
theorem spec_lengths (l:List Int)(hl:l.length≤140737488351232):Ev (fun k=>spec_l11Lengths.f k l) (within 12 l):=by
 simp only[spec_l11Lengths.f]
 by_cases h:l.length≤12
 ·exact Ev.pos (by omega) (Ev.bnd (spec_l1All_ev 0 12 l hl) (Ev.eq (Ev.ret _) (by simp[within,h])))
 ·exact Ev.neg (by omega) (Ev.eq (Ev.ret _) (by simp[within,h]))
theorem impl_kraft_l0 (post:List Int):∀ (pre:List Int) (s:Int),0≤s→s+post.length*4096≤1000000000000→inAll 0 12 post=true→(pre++post).length≤140737488351232→Ev (fun k=>impl_KraftOf.l0 k s (pre++post) ((pre++post).length:Int) (pre.length:Int)) (kr s post,true):=by
 induction post with
 | nil=>
  intro pre s h0 h1 hp hl
  refine Ev.succ ?_
  simp only[impl_KraftOf.l0]
  exact Ev.neg (by simp) (Ev.ret _)
 | cons n post ih=>
  intro pre s h0 h1 hp hl
  have hn:=inAll_mem hp n (by simp)
  have hp':inAll 0 12 post=true:=by simp only[inAll,List.all_cons,Bool.and_eq_true]at hp;exact hp.2
  have hl':(pre++[n]++post).length≤140737488351232:=by simpa using hl
  simp only[List.length_append,List.length_cons]at hl h1
  have hs:=shr_4096 n
  refine Ev.succ ?_
  simp only[impl_KraftOf.l0]
  refine Ev.pos (by simp only[List.length_append,List.length_cons];omega) (Ev.pos (by omega) (Ev.pos (by simp only[List.length_append,List.length_cons];omega) ?_))
  rw[w64 (x:=(pre.length:Int)+1) (by omega) (by omega)]
  by_cases g:n > 0
  ·refine Ev.pos (by rw[rd_mid];exact g) ?_
   rw[rd_mid]
   refine Ev.pos (by omega) ?_
   rw[w64 (x:=s+shr .i64 4096 n) (by omega) (by omega)]
   have h:=ih (pre++[n]) (s+shr .i64 4096 n) (by omega) (by omega) hp' hl'
   simp only[kr,if_pos g]
   simpa using h
  ·refine Ev.neg (by rw[rd_mid];exact g) ?_
   have h:=ih (pre++[n]) s (by omega) (by omega) hp' hl'
   simp only[kr,if_neg g]
   simpa using h
def kraftOf (l:List Int):Int × Bool:=if within 12 l=true then (kr 0 l,true) else (0,false)
theorem impl_KraftOf_ev (l:List Int):Ev (fun k=>impl_KraftOf.f k l) (kraftOf l):=by
 simp only[impl_KraftOf.f,impl_areWithin_eq,Option.bind_some,kraftOf]
 by_cases h:within 12 l=true
 ·rw[if_pos h]
  obtain⟨h1,h2⟩:=within_facts h
  exact Ev.pos h (by simpa using impl_kraft_l0 l [] 0 (by omega) (by omega) h2 (by simp;omega))
 ·rw[if_neg h]
  exact Ev.neg h (Ev.ret _)
def goodLengths (l:List Int):Bool:=within 12 l && decide (kr 0 l≤4096)
theorem spec_GoodLengths_ev (l:List Int)(hl:l.length≤140737488351232):Ev (fun k=>spec_GoodLengths.f k l) (goodLengths l):=by
 simp only[spec_GoodLengths.f,goodLengths]
 refine Ev.bnd (spec_lengths l hl) ?_
 by_cases h:within 12 l=true
 ·exact Ev.pos h (Ev.bnd (spec_kraft l h) (Ev.eq (Ev.ret _) (by rw[h];rfl)))
 ·exact Ev.neg h (Ev.eq (Ev.ret _) (by simp[h]))
theorem impl_GoodLengths_ev (l:List Int):Ev (fun k=>impl_GoodLengths.f k l) (goodLengths l):=by
 simp only[impl_GoodLengths.f,goodLengths]
 refine Ev.bnd (impl_KraftOf_ev l) ?_
 unfold kraftOf
 by_cases h:within 12 l=true
 ·rw[if_pos h]
  exact Ev.pos rfl (Ev.eq (Ev.ret _) (by rw[h];rfl))
 ·rw[if_neg h]
  exact Ev.neg (by simp) (Ev.eq (Ev.ret _) (by simp[h]))
theorem toList_iff (a b:ByteArray):a.toList=b.toList↔a=b:=by
 rw[ByteArray.toList_eq,ByteArray.toList_eq]
 exact⟨fun h=>ByteArray.ext (Array.toList_inj.1 h),fun h=>by rw[h]⟩
def baL (l:List UInt8):ByteArray:=⟨l.toArray⟩
theorem baL_data (l:List UInt8):(baL l).data.toList=l:=rfl
theorem baL_size (l:List UInt8):(baL l).size=l.length:=by
 rw[show (baL l).size=(baL l).data.size from rfl,← Array.length_toList,baL_data]
theorem ba_ext {a b:ByteArray} (h:a.data.toList=b.data.toList):a=b:=ByteArray.ext (Array.toList_inj.1 h)
theorem cbyte_half (n m:Nat):cbyte (n:Int) (m+1)=cbyte ((n / 2:Nat):Int) m:=by
 unfold cbyte
 rw[Int.toNat_natCast,Int.toNat_natCast,Nat.div_div_eq_div_mul,Nat.pow_succ,Nat.mul_comm]
theorem cbits_half (n m:Nat):cbits (n:Int) (m+1)=cbits ((n / 2:Nat):Int) m++[cbyte (n:Int) 0]:=by
 induction m with
 | zero=>rfl
 | succ m ih=>rw[cbits,ih,cbyte_half,cbits];rfl
theorem low_bit (n:Nat):(strOfNums [(wrap64 (48+(Int.tmod (n:Int) 2))) % 256]).data.toList=[cbyte (n:Int) 0]:=by
 rw[show Int.tmod (n:Int) 2=((n % 2:Nat):Int) from rfl,w64 (by omega) (by omega),strOfNums_data]
 unfold cbyte
 rw[Int.toNat_natCast,Nat.pow_zero,Nat.div_one,List.map_cons,List.map_nil]
 have h:n % 2<2:=Nat.mod_lt _ (by omega)
 generalize n % 2=y at h ⊢
 congr 2
 omega
theorem spec_bits (m:Nat):∀ (n:Nat) (acc:ByteArray),n≤1000000→acc.size+m≤1000→Ev (fun k=>spec_l11Bits.l0 k (n:Int) (m:Int) acc) (baL (cbits (n:Int) m)++acc):=by
 induction m with
 | zero=>
  intro n acc hn ha
  refine Ev.succ ?_
  simp only[spec_l11Bits.l0]
  refine Ev.neg (by omega) (Ev.eq (Ev.ret _) (ba_ext ?_))
  rw[ByteArray.data_append,Array.toList_append,baL_data];rfl
 | succ m ih=>
  intro n acc hn ha
  have h:=ih (n / 2) (strOfNums [(wrap64 (48+(Int.tmod (n:Int) 2))) % 256]++acc) (by omega) (by rw[ByteArray.size_append,strOfNums_size,List.length_cons,List.length_nil];omega)
  refine Ev.succ ?_
  simp only[spec_l11Bits.l0]
  rw[show Int.tdiv (n:Int) 2=((n / 2:Nat):Int) from rfl,w64 (x:=((n / 2:Nat):Int)) (by omega) (by omega),w64 (x:=((m+1:Nat):Int) - 1) (by omega) (by omega),show ((m+1:Nat):Int) - 1=(m:Int) by omega]
  refine Ev.pos (by omega) (Ev.bnd1 rfl (Ev.pos (by rw[strOfNums_size,List.length_cons,List.length_nil];omega) (Ev.eq h (ba_ext ?_))))
  rw[ByteArray.data_append,ByteArray.data_append,ByteArray.data_append,Array.toList_append,Array.toList_append,Array.toList_append,low_bit,baL_data,baL_data,cbits_half,List.append_assoc]
def nx (code size:Int):Int:=if size > 0 then code+1 else code
def nextCode (long:Nat)(code size:Int):Int:=if size > 0 then (code+1)*2 ^ ((long:Int) - size).toNat else code
theorem next_eq (long:Nat)(code size:Int)(h0:0≤size)(hz:size=0→code=0):nextCode long code size=nx code size*2 ^ ((long:Int) - size).toNat:=by
 unfold nextCode nx
 by_cases g:size > 0
 ·rw[if_pos g,if_pos g]
 ·rw[if_neg g,if_neg g,hz (by omega)];simp
theorem next_le (long:Nat)(code size:Int)(c:Nat)(h0:0≤size)(hl:size≤long)(hz:size=0→code=0)(hn:nx code size≤(c:Int)*2 ^ size.toNat):nextCode long code size≤(c:Int)*2 ^ long:=by
 rw[next_eq long code size h0 hz]
 have h:=Int.mul_le_mul_of_nonneg_right hn (show (0:Int)≤2 ^ ((long:Int) - size).toNat from Int.le_of_lt (Int.pow_pos (by decide)))
 rw[Int.mul_assoc,← Int.pow_add,show size.toNat+((long:Int) - size).toNat=long by omega]at h
 exact h
theorem pow_le12 (long:Nat)(h:long≤12):(2:Int) ^ long≤4096∧1≤(2:Int) ^ long:=by
 have:=(show ∀ n:Fin 13,(2:Int) ^ n.val≤4096∧1≤(2:Int) ^ n.val by decide) ⟨long,by omega⟩
 exact this
theorem shl_small (n:Int)(m:Int)(h0:0≤m)(h1:m≤12)(hn:0≤n*2 ^ m.toNat)(hb:n*2 ^ m.toNat≤1000000):shl .i64 n m=n*2 ^ m.toNat:=by
 unfold shl
 rw[Nat.min_eq_left (by show m.toNat≤64;omega),i64_w,w64 (by omega) (by omega)]
theorem cin_put (long:Nat)(i:Nat)(code size:Int)(outs:List ByteArray)(hc:0≤nextCode long code size)(hc1:nextCode long code size≤1000000)(hl:size≤long):cstep (long:Int) (long:Int) i (code,size,outs)=some (nextCode long code size,(long:Int),outs.set i (baL (cbits (nextCode long code size) long))):=by
 unfold cstep
 rw[if_pos rfl]
 unfold nextCode at hc hc1 ⊢
 by_cases g:size > 0
 ·rw[if_pos g]at hc hc1 ⊢
  rw[if_pos g]
  unfold cput
  rw[if_pos ⟨⟨hc,hc1⟩,hl⟩,Int.toNat_natCast];rfl
 ·rw[if_neg g]at hc hc1 ⊢
  rw[if_neg g]
  unfold cput
  rw[if_pos ⟨⟨hc,hc1⟩,hl⟩,Int.toNat_natCast];rfl
theorem codes_in (x0:List Int)(hx:x0.length≤12)(long:Nat)(h1:1≤long)(h12:long≤12)(post:List Int):∀ (pre:List Int) (code size:Int) (outs:List ByteArray) (c:Nat),pre++post=x0→outs.length=x0.length →
  0≤code→0≤size→size≤long→(size=0→code=0)→nx code size≤(c:Int)*2 ^ size.toNat→c+post.length≤144 →
  ∃ s':Int × Int × List ByteArray,cin long post pre.length (code,size,outs)=some s'∧s'.2.2.length=x0.length∧0≤s'.1∧0≤s'.2.1∧s'.2.1≤long∧(s'.2.1=0→s'.1=0)∧nx s'.1 s'.2.1≤((c+post.length:Nat):Int)*2 ^ s'.2.1.toNat ∧
   ∀ r,Ev (fun k=>spec_l11Codes.l0 k x0 s'.2.2 (nx s'.1 s'.2.1) s'.2.1 ((long:Int)+1)) r→Ev (fun k=>spec_l11Codes.l1 k x0 outs (nx code size) size (long:Int) (pre++post) ((pre++post).length:Int) (pre.length:Int)) r:=by
 induction post with
 | nil=>
  intro pre code size outs c he ho hc hs hsl hz hn hcc
  refine⟨(code,size,outs),rfl,ho,hc,hs,hsl,hz,hn,fun r hr=>Ev.succ ?_⟩
  simp only[spec_l11Codes.l1]
  rw[w64 (x:=(long:Int)+1) (by omega) (by omega)]
  exact Ev.neg (by simp) hr
 | cons x post ih=>
  intro pre code size outs c he ho hc hs hsl hz hn hcc
  have hlen:pre.length+(post.length+1)=x0.length:=by rw[← he];simp
  simp only[List.length_cons]at hcc
  have he':(pre++[x])++post=x0:=by rw[← he];simp
  have hpl:(pre++[x]).length=pre.length+1:=by simp
  have hpw:=pow_le12 long h12
  by_cases g:x=(long:Int)
  ·subst g
   have hle:=next_le long code size c hs hsl hz hn
   have h0:0≤nextCode long code size:=by
    unfold nextCode
    split
    ·exact Int.mul_nonneg (by omega) (Int.le_of_lt (Int.pow_pos (by decide)))
    ·exact hc
   have hle2:(c:Int)*2 ^ long≤144*4096:=Int.mul_le_mul (by omega) hpw.1 (by omega) (by omega)
   have hb:nextCode long code size≤1000000:=by omega
   have hput:=cin_put long pre.length code size outs h0 hb hsl
   have hnx:nx (nextCode long code size) (long:Int)=nextCode long code size+1:=by unfold nx;rw[if_pos (by omega)]
   have hsh:=next_eq long code size hs hz
   have hn2:nx (nextCode long code size) (long:Int)≤((c+1:Nat):Int)*2 ^ ((long:Int)).toNat:=by
    rw[hnx,Int.toNat_natCast,Int.natCast_add,Int.natCast_one,Int.add_mul,Int.one_mul]
    omega
   obtain⟨s',e,p1,p2,p3,p4,p5,p6,p7⟩:=ih (pre++[(long:Int)]) (nextCode long code size) (long:Int) (outs.set pre.length (baL (cbits (nextCode long code size) long))) (c+1) he' (by rw[List.length_set];exact ho) h0 (by omega) (by omega) (by omega) hn2 (by omega)
   rw[hpl]at e
   refine⟨s',by rw[cin,hput,Option.bind_some];exact e,p1,p2,p3,p4,p5,by rw[show c+((long:Int) :: post).length=c+1+post.length from by simp only[List.length_cons];omega];exact p6,fun r hr=>?_⟩
   have h:=p7 r hr
   rw[hnx,hpl,List.append_assoc,List.singleton_append]at h
   have hbits:=spec_bits long (nextCode long code size).toNat (⟨#[]⟩:ByteArray) (by omega) (by show 0+long≤1000;omega)
   rw[Int.toNat_of_nonneg h0]at hbits
   refine Ev.succ ?_
   simp only[spec_l11Codes.l1,List.length_append,List.length_cons]
   rw[rd_mid,w64 (x:=(long:Int) - size) (by omega) (by omega),IntWalk.u64_in _ (by omega),shl_small _ _ (by omega) (by omega) (by omega) (by omega),← hsh,w64 (x:=nextCode long code size+1) (by omega) (by omega),w64 (x:=(pre.length:Int)+1) (by omega) (by omega),Int.toNat_natCast]
   refine Ev.pos (by omega) (Ev.pos (by omega) (Ev.pos (by omega) (Ev.pos rfl (Ev.pos (by omega) (Ev.bnd (a:=baL (cbits (nextCode long code size) long)) ?_ (Ev.pos (by omega) ?_))))))
   ·simp only[spec_l11Bits.f]
    exact Ev.eq hbits (ba_ext (by rw[ByteArray.data_append,Array.toList_append];show _++[]=_;rw[List.append_nil]))
   ·simpa using h
  ·obtain⟨s',e,p1,p2,p3,p4,p5,p6,p7⟩:=ih (pre++[x]) code size outs c he' ho hc hs hsl hz hn (by omega)
   rw[hpl]at e
   have hpos:(0:Int)≤2 ^ s'.2.1.toNat:=Int.le_of_lt (Int.pow_pos (by decide))
   refine⟨s',by rw[cin,cstep,if_neg g,Option.bind_some];exact e,p1,p2,p3,p4,p5,?_,fun r hr=>?_⟩
   ·rw[show c+(x :: post).length=(c+post.length)+1 by simp only[List.length_cons];omega,Int.natCast_add,Int.natCast_one,Int.add_mul,Int.one_mul]
    omega
   ·have h:=p7 r hr
    rw[hpl,List.append_assoc,List.singleton_append]at h
    refine Ev.succ ?_
    simp only[spec_l11Codes.l1,List.length_append,List.length_cons]
    rw[rd_mid,w64 (x:=(pre.length:Int)+1) (by omega) (by omega)]
    exact Ev.pos (by omega) (Ev.pos (by omega) (Ev.pos (by omega) (Ev.neg g (by simpa using h))))
theorem codes_out (x0:List Int)(hx:x0.length≤12)(f:Nat):∀ (long:Nat) (code size:Int) (outs:List ByteArray) (c:Nat),long+f=13→1≤long→outs.length=x0.length→0≤code→0≤size→size≤long→(size=0→code=0)→nx code size≤(c:Int)*2 ^ size.toNat→c+f*12≤144 →
  ∃ fin:Int × Int × List ByteArray,cout x0 f long (code,size,outs)=some fin∧fin.2.2.length=x0.length∧Ev (fun k=>spec_l11Codes.l0 k x0 outs (nx code size) size (long:Int)) fin.2.2:=by
 induction f with
 | zero=>
  intro long code size outs c hf h1 ho hc hs hsl hz hn hcc
  refine⟨(code,size,outs),rfl,ho,Ev.succ ?_⟩
  simp only[spec_l11Codes.l0]
  exact Ev.neg (by omega) (Ev.ret _)
 | succ f ih=>
  intro long code size outs c hf h1 ho hc hs hsl hz hn hcc
  obtain⟨s',e,p1,p2,p3,p4,p5,p6,p7⟩:=codes_in x0 hx long h1 (by omega) x0 [] code size outs c rfl ho hc hs hsl hz hn (by omega)
  obtain⟨sc,ss,so⟩:=s'
  simp only at p1 p2 p3 p4 p5 p6 p7
  obtain⟨fin,e2,q1,q2⟩:=ih (long+1) sc ss so (c+x0.length) (by omega) (by omega) p1 p2 p3 (by omega) p5 p6 (by omega)
  rw[Int.natCast_add,Int.natCast_one]at e2 q2
  refine⟨fin,by rw[cout];rw[List.length_nil]at e;rw[e,Option.bind_some];exact e2,q1,Ev.succ ?_⟩
  have h:=p7 _ q2
  simp only[spec_l11Codes.l0]
  exact Ev.pos (by omega) (by simpa using h)
theorem codes_ev (l:List Int)(h:l.length≤12):∃ fin:Int × Int × List ByteArray,cout l 12 1 (0,0,List.replicate l.length ⟨#[]⟩)=some fin∧impl_codes.f l=some fin.2.2∧fin.2.2.length=l.length∧Ev (fun k=>spec_l11Codes.f k l) fin.2.2:=by
 obtain⟨fin,e,hl,hs⟩:=codes_out l h 12 1 0 0 (List.replicate l.length (⟨#[]⟩:ByteArray)) 0 rfl (by omega) (by simp) (by omega) (by omega) (by omega) (fun _=>rfl) (by simp[nx]) (by omega)
 refine⟨fin,e,?_,hl,?_⟩
 ·unfold impl_codes.f
  rw[if_pos (by omega)]
  have e':cout l 12 1 (0,0,List.replicate l.length ⟨#[]⟩)=some fin:=e
  rw[e',Option.map_some]
 ·simp only[spec_l11Codes.f]
  refine Ev.pos (by omega) (Ev.pos (by omega) ?_)
  try rw[Int.toNat_natCast]
  exact hs
def okAt (x0:List Int)(long:Int)(i:Nat)(outs:List ByteArray):Prop:=outs.length=x0.length∧∀ j,j<x0.length→(outs.getD j ByteArray.empty).size=if 1≤x0.getD j 0∧(x0.getD j 0<long∨(x0.getD j 0=long∧j<i)) then (x0.getD j 0).toNat else 0
theorem getD_set (outs:List ByteArray)(i j:Nat)(v:ByteArray)(h:i<outs.length):(outs.set i v).getD j ByteArray.empty=if j=i then v else outs.getD j ByteArray.empty:=by
 rw[List.getD_eq_getElem?_getD,List.getD_eq_getElem?_getD]
 by_cases g:j=i
 ·subst g
  rw[if_pos rfl,List.getElem?_set_self h];rfl
 ·rw[if_neg g,List.getElem?_set_ne (fun h=>g h.symm)]
theorem cput_ok (x0:List Int)(long:Int)(i:Nat)(outs:List ByteArray)(hi:i<x0.length)(hx:x0.getD i 0=long)(h1:1≤long)(h:okAt x0 long i outs)(code size:Int) (s':Int × Int × List ByteArray)(e:cput long i code size outs=some s'):okAt x0 long (i+1) s'.2.2:=by
 unfold cput at e
 split at e
 ·obtain rfl:=Option.some.inj e
  refine⟨by simp only[List.length_set];exact h.1,fun j hj=>?_⟩
  simp only
  rw[getD_set _ _ _ _ (by rw[h.1];exact hi)]
  by_cases g:j=i
  ·subst g
   rw[if_pos rfl,hx,if_pos ⟨h1,.inr ⟨rfl,by omega⟩⟩]
   rw[show (⟨(cbits code long.toNat).toArray⟩:ByteArray)=baL (cbits code long.toNat) from rfl,baL_size,cbits_length]
  ·rw[if_neg g,h.2 j hj]
   have c:(1≤x0.getD j 0∧(x0.getD j 0<long∨(x0.getD j 0=long∧j<i)))↔(1≤x0.getD j 0∧(x0.getD j 0<long∨(x0.getD j 0=long∧j<i+1))):=by omega
   simp only[c]
 ·cases e
theorem cin_ok (x0:List Int)(long:Int)(h1:1≤long)(post:List Int):∀ (pre:List Int) (s s':Int × Int × List ByteArray),pre++post=x0→okAt x0 long pre.length s.2.2→cin long post pre.length s=some s'→okAt x0 long x0.length s'.2.2:=by
 induction post with
 | nil=>
  intro pre s s' he h e
  simp only[cin,Option.some.injEq]at e
  subst e
  rw[List.append_nil]at he
  rw[← he]at h ⊢
  exact h
 | cons x post ih=>
  intro pre s s' he h e
  have hlt:pre.length<x0.length:=by rw[← he];simp
  have hx:x0.getD pre.length 0=x:=by rw[← he];simp
  rw[cin]at e
  obtain⟨s2,e1,e2⟩:=Option.bind_eq_some_iff.1 e
  have hl:(pre++[x]).length=pre.length+1:=by simp
  rw[← hl]at e2
  refine ih (pre++[x]) s2 s' (by rw[← he];simp) ?_ e2
  rw[hl]
  unfold cstep at e1
  split at e1
  ·rename_i g
   have hx2:=hx.trans g
   split at e1
   ·exact cput_ok x0 long pre.length s.2.2 hlt hx2 h1 h _ _ s2 e1
   ·exact cput_ok x0 long pre.length s.2.2 hlt hx2 h1 h _ _ s2 e1
  ·rename_i g
   obtain rfl:=Option.some.inj e1
   refine⟨h.1,fun j hj=>?_⟩
   rw[h.2 j hj]
   have c:(1≤x0.getD j 0∧(x0.getD j 0<long∨(x0.getD j 0=long∧j<pre.length)))↔(1≤x0.getD j 0∧(x0.getD j 0<long∨(x0.getD j 0=long∧j<pre.length+1))):=by
    by_cases gj:j=pre.length
    ·subst gj;rw[hx];omega
    ·omega
   simp only[c]
theorem cout_ok (x0:List Int)(f:Nat):∀ (long:Int) (s s':Int × Int × List ByteArray),1≤long→okAt x0 long 0 s.2.2→cout x0 f long s=some s'→okAt x0 (long+f) 0 s'.2.2:=by
 induction f with
 | zero=>
  intro long s s' h1 h e
  simp only[cout,Option.some.injEq]at e
  subst e
  simpa using h
 | succ f ih=>
  intro long s s' h1 h e
  rw[cout]at e
  obtain⟨s2,e1,e2⟩:=Option.bind_eq_some_iff.1 e
  have h2:=cin_ok x0 long h1 x0 [] s s2 rfl h e1
  have h3:=ih (long+1) s2 s' (by omega) ⟨h2.1,fun j hj=>by
   rw[h2.2 j hj]
   have c:(1≤x0.getD j 0∧(x0.getD j 0<long∨(x0.getD j 0=long∧j<x0.length)))↔(1≤x0.getD j 0∧(x0.getD j 0<long+1∨(x0.getD j 0=long+1∧j<0))):=by omega
   simp only[c]⟩ e2
  rw[show long+((f+1:Nat):Int)=long+1+f by omega]
  exact h3
theorem codes_sizes (l:List Int)(h:inAll 0 12 l=true)(fin:Int × Int × List ByteArray)(e:cout l 12 1 (0,0,List.replicate l.length ⟨#[]⟩)=some fin)(j:Nat)(hj:j<l.length):(((fin.2.2.getD j ByteArray.empty).size:Nat):Int)=l.getD j 0:=by
 have h0:okAt l 1 0 (List.replicate l.length (⟨#[]⟩:ByteArray)):=by
  refine⟨by simp,fun j hj=>?_⟩
  rw[if_neg (by omega),List.getD_eq_getElem?_getD,List.getElem?_replicate,if_pos hj];rfl
 have h2:=(cout_ok l 12 1 _ fin (by omega) h0 e).2 j hj
 have hm:=inAll_mem h (l.getD j 0) (by rw[List.getD_eq_getElem?_getD,List.getElem?_eq_getElem hj];exact List.getElem_mem hj)
 rw[h2]
 by_cases g:1≤l.getD j 0
 ·rw[if_pos ⟨g,by left;omega⟩];omega
 ·rw[if_neg (fun h=>g h.1)];omega
theorem ne_nil (t:ByteArray):t.toList=([]:List UInt8)↔t.size=0:=by
 rw[ByteArray.toList_eq,show t.size=t.data.size from rfl,← Array.length_toList]
 exact⟨fun h=>by rw[h];rfl,fun h=>List.eq_nil_of_length_eq_zero h⟩
def enc (l:List Int)(ws:List ByteArray):List Int→ByteArray→ByteArray × Bool
 | [],acc=>(acc,true)
 | k :: t,acc=>if (0≤k∧k<(l.length:Int))∧l.getD k.toNat 0≠0 then enc l ws t (acc++ws.getD k.toNat ByteArray.empty) else ((⟨#[]⟩:ByteArray),false)
theorem spec_enc (l:List Int)(ws:List ByteArray)(hl:l.length≤12)(hw:ws.length=l.length)(hs:∀ j,j<l.length→(((ws.getD j ByteArray.empty).size:Nat):Int)=l.getD j 0)(hm:inAll 0 12 l=true)(post:List Int):∀ (pre:List Int) (acc:ByteArray),(pre++post).length≤1000→acc.size+12*post.length≤20000 →
  Ev (fun k=>spec_l11Encode.l0 k l ws acc (pre++post) ((pre++post).length:Int) (pre.length:Int)) (enc l ws post acc):=by
 induction post with
 | nil=>
  intro pre acc h1 h2
  refine Ev.succ ?_
  simp only[spec_l11Encode.l0]
  exact Ev.neg (by simp) (Ev.ret _)
 | cons x post ih=>
  intro pre acc h1 h2
  have h1':=h1
  simp only[List.length_append,List.length_cons]at h1 h2
  refine Ev.succ ?_
  simp only[spec_l11Encode.l0,enc,List.length_append,List.length_cons]
  rw[rd_mid,w64 (x:=(pre.length:Int)+1) (by omega) (by omega),w64 (x:=(l.length:Int) - 1) (by omega) (by omega)]
  refine Ev.pos (by omega) (Ev.pos (by omega) (Ev.pos (by omega) (Ev.bnd1 (spec_in_eq _ _ _) ?_)))
  by_cases g:0≤x∧x<(l.length:Int)
  ·obtain⟨j,rfl⟩:∃ j:Nat,x=j:=⟨x.toNat,by omega⟩
   have hj:j<l.length:=by omega
   have hsj:=hs j hj
   have hmj:=inAll_mem hm (l.getD j 0) (by rw[List.getD_eq_getElem?_getD,List.getElem?_eq_getElem hj];exact List.getElem_mem hj)
   rw[Int.toNat_natCast,show rd l (j:Int)=l.getD j 0 from rfl,show rdOf ByteArray.empty ws (j:Int)=ws.getD j ByteArray.empty from rfl]
   refine Ev.pos (decide_eq_true (by omega)) (Ev.pos (by omega) (Ev.pos (by omega) ?_))
   by_cases g2:l.getD j 0=0
   ·rw[if_neg (fun h=>h.2 g2)]
    exact Ev.pos g2 (Ev.ret _)
   ·rw[if_pos ⟨g,g2⟩]
    have h:=ih (pre++[(j:Int)]) (acc++ws.getD j ByteArray.empty) (by simpa using h1') (by rw[ByteArray.size_append];omega)
    exact Ev.neg g2 (Ev.pos (by omega) (Ev.pos (by omega) (by simpa using h)))
  ·rw[if_neg (fun h=>g h.1)]
   exact Ev.neg (by rw[decide_eq_false (by omega)];simp) (Ev.ret _)
theorem impl_enc (l:List Int)(ws:List ByteArray)(hl:l.length≤12)(hw:ws.length=l.length)(hs:∀ j,j<l.length→(((ws.getD j ByteArray.empty).size:Nat):Int)=l.getD j 0)(hm:inAll 0 12 l=true)(post:List Int):∀ (pre:List Int) (acc:ByteArray),(pre++post).length≤1000→acc.size+12*post.length≤20000 →
  Ev (fun k=>impl_EncodeBy.l0 k ws acc (pre++post) ((pre++post).length:Int) (pre.length:Int)) (enc l ws post acc):=by
 induction post with
 | nil=>
  intro pre acc h1 h2
  refine Ev.succ ?_
  simp only[impl_EncodeBy.l0]
  exact Ev.neg (by simp) (Ev.ret _)
 | cons x post ih=>
  intro pre acc h1 h2
  have h1':=h1
  simp only[List.length_append,List.length_cons]at h1 h2
  refine Ev.succ ?_
  simp only[impl_EncodeBy.l0,enc,List.length_append,List.length_cons]
  rw[rd_mid,w64 (x:=(pre.length:Int)+1) (by omega) (by omega)]
  refine Ev.pos (by omega) (Ev.pos (by omega) (Ev.pos (by omega) ?_))
  by_cases g1:x<0
  ·rw[if_neg (fun h=>by have:=h.1.1;omega)]
   exact Ev.pos g1 (Ev.ret _)
  ·refine Ev.neg g1 ?_
   by_cases g3:x≥(ws.length:Int)
   ·rw[if_neg (fun h=>by have:=h.1.2;omega)]
    exact Ev.pos g3 (Ev.ret _)
   ·obtain⟨j,rfl⟩:∃ j:Nat,x=j:=⟨x.toNat,by omega⟩
    have hj:j<l.length:=by omega
    have hsj:=hs j hj
    have hmj:=inAll_mem hm (l.getD j 0) (by rw[List.getD_eq_getElem?_getD,List.getElem?_eq_getElem hj];exact List.getElem_mem hj)
    rw[Int.toNat_natCast,show rdOf ByteArray.empty ws (j:Int)=ws.getD j ByteArray.empty from rfl]
    refine Ev.neg g3 (Ev.pos (by omega) (Ev.pos (by omega) ?_))
    by_cases g2:l.getD j 0=0
    ·rw[if_neg (fun h=>h.2 g2)]
     exact Ev.pos ((ne_nil _).2 (by omega)) (Ev.ret _)
    ·rw[if_pos ⟨⟨by omega,by omega⟩,g2⟩]
     have h:=ih (pre++[(j:Int)]) (acc++ws.getD j ByteArray.empty) (by simpa using h1') (by rw[ByteArray.size_append];omega)
     exact Ev.neg (fun h=>g2 (by have:=(ne_nil _).1 h;omega)) (Ev.pos (by omega) (by simpa using h))
def isBit (b:UInt8):Bool:=b == 48 || b == 49
def goodBits (s:ByteArray):Bool:=s.data.toList.all isBit && decide (s.size≤4000)
theorem dropWhile_all {α:Type} (p:α→Bool)(l:List α)(h:∀ x∈l.dropWhile p,p x=true):l.dropWhile p=[]:=by
 induction l with
 | nil=>rfl
 | cons a l ih=>
  by_cases ha:p a=true
  ·rw[List.dropWhile_cons_of_pos ha]at h ⊢
   exact ih h
  ·rw[List.dropWhile_cons_of_neg ha]at h
   exact absurd (h a List.mem_cons_self) ha
theorem dropWhile_nil {α:Type} (p:α→Bool)(l:List α):l.dropWhile p=[]↔∀ x∈l,p x=true:=by
 induction l with
 | nil=>simp
 | cons a l ih=>
  by_cases ha:p a=true
  ·rw[List.dropWhile_cons_of_pos ha,ih];simp[ha]
  ·rw[List.dropWhile_cons_of_neg ha];simp[ha]
theorem trimS_nil (l:List UInt8):Lib.trimS l [48,49]=[]↔l.all isBit=true:=by
 have hp:∀ b:UInt8,[48,49].contains b=isBit b:=by
  intro b
  simp only[List.contains,List.elem,isBit]
  cases h1:(b == 48) <;> cases h2:(b == 49) <;> simp
 unfold Lib.trimS Lib.trimLeftS Lib.trimRightS
 rw[show (([48,49]:List UInt8).contains ·)=isBit from funext hp]
 rw[List.all_eq_true]
 constructor
 ·intro h
  have h1:=(dropWhile_nil _ _).1 h
  have h2:=dropWhile_all isBit l.reverse (fun x hx=>h1 x (List.mem_reverse.2 hx))
  intro x hx
  exact (dropWhile_nil _ _).1 h2 x (List.mem_reverse.2 hx)
 ·intro h
  have h2:=(dropWhile_nil isBit l.reverse).2 (fun x hx=>h x (List.mem_reverse.1 hx))
  rw[h2]
  rfl
theorem impl_areBits_eq (s:ByteArray)(hs:s.size≤140737488351232):impl_areBits.f s=some (goodBits s):=by
 unfold impl_areBits.f goodBits
 by_cases g:(s.size:Int)≤4000
 ·rw[if_pos g,decide_eq_true (show s.size≤4000 by omega),Bool.and_true]
  unfold strings_Trim.f
  rw[if_pos ⟨by omega,by decide,by decide⟩]
  simp only[Option.bind_some]
  congr 1
  have e:=trimS_nil s.data.toList
  rw[ByteArray.toList_eq]
  show (Lib.trimS s.data.toList [48,49] == [])=s.data.toList.all isBit
  cases hq:s.data.toList.all isBit with
  | true=>rw[e.2 hq];rfl
  | false=>
   cases hz:Lib.trimS s.data.toList [48,49] with
   | nil=>rw[e.1 hz]at hq;cases hq
   | cons a l=>rfl
 ·rw[if_neg g,decide_eq_false (show ¬ s.size≤4000 by omega),Bool.and_false]
theorem rds_at (pre:List ByteArray)(x:ByteArray)(post:List ByteArray):rdOf ByteArray.empty (pre++x :: post) (pre.length:Int)=x:=by
 unfold rdOf;simp
def front (bits x:ByteArray):Prop:=x.size≠0∧x.size≤bits.size∧bits.extract 0 x.size=x
open Classical in
noncomputable def nxt (bits:ByteArray):Int→List ByteArray→Int
 | _,[]=>-1
 | i,x :: t=>if front bits x then i else nxt bits (i+1) t
theorem nxt_range (bits:ByteArray)(t:List ByteArray):∀ i:Int,0≤i→nxt bits i t = -1∨(i≤nxt bits i t∧nxt bits i t<i+t.length∧front bits (t.getD (nxt bits i t - i).toNat ByteArray.empty)):=by
 induction t with
 | nil=>intro i _;exact .inl rfl
 | cons x t ih=>
  intro i h0
  unfold nxt
  split
  ·rename_i g
   exact .inr ⟨by omega,by rw[List.length_cons];omega,by rw[Int.sub_self];exact g⟩
  ·rcases ih (i+1) (by omega) with h | ⟨h1,h2,h3⟩
   ·exact .inl h
   ·refine .inr ⟨by omega,by rw[List.length_cons];omega,?_⟩
    rw[show (nxt bits (i+1) t - i).toNat=(nxt bits (i+1) t - (i+1)).toNat+1 by omega,List.getD_cons_succ]
    exact h3
theorem nxt_empty (bits:ByteArray)(h:bits.size=0)(t:List ByteArray):∀ i:Int,nxt bits i t = -1:=by
 induction t with
 | nil=>intro i;rfl
 | cons x t ih=>
  intro i
  unfold nxt
  rw[if_neg (fun g=>by have:=g.1;have:=g.2.1;omega)]
  exact ih (i+1)
theorem spec_next_l0 (bits:ByteArray)(hb:bits.size≤100000)(post:List ByteArray):∀ pre:List ByteArray,(pre++post).length≤1000→Ev (fun k=>spec_l11Next.l0 k bits (pre++post) ((pre++post).length:Int) (pre.length:Int)) (nxt bits (pre.length:Int) post):=by
 induction post with
 | nil=>
  intro pre hl
  refine Ev.succ ?_
  simp only[spec_l11Next.l0]
  exact Ev.neg (by simp) (Ev.ret _)
 | cons x post ih=>
  intro pre hl
  have h:=ih (pre++[x]) (by simpa using hl)
  rw[List.append_assoc,List.singleton_append,show ((pre++[x]).length:Int)=(pre.length:Int)+1 by simp,List.length_append,List.length_cons]at h
  simp only[List.length_append,List.length_cons]at hl
  refine Ev.succ ?_
  simp only[spec_l11Next.l0,List.length_append,List.length_cons]
  rw[rds_at,w64 (x:=(pre.length:Int)+1) (by omega) (by omega)]
  refine Ev.pos (by omega) (Ev.pos (by omega) (Ev.pos (by omega) ?_))
  unfold nxt
  by_cases g0:x.size=0
  ·rw[if_neg (fun g=>g.1 g0)]
   exact Ev.pos ((ne_nil x).2 g0) h
  ·refine Ev.neg (fun g=>g0 ((ne_nil x).1 g)) ?_
   by_cases g1:x.size≤bits.size
   ·refine Ev.pos (by omega) (Ev.pos (by omega) ?_)
    by_cases g2:bits.extract 0 x.size=x
    ·rw[if_pos ⟨g0,g1,g2⟩]
     exact Ev.pos ((toList_iff _ _).2 g2) (Ev.ret _)
    ·rw[if_neg (fun g=>g2 g.2.2)]
     exact Ev.neg (fun g=>g2 ((toList_iff _ _).1 g)) h
   ·rw[if_neg (fun g=>g1 g.2.1)]
    exact Ev.neg (by omega) h
theorem spec_next_ev (cs:List ByteArray)(bits:ByteArray)(hb:bits.size≤100000)(hl:cs.length≤1000):Ev (fun k=>spec_l11Next.f k cs bits) (nxt bits 0 cs):=
 spec_next_l0 bits hb cs [] hl
theorem impl_front (bits x:ByteArray)(hb:bits.size≤100000):∃ b,impl_decode_1.f x bits=some b∧(b=true↔front bits x):=by
 unfold impl_decode_1.f
 by_cases g0:x.size=0
 ·rw[if_pos ((ne_nil x).2 g0)]
  exact⟨false,rfl,by simp[front,g0]⟩
 ·rw[if_neg (fun g=>g0 ((ne_nil x).1 g))]
  unfold strings_HasPrefix.f stringslite_HasPrefix.f
  by_cases g1:x.size≤bits.size
  ·rw[if_pos (by omega),if_pos (by omega),if_pos (by omega)];try rw[Int.toNat_natCast]
   refine⟨_,rfl,?_⟩
   rw[beq_iff_eq,toList_iff]
   exact⟨fun h=>⟨g0,g1,h⟩,fun h=>h.2.2⟩
  ·rw[if_neg (by omega)]
   exact⟨false,rfl,by simp[front,g1]⟩
theorem impl_next (bits:ByteArray)(hb:bits.size≤100000)(t:List ByteArray):∀ i:Int,idxO (fun x=>impl_decode_1.f x bits) i t=some (nxt bits i t):=by
 induction t with
 | nil=>intro i;rfl
 | cons x t ih=>
  intro i
  obtain⟨b,e,hb'⟩:=impl_front bits x hb
  simp only[idxO,e,Option.bind_some,nxt]
  by_cases g:front bits x
  ·rw[if_pos (hb'.2 g),if_pos g]
  ·rw[if_neg (fun h=>g (hb'.1 h)),if_neg g]
   exact ih (i+1)
noncomputable def dec (cs:List ByteArray):Nat→ByteArray→List Int→List Int × ByteArray
 | 0,bits,out=>(out,bits)
 | d+1,bits,out=>if nxt bits 0 cs<0 then (out,bits) else dec cs d (bits.extract (cs.getD (nxt bits 0 cs).toNat ByteArray.empty).size bits.size) (out++[nxt bits 0 cs])
theorem dec_len (cs:List ByteArray)(d:Nat):∀ (bits:ByteArray) (out:List Int),(dec cs d bits out).1.length≤out.length+d:=by
 induction d with
 | zero=>intro bits out;exact Nat.le_refl _
 | succ d ih=>
  intro bits out
  unfold dec
  split
  ·show out.length≤_;omega
  ·have:=ih (bits.extract (cs.getD (nxt bits 0 cs).toNat ByteArray.empty).size bits.size) (out++[nxt bits 0 cs])
   rw[List.length_append,List.length_singleton]at this
   omega
theorem dec_empty (cs:List ByteArray)(d:Nat)(bits:ByteArray)(out:List Int)(h:bits.size=0):dec cs d bits out=(out,bits):=by
 cases d with
 | zero=>rfl
 | succ d=>unfold dec;rw[nxt_empty bits h,if_pos (by omega)]
theorem impl_dec (cs:List ByteArray)(hl:cs.length≤1000)(d:Nat):∀ (bits:ByteArray) (out:List Int),bits.size≤100000→out.length+d=200→Ev (fun k=>impl_decode.l0 k 200 cs out bits) (dec cs d bits out):=by
 induction d with
 | zero=>
  intro bits out hb ho
  refine Ev.succ ?_
  simp only[impl_decode.l0]
  exact Ev.neg (by omega) (Ev.ret _)
 | succ d ih=>
  intro bits out hb ho
  refine Ev.succ ?_
  simp only[impl_decode.l0,dec]
  refine Ev.pos (by omega) (Ev.bnd1 (impl_next bits hb cs 0) ?_)
  rcases nxt_range bits cs 0 (by omega) with g | ⟨g1,g2,g3⟩
  ·rw[g,if_pos (by omega)]
   exact Ev.pos (by omega) (Ev.ret _)
  ·rw[if_neg (by omega)]
   generalize nxt bits 0 cs=n at g1 g2 g3
   rw[Int.sub_zero]at g3
   rw[show rdOf ByteArray.empty cs n=cs.getD n.toNat ByteArray.empty from rfl]
   have h:=ih (bits.extract (cs.getD n.toNat ByteArray.empty).size bits.size) (out++[n]) (by rw[ByteArray.size_extract];omega) (by rw[List.length_append,List.length_singleton];omega)
   exact Ev.neg (by omega) (Ev.pos (by omega) (Ev.pos g1 (Ev.pos (by omega) (Ev.pos (by omega) (Ev.pos (by have:=g3.2.1;omega) h)))))
def decRes (r:List Int × ByteArray):List Int × Bool:=if r.2.size=0 then (r.1,true) else ([],false)
theorem decRes_pos (r:List Int × ByteArray)(h:r.2.size=0):decRes r=(r.1,true):=if_pos h
theorem decRes_neg (r:List Int × ByteArray)(h:¬ r.2.size=0):decRes r=([],false):=if_neg h
theorem spec_dec0 (cs:List ByteArray)(hl:cs.length≤1000)(d:Nat):∀ (bits:ByteArray) (out:List Int),bits.size≤100000→out.length+d=200→Ev (fun k=>spec_l11Decode.l0 k bits cs out) (decRes (dec cs d bits out)):=by
 induction d with
 | zero=>
  intro bits out hb ho
  refine Ev.succ ?_
  simp only[spec_l11Decode.l0]
  rw[show dec cs 0 bits out=(out,bits) from rfl]
  by_cases g:bits.size=0
  ·rw[decRes_pos _ g];exact Ev.neg (by omega) (Ev.ret _)
  ·rw[decRes_neg _ g]
   refine Ev.pos (by omega) (Ev.bnd (spec_next_ev cs bits hb hl) ?_)
   by_cases g2:nxt bits 0 cs<0
   ·exact Ev.pos g2 (Ev.ret _)
   ·exact Ev.neg g2 (Ev.pos (by omega) (Ev.ret _))
 | succ d ih=>
  intro bits out hb ho
  refine Ev.succ ?_
  simp only[spec_l11Decode.l0]
  by_cases g:bits.size=0
  ·rw[dec_empty cs (d+1) bits out g,decRes_pos _ g];exact Ev.neg (by omega) (Ev.ret _)
  ·refine Ev.pos (by omega) (Ev.bnd (spec_next_ev cs bits hb hl) ?_)
   simp only[dec]
   rcases nxt_range bits cs 0 (by omega) with g0 | ⟨g1,g2,g3⟩
   ·rw[g0,if_pos (by omega),decRes_neg _ g]
    exact Ev.pos (by omega) (Ev.ret _)
   ·rw[if_neg (by omega)]
    generalize nxt bits 0 cs=n at g1 g2 g3
    rw[Int.sub_zero]at g3
    rw[show rdOf ByteArray.empty cs n=cs.getD n.toNat ByteArray.empty from rfl]
    have h:=ih (bits.extract (cs.getD n.toNat ByteArray.empty).size bits.size) (out++[n]) (by rw[ByteArray.size_extract];omega) (by rw[List.length_append,List.length_singleton];omega)
    exact Ev.neg (by omega) (Ev.neg (by omega) (Ev.pos (by omega) (Ev.pos g1 (Ev.pos (by omega) (Ev.pos (by omega) (Ev.pos (by have:=g3.2.1;omega) h))))))
def allBits (outs:List ByteArray):Prop:=∀ x∈outs,x.data.toList.all isBit=true
theorem cbits_bits (code:Int)(m:Nat):(cbits code m).all isBit=true:=by
 induction m with
 | zero=>rfl
 | succ m ih=>
  rw[cbits,List.all_cons,ih,Bool.and_true]
  unfold cbyte
  rcases Nat.mod_two_eq_zero_or_one (code.toNat / 2 ^ m) with h | h
  ·rw[h];rfl
  ·rw[h];rfl
theorem cput_bits (long:Int)(i:Nat)(code size:Int)(outs:List ByteArray) (s':Int × Int × List ByteArray)(h:allBits outs)(e:cput long i code size outs=some s'):allBits s'.2.2:=by
 unfold cput at e
 split at e
 ·obtain rfl:=Option.some.inj e
  intro x hx
  rcases List.mem_or_eq_of_mem_set hx with hx | rfl
  ·exact h x hx
  ·exact cbits_bits _ _
 ·cases e
theorem cin_bits (long:Int)(post:List Int):∀ (i:Nat) (s s':Int × Int × List ByteArray),allBits s.2.2→cin long post i s=some s'→allBits s'.2.2:=by
 induction post with
 | nil=>
  intro i s s' h e
  simp only[cin,Option.some.injEq]at e
  subst e
  exact h
 | cons x post ih=>
  intro i s s' h e
  rw[cin]at e
  obtain⟨s2,e1,e2⟩:=Option.bind_eq_some_iff.1 e
  refine ih (i+1) s2 s' ?_ e2
  unfold cstep at e1
  split at e1
  ·split at e1
   ·exact cput_bits _ _ _ _ _ _ h e1
   ·exact cput_bits _ _ _ _ _ _ h e1
  ·obtain rfl:=Option.some.inj e1
   exact h
theorem cout_bits (x0:List Int)(f:Nat):∀ (long:Int) (s s':Int × Int × List ByteArray),allBits s.2.2→cout x0 f long s=some s'→allBits s'.2.2:=by
 induction f with
 | zero=>
  intro long s s' h e
  simp only[cout,Option.some.injEq]at e
  subst e
  exact h
 | succ f ih=>
  intro long s s' h e
  rw[cout]at e
  obtain⟨s2,e1,e2⟩:=Option.bind_eq_some_iff.1 e
  exact ih (long+1) s2 s' (cin_bits long x0 0 s s2 h e1) e2
theorem codes_bits (l:List Int)(fin:Int × Int × List ByteArray)(e:cout l 12 1 (0,0,List.replicate l.length ⟨#[]⟩)=some fin):allBits fin.2.2:=
 cout_bits l 12 1 _ fin (fun x hx=>by rw[List.eq_of_mem_replicate hx];rfl) e
theorem cut_join (bits:ByteArray)(n:Nat)(h:n≤bits.size):bits=bits.extract 0 n++bits.extract n bits.size:=by
 apply ba_ext
 rw[ByteArray.data_append,Array.toList_append,ByteArray.data_extract,ByteArray.data_extract,Array.toList_extract,Array.toList_extract,List.extract_eq_take_drop,List.extract_eq_take_drop,List.drop_zero,Nat.sub_zero,List.take_of_length_le (l:=List.drop n bits.data.toList) (by rw[List.length_drop,data_length];omega),List.take_append_drop]
theorem dec_bits (cs:List ByteArray)(hc:allBits cs)(d:Nat):∀ (bits:ByteArray) (out:List Int),(dec cs d bits out).2.size=0→bits.data.toList.all isBit=true:=by
 induction d with
 | zero=>
  intro bits out h
  have:bits.data.toList=[]:=List.eq_nil_of_length_eq_zero (by rw[data_length];exact h)
  rw[this];rfl
 | succ d ih=>
  intro bits out h
  unfold dec at h
  rcases nxt_range bits cs 0 (by omega) with g | ⟨g1,g2,g3⟩
  ·rw[g,if_pos (by omega)]at h
   have:bits.data.toList=[]:=List.eq_nil_of_length_eq_zero (by rw[data_length];exact h)
   rw[this];rfl
  ·rw[if_neg (by omega)]at h
   generalize nxt bits 0 cs=n at g1 g2 g3 h
   rw[Int.sub_zero]at g3
   have hr:=ih _ _ h
   rw[cut_join bits (cs.getD n.toNat ByteArray.empty).size g3.2.1,g3.2.2,ByteArray.data_append,Array.toList_append,List.all_append,hr,Bool.and_true]
   refine hc _ ?_
   rw[List.getD_eq_getElem?_getD,List.getElem?_eq_getElem (by omega)]
   exact List.getElem_mem _
def asc (l:List Int):Prop:=l.Pairwise (·<·)
theorem asc_ins (pre post:List Int)(v:Int)(h:asc (pre++post))(h1:∀ x∈pre,x<v)(h2:∀ x∈post,v<x):asc (pre++v :: post):=by
 unfold asc at h ⊢
 rw[List.pairwise_append]at h ⊢
 refine⟨h.1,List.pairwise_cons.2 ⟨h2,h.2.1⟩,fun a ha b hb=>?_⟩
 rcases List.mem_cons.1 hb with rfl | hb
 ·exact h1 a ha
 ·exact h.2.2 a ha b hb
theorem put_l0 (v:Int)(post:List Int):∀ (pre:List Int),(pre++post).length≤2097152→asc (pre++post)→(∀ x∈pre,x<v) →
  ∃ r,Ev (fun k=>spec_l1Put.l0 k (pre++post) v (pre.length:Int)) r∧asc r∧(∀ y,y∈r↔y=v∨y∈pre++post)∧r.length≤(pre++post).length+1:=by
 induction post with
 | nil=>
  intro pre hl ha hp
  simp only[List.length_append,List.length_nil]at hl
  refine⟨([]++(pre++[]).take ((pre.length:Int)).toNat++[v])++(pre++[]).drop ((pre.length:Int)).toNat,Ev.succ ?_,?_,fun y=>by simp[or_comm],by simp⟩
  ·simp only[spec_l1Put.l0]
   exact Ev.neg (by simp) (Ev.bnd1 rfl (Ev.pos (by omega) (Ev.pos (by simp) (Ev.bnd1 rfl (Ev.pos (by simp;omega) (Ev.bnd1 rfl (Ev.pos (by simp;omega) (Ev.bnd1 rfl (Ev.bnd1 rfl (Ev.pos (by simp;omega) (Ev.ret _)))))))))))
  ·have:=asc_ins pre [] v ha hp (by simp)
   simpa using this
 | cons x post ih=>
  intro pre hl ha hp
  have hl':=hl
  simp only[List.length_append,List.length_cons]at hl
  have e0:wrap64 ((pre.length:Int)+1)=(pre.length:Int)+1:=w64 (by omega) (by omega)
  by_cases g:x<v
  ·obtain⟨r,h1,h2,h3,h4⟩:=ih (pre++[x]) (by simpa using hl') (by simpa using ha) (fun y hy=>by
    rcases List.mem_append.1 hy with hy | hy
    ·exact hp y hy
    ·rw[List.mem_singleton.1 hy];exact g)
   refine⟨r,Ev.succ ?_,h2,fun y=>by rw[h3];simp,by simpa using h4⟩
   simp only[spec_l1Put.l0]
   refine Ev.pos (by simp only[List.length_append,List.length_cons];omega) (Ev.pos (by omega) ?_)
   rw[rd_mid,e0]
   exact Ev.pos g (by simpa using h1)
  ·by_cases g2:x=v
   ·refine⟨pre++x :: post,Ev.succ ?_,ha,fun y=>⟨fun h=>.inr h,fun h=>?_⟩,by omega⟩
    ·simp only[spec_l1Put.l0]
     refine Ev.pos (by simp only[List.length_append,List.length_cons];omega) (Ev.pos (by omega) ?_)
     rw[rd_mid]
     exact Ev.neg g (Ev.pos g2 (Ev.ret _))
    ·rcases h with rfl | h
     ·simp[g2]
     ·exact h
   ·refine⟨([]++(pre++x :: post).take ((pre.length:Int)).toNat++[v])++(pre++x :: post).drop ((pre.length:Int)).toNat,Ev.succ ?_,?_,fun y=>?_,by simp;omega⟩
    ·simp only[spec_l1Put.l0]
     refine Ev.pos (by simp only[List.length_append,List.length_cons];omega) (Ev.pos (by omega) ?_)
     rw[rd_mid]
     exact Ev.neg g (Ev.neg g2 (Ev.bnd1 rfl (Ev.pos (by simp only[List.length_append,List.length_cons];omega) (Ev.bnd1 rfl (Ev.pos (by simp;omega) (Ev.bnd1 rfl (Ev.pos (by simp;omega) (Ev.bnd1 rfl (Ev.bnd1 rfl (Ev.pos (by simp;omega) (Ev.ret _)))))))))))
    ·have hpost:∀ y∈x :: post,v<y:=fun y hy=>by
      rcases List.mem_cons.1 hy with rfl | hy
      ·omega
      ·unfold asc at ha
       rw[List.pairwise_append]at ha
       have:=(List.pairwise_cons.1 ha.2.1).1 y hy
       omega
     have:=asc_ins pre (x :: post) v ha hp hpost
     simpa using this
    ·simp only[Int.toNat_natCast,List.nil_append,List.take_left',List.drop_left',List.mem_append,List.mem_cons,List.not_mem_nil,or_false]
     constructor
     ·rintro ((h | h) | h | h)
      ·exact .inr (.inl h)
      ·exact .inl h
      ·exact .inr (.inr (.inl h))
      ·exact .inr (.inr (.inr h))
     ·rintro (h | h | h | h)
      ·exact .inl (.inr h)
      ·exact .inl (.inl h)
      ·exact .inr (.inl h)
      ·exact .inr (.inr h)
theorem put_ev (l:List Int)(v:Int)(hl:l.length≤2097152)(ha:asc l):∃ r,Ev (fun k=>spec_l1Put.f k l v) r∧asc r∧(∀ y,y∈r↔y=v∨y∈l)∧r.length≤l.length+1:=by
 obtain⟨r,h1,h2,h3,h4⟩:=put_l0 v l [] (by simpa using hl) (by simpa using ha) (by simp)
 refine⟨r,?_,h2,by simpa using h3,by simpa using h4⟩
 simp only[spec_l1Put.f]
 simpa using h1
theorem and255 (x:Int):0≤Go.bits .and .u64 x 255∧Go.bits .and .u64 x 255≤255:=by
 simp only[Go.bits,BitVec.toNat_and]
 have h:=Nat.and_le_right (n:=(BitVec.ofInt IntKind.u64.bits x).toNat) (m:=(BitVec.ofInt IntKind.u64.bits 255).toNat)
 have h2:(BitVec.ofInt IntKind.u64.bits 255).toNat=255:=by decide
 rw[h2]at h ⊢
 generalize (BitVec.ofInt IntKind.u64.bits x).toNat &&& 255=y at h
 rw[IntWalk.u64_in _ (by omega)]
 omega
theorem rd_range (l:List Int)(hl:∀ x∈l,0≤x∧x≤255)(i:Int):0≤rd l i∧rd l i≤255:=by
 unfold rd
 rw[List.getD_eq_getElem?_getD]
 cases h:l[i.toNat]? with
 | none=>simp
 | some x=>exact hl x (List.mem_of_getElem? h)
theorem next_ok (l:List Int)(hl:∀ x∈l,0≤x∧x≤255)(a sd:Int)(h0:0≤a)(h1:a≤4611686018427387904):∃ b sd',spec_l1Cur_next.f l a sd=some (b,a+1,sd')∧0≤b∧b≤255:=by
 have hw:wrap64 (a+1)=a+1:=w64 (by omega) (by omega)
 have hr:=rd_range l hl a
 have hrw:wrap64 (rd l a)=rd l a:=w64 (by omega) (by omega)
 unfold spec_l1Cur_next.f
 rw[hw,hrw]
 by_cases g:a<(l.length:Int)
 ·rw[if_pos g,if_pos h0]
  by_cases g2:a+1≤(l.length:Int)
  ·rw[if_pos g2];exact⟨_,_,rfl,hr.1,hr.2⟩
  ·rw[if_neg g2]
   refine⟨_,_,rfl,?_⟩
   have:=and255 ((IntKind.u64.wrap ((IntKind.u64.wrap ((IntKind.u64.wrap (sd*6364136223846793005))+(IntKind.u64.wrap (rd l a))))+1442695040888963407)) / 1099511627776)
   rw[w64 (by omega) (by omega)]
   exact this
 ·rw[if_neg g]
  by_cases g2:a+1≤(l.length:Int)
  ·rw[if_pos g2];exact⟨_,_,rfl,by omega,by omega⟩
  ·rw[if_neg g2]
   refine⟨_,_,rfl,?_⟩
   generalize (IntKind.u64.wrap ((IntKind.u64.wrap (IntKind.u64.wrap (sd*6364136223846793005)))+1442695040888963407)) / 1099511627776=z
   have:=and255 z
   rw[w64 (by omega) (by omega)]
   exact this
theorem pick_ok (l:List Int)(hl:∀ x∈l,0≤x∧x≤255)(a sd n:Int)(h0:0≤a)(h1:a≤4611686018427387000)(hn:n≤1000000000):∃ p a' sd',spec_l1Cur_pick.f l a sd n=some (p,a',sd')∧0≤p∧(1≤n→p<n)∧a≤a'∧a'≤a+2:=by
 unfold spec_l1Cur_pick.f
 by_cases g:n≤1
 ·rw[if_pos g];exact⟨0,a,sd,rfl,by omega,by omega,by omega,by omega⟩
 ·rw[if_neg g]
  obtain⟨b,s1,e1,hb0,hb1⟩:=next_ok l hl a sd h0 (by omega)
  rw[e1]
  simp only[Option.bind_some]
  by_cases g2:n > 200
  ·rw[if_pos g2]
   obtain⟨c,s2,e2,hc0,hc1⟩:=next_ok l hl (a+1) s1 (by omega) (by omega)
   rw[e2]
   simp only[Option.bind_some]
   rw[if_neg (show ¬ n=0 by omega),w64 (x:=b*256) (by omega) (by omega),w64 (x:=b*256+c) (by omega) (by omega)]
   exact⟨_,_,_,rfl,Int.tmod_nonneg _ (by omega),fun _=>Int.tmod_lt_of_pos _ (by omega),by omega,by omega⟩
  ·rw[if_neg g2,if_neg (show ¬ n=0 by omega)]
   exact⟨_,_,_,rfl,Int.tmod_nonneg _ (by omega),fun _=>Int.tmod_lt_of_pos _ (by omega),by omega,by omega⟩
theorem one_ok (l:List Int)(hl:∀ x∈l,0≤x∧x≤255)(a sd n:Int)(h0:0≤a)(h1:a≤4611686018427387000)(hn:n≤1000000000):∃ b a' sd',spec_l1Cur_one.f l a sd n=some (b,a',sd')∧a≤a'∧a'≤a+2:=by
 obtain⟨p,a1,s1,e1,hp0,hp1,ha1,ha2⟩:=pick_ok l hl a sd n h0 h1 hn
 exact⟨_,a1,s1,by unfold spec_l1Cur_one.f;rw[e1];rfl,ha1,ha2⟩
theorem son1 (a:Int):(strOfNums [a]).size=1:=by rw[strOfNums_size];rfl
theorem spoilt_l0_ok (l:List Int)(hl:∀ x∈l,0≤x∧x≤255)(x2:ByteArray)(hx2:1≤x2.size∧x2.size≤1000)(d:Nat):∀ (x1:ByteArray) (a sd:Int),x1.size+d≤1000→0≤a→a+6*d≤4611686018427300000→∃ s a' sd',Ev (fun k=>spec_l1Cur_spoilt.l0 k x1 x2 (d:Int) l a sd) (s,a',sd')∧s.size≤x1.size+d∧a≤a'∧a'≤a+6*d:=by
 induction d with
 | zero=>
  intro x1 a sd hx h0 h1
  have e:Ev (fun k=>spec_l1Cur_spoilt.j1 k x1 x2 ((0:Nat):Int) false l a sd) (x1,a,sd):=Ev.step (fun k=>by simp only[spec_l1Cur_spoilt.j1];rw[if_neg (by simp)]) (Ev.now _)
  refine⟨_,_,_,Ev.step (fun k=>?_) e,by omega,by omega,by omega⟩
  simp only[spec_l1Cur_spoilt.l0]
  rw[if_neg (by omega)]
 | succ d ih=>
  intro x1 a sd hx h0 h1
  by_cases g:(x1.size:Int) > 0
  ·obtain⟨i,a1,s1,e1,hi0,hi1,ha1,ha1'⟩:=pick_ok l hl a sd (x1.size:Int) h0 (by omega) (by omega)
   have hi2:=hi1 (by omega)
   obtain⟨c,a2,s2,e2,hc0,hc1,ha2,ha2'⟩:=pick_ok l hl a1 s1 (x2.size:Int) (by omega) (by omega) (by omega)
   have hc2:=hc1 (by omega)
   obtain⟨q,a3,s3,e3,hq0,hq1,ha3,ha3'⟩:=pick_ok l hl a2 s2 3 (by omega) (by omega) (by omega)
   have hw:wrap64 (((d+1:Nat):Int) - 1)=(d:Int):=by rw[w64 (by omega) (by omega)];omega
   have hwi:wrap64 (i+1)=i+1:=w64 (by omega) (by omega)
   have hz1:(x1.extract 0 i.toNat).size=i.toNat:=by rw[ByteArray.size_extract];omega
   have hz2:(x1.extract i.toNat x1.size).size=x1.size - i.toNat:=by rw[ByteArray.size_extract];omega
   have hz3:(x1.extract (i+1).toNat x1.size).size=x1.size - (i.toNat+1):=by rw[ByteArray.size_extract];omega
   have key:∃ x':ByteArray,x'.size≤x1.size+1∧x'.size≤1001∧∀ k,spec_l1Cur_spoilt.j1 (k+1) x1 x2 ((d+1:Nat):Int) true l a sd=spec_l1Cur_spoilt.l0 k x' x2 (d:Int) l a3 s3:=by
    by_cases q0:q=0
    ·refine⟨(x1.extract 0 i.toNat++strOfNums [bt x2 c])++x1.extract i.toNat x1.size,by rw[ByteArray.size_append,ByteArray.size_append,hz1,hz2,son1];omega,by rw[ByteArray.size_append,ByteArray.size_append,hz1,hz2,son1];omega,fun k=>?_⟩
     simp only[spec_l1Cur_spoilt.j1]
     rw[if_pos trivial,e1]
     simp only[Option.bind_some,e2,e3]
     rw[if_pos hc0,if_pos hc2,if_pos q0,if_pos hi0,if_pos (by omega),if_pos (by rw[hz1,son1];omega),if_pos (by rw[ByteArray.size_append,hz1,hz2,son1];omega),hw]
    ·by_cases q1:q=1
     ·refine⟨(x1.extract 0 i.toNat++strOfNums [bt x2 c])++x1.extract (i+1).toNat x1.size,by rw[ByteArray.size_append,ByteArray.size_append,hz1,hz3,son1];omega,by rw[ByteArray.size_append,ByteArray.size_append,hz1,hz3,son1];omega,fun k=>?_⟩
      simp only[spec_l1Cur_spoilt.j1]
      rw[if_pos trivial,e1]
      simp only[Option.bind_some,e2,e3]
      rw[if_pos hc0,if_pos hc2,if_neg q0,if_pos q1,if_pos hi0,if_pos (by omega),if_pos (by rw[hz1,son1];omega),hwi,if_pos (by omega),if_pos (by omega),if_pos (by rw[ByteArray.size_append,hz1,hz3,son1];omega),hw]
     ·refine⟨x1.extract 0 i.toNat++x1.extract (i+1).toNat x1.size,by rw[ByteArray.size_append,hz1,hz3];omega,by rw[ByteArray.size_append,hz1,hz3];omega,fun k=>?_⟩
      simp only[spec_l1Cur_spoilt.j1]
      rw[if_pos trivial,e1]
      simp only[Option.bind_some,e2,e3]
      rw[if_pos hc0,if_pos hc2,if_neg q0,if_neg q1,if_pos hi0,if_pos (by omega),hwi,if_pos (by omega),if_pos (by omega),if_pos (by rw[hz1,hz3];omega),hw]
   obtain⟨x',hx1,hx2',hk⟩:=key
   obtain⟨s,a',sd',e,hs,ha,ha'⟩:=ih x' a3 s3 (by omega) (by omega) (by omega)
   have ej:Ev (fun k=>spec_l1Cur_spoilt.j1 k x1 x2 ((d+1:Nat):Int) true l a sd) (s,a',sd'):=Ev.step (fun k=>hk k) e
   refine⟨s,a',sd',Ev.step (fun k=>?_) ej,by omega,by omega,by omega⟩
   simp only[spec_l1Cur_spoilt.l0]
   rw[if_pos (by omega),decide_eq_true g]
  ·have e:Ev (fun k=>spec_l1Cur_spoilt.j1 k x1 x2 ((d+1:Nat):Int) false l a sd) (x1,a,sd):=Ev.step (fun k=>by simp only[spec_l1Cur_spoilt.j1];rw[if_neg (by simp)]) (Ev.now _)
   refine⟨_,_,_,Ev.step (fun k=>?_) e,by omega,by omega,by omega⟩
   simp only[spec_l1Cur_spoilt.l0]
   rw[if_pos (by omega),decide_eq_false g]
theorem spoilt_ok (l:List Int)(hl:∀ x∈l,0≤x∧x≤255)(x1 x2:ByteArray)(hx2:1≤x2.size∧x2.size≤1000)(a sd:Int)(hx:x1.size≤900)(h0:0≤a)(h1:a≤4611686018427000000):∃ s a' sd',Ev (fun k=>spec_l1Cur_spoilt.f k l a sd x1 x2) (s,a',sd')∧s.size≤x1.size+2∧a≤a'∧a'≤a+20:=by
 obtain⟨p,a1,s1,e1,hp0,hp1,ha1,ha1'⟩:=pick_ok l hl a sd 2 h0 (by omega) (by omega)
 have:=hp1 (by omega)
 obtain⟨n,rfl⟩:∃ n:Nat,p=(n:Int):=⟨p.toNat,by omega⟩
 obtain⟨s,a',sd',e,hs,ha,ha'⟩:=spoilt_l0_ok l hl x2 hx2 (1+n) x1 a1 s1 (by omega) (by omega) (by omega)
 refine⟨s,a',sd',?_,by omega,by omega,by omega⟩
 simp only[spec_l1Cur_spoilt.f]
 refine Ev.bnd1 e1 ?_
 rw[show wrap64 (1+(n:Int))=((1+n:Nat):Int) by rw[w64 (by omega) (by omega)];omega]
 exact e
theorem less_ok (a:Int)(x:List Int)(b:Int)(y:List Int)(hx:x≠[])(hy:y≠[]):∃ c,spec_l11Less.f a x b y=some c:=by
 have h1:0<(x.length:Int):=by have:=List.length_pos_iff.2 hx;omega
 have h2:0<(y.length:Int):=by have:=List.length_pos_iff.2 hy;omega
 unfold spec_l11Less.f
 split
 ·exact⟨_,rfl⟩
 ·split
  ·(try rw[if_pos h1,if_pos h2]);exact⟨_,rfl⟩
  ·exact⟨_,rfl⟩
def Gs (n:Nat)(l:List S72):Prop:=∀ x∈l,x.f1≠[]∧asc x.f1∧∀ i∈x.f1,0≤i∧i<(n:Int)
theorem Gs_rd {n:Nat} {l:List S72} (h:Gs n l)(i:Nat)(hi:i<l.length):rd_T72 l (i:Int)∈l:=by
 unfold rd_T72
 rw[Int.toNat_natCast,List.getD_eq_getElem?_getD,List.getElem?_eq_getElem hi]
 exact List.getElem_mem hi
theorem lbest_ok {n:Nat} {l:List S72} (h:Gs n l)(m:Nat):∀ j b:Nat,j+m=l.length→b<l.length→∃ b',lbest l m j b=some b'∧b'<l.length:=by
 induction m with
 | zero=>intro j b _ hb;exact⟨b,rfl,hb⟩
 | succ m ih=>
  intro j b hj hb
  obtain⟨c,hc⟩:=less_ok (rd_T72 l (j:Int)).f0 (rd_T72 l (j:Int)).f1 (rd_T72 l (b:Int)).f0 (rd_T72 l (b:Int)).f1 (h _ (Gs_rd h j (by omega))).1 (h _ (Gs_rd h b hb)).1
  simp only[lbest]
  rw[hc,Option.bind_some]
  exact ih (j+1) _ (by omega) (by split <;> omega)
theorem least_ok {n:Nat} {l:List S72} (h:Gs n l)(h0:0<l.length)(hl:l.length≤1000):∃ a,spec_l11Least.f l=some a∧Gs n (a.1 :: a.2)∧a.2.length+1=l.length:=by
 unfold spec_l11Least.f
 rw[if_pos ⟨by omega,h0⟩]
 obtain⟨b,hb,hbl⟩:=lbest_ok h l.length 0 0 (by omega) h0
 rw[hb,Option.bind_some]
 refine⟨_,rfl,fun x hx=>?_,by simp only[List.length_append,List.length_take,List.length_drop];omega⟩
 rcases List.mem_cons.1 hx with hx | hx
 ·rw[hx];exact h _ (Gs_rd h b hbl)
 ·rcases List.mem_append.1 hx with hx | hx
  ·exact h _ (List.mem_of_mem_take hx)
  ·exact h _ (List.mem_of_mem_drop hx)
theorem lincs_ok (n:Nat)(x:List Int):∀ o:List Int,o.length=n→(∀ i∈x,0≤i∧i<(n:Int))→∃ o',lincs o x=some o'∧o'.length=n:=by
 induction x with
 | nil=>intro o ho _;exact⟨o,rfl,ho⟩
 | cons i t ih=>
  intro o ho hx
  have hi:=hx i (List.mem_cons_self)
  simp only[lincs]
  rw[if_pos ⟨hi.1,by omega⟩]
  exact ih _ (by rw[List.length_set];exact ho) (fun j hj=>hx j (List.mem_cons_of_mem _ hj))
theorem lgrp_ok (n:Nat)(l:List Int):∀ (j:Nat) (acc:List S72),j+l.length=n→acc.length≤j→Gs n acc→Gs n (lgrp l j acc)∧(lgrp l j acc).length≤n:=by
 induction l with
 | nil=>intro j acc hj ha h;exact⟨h,by simp only[lgrp];simp at hj;omega⟩
 | cons c t ih=>
  intro j acc hj ha h
  simp only[List.length_cons]at hj
  simp only[lgrp]
  split
  ·refine ih (j+1) _ (by omega) (by rw[List.length_append,List.length_singleton];omega) (fun x hx=>?_)
   rcases List.mem_append.1 hx with hx | hx
   ·exact h x hx
   ·rw[List.mem_singleton]at hx
    rw[hx]
    exact⟨by simp,List.pairwise_singleton _ _,fun i hi=>by rw[List.mem_singleton]at hi;rw[hi];omega⟩
  ·exact ih (j+1) acc (by omega) (by omega) h
theorem asc_len (n:Int)(l:List Int):∀ lo:Int,lo≤n→asc l→(∀ i∈l,lo≤i∧i<n)→(l.length:Int)≤n - lo:=by
 induction l with
 | nil=>intro lo h _ _;simp;omega
 | cons x t ih=>
  intro lo hlo ha h
  have hx:=h x List.mem_cons_self
  unfold asc at ha
  rw[List.pairwise_cons]at ha
  have:=ih (x+1) (by omega) ha.2 (fun i hi=>⟨by have:=ha.1 i hi;omega,(h i (List.mem_cons_of_mem _ hi)).2⟩)
  simp only[List.length_cons]
  omega
def okRow (n:Nat)(x:List Int):Prop:=x≠[]∧asc x∧∀ i∈x,0≤i∧i<(n:Int)
theorem okRow_len {n:Nat} {x:List Int} (h:okRow n x):x.length≤n:=by
 have:=asc_len (n:Int) x 0 (by omega) h.2.1 h.2.2
 omega
theorem lputs_ev (n:Nat)(hn:n≤12)(t:List Int):∀ x:List Int,okRow n x→(∀ i∈t,0≤i∧i<(n:Int))→∃ r,Ev (fun k=>lputs k x t) r∧okRow n r:=by
 induction t with
 | nil=>intro x hx _;exact⟨x,Ev.ret _,hx⟩
 | cons i t ih=>
  intro x hx ht
  have hl:=okRow_len hx
  obtain⟨y,ey,ha,hm,_⟩:=put_ev x i (by omega) hx.2.1
  have hi:=ht i List.mem_cons_self
  have hy:okRow n y:=by
   refine⟨fun e=>?_,ha,fun j hj=>?_⟩
   ·have h2:=(hm i).2 (Or.inl rfl)
    rw[e]at h2
    cases h2
   ·rcases (hm j).1 hj with q | q
    ·rw[q];exact hi
    ·exact hx.2.2 j q
  obtain⟨r,er,hr⟩:=ih y hy (fun j hj=>ht j (List.mem_cons_of_mem _ hj))
  refine⟨r,?_,hr⟩
  simp only[lputs]
  exact Ev.bnd ey er
theorem lrun_ev (n:Nat)(hn:n≤12)(c:Nat):∀ (gs:List S72) (out:List Int),gs.length≤c→c≤1000→Gs n gs→out.length=n→∃ r,r.length=n∧∃ K,∀ k,K≤k→∀ m,c+1≤m→lrun k m gs out=some r:=by
 induction c with
 | zero=>
  intro gs out hc _ _ ho
  refine⟨out,ho,0,fun k _ m hm=>?_⟩
  obtain⟨m,rfl⟩:∃ q,m=q+1:=⟨m - 1,by omega⟩
  simp only[lrun]
  rw[if_neg (by omega)]
 | succ c ih=>
  intro gs out hc hc2 hg ho
  by_cases h1:1<gs.length
  ·obtain⟨a,ea,ga,la⟩:=least_ok hg (by omega) (by omega)
   obtain⟨b,eb,gb,lb⟩:=least_ok (fun x hx=>ga x (List.mem_cons_of_mem _ hx)) (by omega) (by omega)
   have hax:=ga a.1 List.mem_cons_self
   have hbx:=gb b.1 List.mem_cons_self
   have hbl:=okRow_len (n:=n) (x:=b.1.f1) hbx
   obtain⟨x,⟨K1,ex⟩,hx⟩:=lputs_ev n hn b.1.f1 a.1.f1 hax hbx.2.2
   have hxl:=okRow_len hx
   obtain⟨o',eo,ho'⟩:=lincs_ok n x out ho hx.2.2
   obtain⟨r,hr,K2,er⟩:=ih (b.2++[(⟨wrap64 (a.1.f0+b.1.f0),x⟩:S72)]) o' (by rw[List.length_append,List.length_singleton];omega) (by omega) (fun y hy=>by
    rcases List.mem_append.1 hy with hy | hy
    ·exact gb y (List.mem_cons_of_mem _ hy)
    ·rw[List.mem_singleton]at hy;rw[hy];exact hx) ho'
   refine⟨r,hr,K1+K2,fun k hk m hm=>?_⟩
   obtain⟨m,rfl⟩:∃ q,m=q+1:=⟨m - 1,by omega⟩
   simp only[lrun]
   rw[if_pos h1,ea,Option.bind_some,eb,Option.bind_some,if_pos ⟨by omega,by omega⟩,show lputs k a.1.f1 b.1.f1=some x from ex k (by omega),Option.bind_some,if_pos (by omega),eo,Option.bind_some]
   exact er k (by omega) m (by omega)
  ·refine⟨out,ho,0,fun k _ m hm=>?_⟩
   obtain⟨m,rfl⟩:∃ q,m=q+1:=⟨m - 1,by omega⟩
   simp only[lrun]
   rw[if_neg h1]
theorem counts_ev (l:List Int)(hl:l.length≤140737488351232):Ev (fun k=>spec_l11Counts.f k l) (within 1000 l):=by
 simp only[spec_l11Counts.f]
 by_cases h:l.length≤12
 ·exact Ev.pos (by omega) (Ev.bnd (spec_l1All_ev 0 1000 l hl) (Ev.eq (Ev.ret _) (by simp[within,h])))
 ·exact Ev.neg (by omega) (Ev.eq (Ev.ret _) (by simp[within,h]))
theorem lengthsOf_ev (l:List Int)(hl:l.length≤140737488351232):∃ r:List Int × Bool,Ev (fun k=>spec_LengthsOf.f k l) r∧r.1.length≤12∧r.1.length≤l.length:=by
 by_cases g:within 1000 l=true
 ·have h12:=(within_facts g).1
  obtain⟨hg,hgl⟩:=lgrp_ok l.length l 0 [] (by simp) (by simp) (fun x hx=>by cases hx)
  have h1:∃ o,Go.Proofs.YtmgkflkfoccgkabDoor.QFnCoded.lone (lgrp l 0 []) (List.replicate l.length 0)=some o∧o.length=l.length:=by
   unfold Go.Proofs.YtmgkflkfoccgkabDoor.QFnCoded.lone
   by_cases g1:(lgrp l 0 []).length=1
   ·rw[if_pos g1]
    have hm:(rd_T72 (lgrp l 0 []) 0).f1≠[]∧asc (rd_T72 (lgrp l 0 []) 0).f1∧∀ i∈(rd_T72 (lgrp l 0 []) 0).f1,0≤i∧i<(l.length:Int):=hg _ (Gs_rd hg 0 (by omega))
    generalize (rd_T72 (lgrp l 0 []) 0).f1=x at hm ⊢
    cases x with
    | nil=>exact absurd rfl hm.1
    | cons y t=>
     have hy:=hm.2.2 y List.mem_cons_self
     rw[show rd (y :: t) 0=y from rfl,if_pos ⟨by simp,hy.1,by simp;omega⟩]
     exact⟨_,rfl,by simp⟩
   ·rw[if_neg g1]
    exact⟨_,rfl,by simp⟩
  obtain⟨o,eo,ho⟩:=h1
  obtain⟨r,hr,K,er⟩:=lrun_ev l.length h12 12 (lgrp l 0 []) o (by omega) (by omega) hg ho
  refine⟨(r,true),?_,by simp only;omega,by simp only;omega⟩
  simp only[spec_LengthsOf.f]
  refine Ev.bnd (counts_ev l hl) (Ev.pos g (Ev.pos h12 (Ev.bnd1 eo ⟨K+13,fun k hk=>?_⟩)))
  dsimp only
  rw[er k (by omega) k (by omega)];rfl
 ·refine⟨([],false),?_,by simp,by simp⟩
  simp only[spec_LengthsOf.f]
  exact Ev.bnd (counts_ev l hl) (Ev.neg g (Ev.ret _))
theorem cbits_split (b n:Nat)(a:Nat):cbits (n:Int) (a+b)=cbits ((n / 2 ^ b:Nat):Int) a++cbits (n:Int) b:=by
 induction a with
 | zero=>rw[Nat.zero_add];rfl
 | succ a ih=>
  rw[show a+1+b=(a+b)+1 by omega,cbits,ih,cbits,List.cons_append]
  congr 1
  unfold cbyte
  rw[Int.toNat_natCast,Int.toNat_natCast,Nat.div_div_eq_div_mul,← Nat.pow_add,Nat.add_comm b a]
theorem cbyte_inj (x y m:Nat)(h:cbyte (x:Int) m=cbyte (y:Int) m):x / 2 ^ m % 2=y / 2 ^ m % 2:=by
 unfold cbyte at h
 rw[Int.toNat_natCast,Int.toNat_natCast]at h
 have h1:=congrArg UInt8.toNat h
 have hx:x / 2 ^ m % 2<2:=Nat.mod_lt _ (by omega)
 have hy:y / 2 ^ m % 2<2:=Nat.mod_lt _ (by omega)
 generalize x / 2 ^ m % 2=u at h1 hx
 generalize y / 2 ^ m % 2=v at h1 hy
 rw[UInt8.toNat_ofNat',UInt8.toNat_ofNat']at h1
 omega
theorem cbits_inj (m:Nat):∀ x y:Nat,cbits (x:Int) m=cbits (y:Int) m→x % 2 ^ m=y % 2 ^ m:=by
 induction m with
 | zero=>intro x y _;rw[Nat.pow_zero,Nat.mod_one,Nat.mod_one]
 | succ m ih=>
  intro x y h
  rw[cbits,cbits,List.cons.injEq]at h
  have h1:=cbyte_inj x y m h.1
  have h2:=ih x y h.2
  rw[Nat.pow_succ,Nat.mod_mul,Nat.mod_mul,h1,h2]
def cz (outs:List ByteArray)(j:Nat):Nat:=(outs.getD j ByteArray.empty).size
def Iv (outs:List ByteArray)(cs:Nat→Nat)(B:Int):Prop:=
 (∀ j,cz outs j≠0→cz outs j≤12∧outs.getD j ByteArray.empty=baL (cbits (cs j:Int) (cz outs j))∧((cs j:Int)+1)*2 ^ (12 - cz outs j)≤B) ∧
 (∀ i j,i≠j→cz outs i≠0→cz outs j≠0→((cs i:Int)+1)*2 ^ (12 - cz outs i)≤(cs j:Int)*2 ^ (12 - cz outs j)∨((cs j:Int)+1)*2 ^ (12 - cz outs j)≤(cs i:Int)*2 ^ (12 - cz outs i))
theorem Iv_set (outs:List ByteArray)(cs:Nat→Nat)(B:Int)(i:Nat)(hi:i<outs.length)(c long:Nat)(hl:long≤12)(hc:(c:Int)*2 ^ (12 - long)=B)(h:Iv outs cs B):Iv (outs.set i (baL (cbits (c:Int) long))) (fun j=>if j=i then c else cs j) (B+2 ^ (12 - long)):=by
 have hp:(0:Int)<2 ^ (12 - long):=Int.pow_pos (by decide)
 have hs:∀ j,cz (outs.set i (baL (cbits (c:Int) long))) j=if j=i then long else cz outs j:=by
  intro j
  unfold cz
  rw[getD_set _ _ _ _ hi]
  split
  ·rw[baL_size,cbits_length]
  ·rfl
 refine⟨fun j hj=>?_,fun j k hjk hj hk=>?_⟩
 ·rw[hs]at hj ⊢
  rw[getD_set _ _ _ _ hi]
  dsimp only
  by_cases g:j=i
  ·rw[if_pos g,if_pos g,if_pos g]
   refine⟨hl,rfl,?_⟩
   rw[Int.add_mul,hc,Int.one_mul];omega
  ·rw[if_neg g]at hj
   rw[if_neg g,if_neg g,if_neg g]
   have:=h.1 j hj
   exact⟨this.1,this.2.1,by omega⟩
 ·rw[hs]at hj hk
  rw[hs,hs]
  by_cases g:j=i
  ·have g2:¬ k=i:=fun e=>hjk (g.trans e.symm)
   rw[if_neg g2]at hk
   simp only[if_pos g,if_neg g2]
   have:=(h.1 k hk).2.2
   exact .inr (by omega)
  ·rw[if_neg g]at hj
   by_cases g2:k=i
   ·simp only[if_neg g,if_pos g2]
    have:=(h.1 j hj).2.2
    exact .inl (by omega)
   ·rw[if_neg g2]at hk
    simp only[if_neg g,if_neg g2]
    exact h.2 j k hjk hj hk
def cnt (long:Nat):List Int→Nat
 | []=>0
 | x :: t=>(if x=(long:Int) then 1 else 0)+cnt long t
def cstate (B:Int)(long:Nat)(s:Int × Int × List ByteArray):Prop:=0≤s.1∧0≤s.2.1∧s.2.1≤(long:Int)∧(s.2.1=0→s.1=0)∧nx s.1 s.2.1*2 ^ (12 - s.2.1).toNat=B
theorem cin_iv (n long:Nat)(h1:1≤long)(h12:long≤12)(post:List Int):∀ (i:Nat) (s s':Int × Int × List ByteArray) (cs:Nat→Nat) (B:Int),i+post.length=n→s.2.2.length=n→cstate B long s→Iv s.2.2 cs B→cin long post i s=some s'→s'.2.2.length=n∧cstate (B+cnt long post*2 ^ (12 - long)) long s'∧∃ cs',Iv s'.2.2 cs' (B+cnt long post*2 ^ (12 - long)):=by
 induction post with
 | nil=>
  intro i s s' cs B hi hn hst hv e
  simp only[cin,Option.some.injEq]at e
  subst e
  refine⟨hn,?_⟩
  simp only[cnt,Int.natCast_zero,Int.zero_mul,Int.add_zero]
  exact⟨hst,cs,hv⟩
 | cons x post ih=>
  intro i s s' cs B hi hn hst hv e
  simp only[List.length_cons]at hi
  rw[cin]at e
  obtain⟨s2,e1,e2⟩:=Option.bind_eq_some_iff.1 e
  unfold cstep at e1
  by_cases g:x=(long:Int)
  ·have e3:cput (long:Int) i (nextCode long s.1 s.2.1) s.2.1 s.2.2=some s2:=by
    rw[if_pos g]at e1
    unfold nextCode
    split at e1 <;> rename_i g2
    ·rw[if_pos g2];exact e1
    ·rw[if_neg g2];exact e1
   obtain⟨c0,c1,c2,c3,c4⟩:=hst
   unfold cput at e3
   split at e3
   ·rename_i g3
    obtain rfl:=Option.some.inj e3
    obtain⟨c,hc⟩:∃ c:Nat,nextCode long s.1 s.2.1=(c:Int):=⟨(nextCode long s.1 s.2.1).toNat,by omega⟩
    have hB:(c:Int)*2 ^ (12 - long)=B:=by
     rw[← hc,next_eq long _ _ c1 c3,Int.mul_assoc,← Int.pow_add,← c4,show ((long:Int) - s.2.1).toNat+(12 - long)=(12 - s.2.1).toNat by omega]
    have hB2:((c:Int)+1)*2 ^ (12 - long)=B+2 ^ (12 - long):=by rw[Int.add_mul,hB,Int.one_mul]
    rw[hc]at e2
    have hv2:=Iv_set s.2.2 cs B i (by omega) c long h12 hB hv
    have r:=ih (i+1) ((c:Int),(long:Int),s.2.2.set i (baL (cbits (c:Int) long))) s' _ (B+2 ^ (12 - long)) (by omega) (by simp only[List.length_set];exact hn) ⟨by simp only;omega,by simp only;omega,by simp only;omega,by simp only;omega,by
     simp only
     unfold nx
     rw[if_pos (by omega),show ((12:Int) - (long:Int)).toNat=12 - long by omega]
     exact hB2⟩ hv2 (by rw[Int.toNat_natCast]at e2;exact e2)
    have eb:B+cnt long (x :: post)*2 ^ (12 - long)=B+2 ^ (12 - long)+cnt long post*2 ^ (12 - long):=by
     simp only[cnt]
     rw[if_pos g,Int.natCast_add,Int.add_mul,Int.natCast_one,Int.one_mul];omega
    rw[eb]
    exact r
   ·cases e3
  ·rw[if_neg g]at e1
   obtain rfl:=Option.some.inj e1
   have eb:cnt long (x :: post)=cnt long post:=by simp only[cnt];rw[if_neg g,Nat.zero_add]
   rw[eb]
   exact ih (i+1) s s' cs B (by omega) hn hst hv e2
def tot (l:List Int):Nat→Nat→Int
 | 0,_=>0
 | f+1,long=>cnt long l*2 ^ (12 - long)+tot l f (long+1)
theorem cout_iv (l:List Int)(f:Nat):∀ (long:Nat) (s s':Int × Int × List ByteArray) (cs:Nat→Nat) (B:Int),1≤long→long+f=13→s.2.2.length=l.length→cstate B long s→Iv s.2.2 cs B→cout l f long s=some s'→∃ cs',Iv s'.2.2 cs' (B+tot l f long):=by
 induction f with
 | zero=>
  intro long s s' cs B h1 hf hn hst hv e
  simp only[cout,Option.some.injEq]at e
  subst e
  exact⟨cs,by simp only[tot,Int.add_zero];exact hv⟩
 | succ f ih=>
  intro long s s' cs B h1 hf hn hst hv e
  rw[cout]at e
  obtain⟨s2,e1,e2⟩:=Option.bind_eq_some_iff.1 e
  obtain⟨n2,⟨d0,d1,d2,d3,d4⟩,cs2,v2⟩:=cin_iv l.length long h1 (by omega) l 0 s s2 cs B (by omega) hn hst hv e1
  obtain⟨cs3,v3⟩:=ih (long+1) s2 s' cs2 _ (by omega) (by omega) n2 ⟨d0,d1,by omega,d3,d4⟩ v2 (by rw[Int.natCast_add,Int.natCast_one];exact e2)
  refine⟨cs3,?_⟩
  simp only[tot]
  rw[← Int.add_assoc]
  exact v3
theorem tot_cons (x:Int)(t:List Int)(f:Nat):∀ long:Nat,long+f=13→tot (x :: t) f long=(if (long:Int)≤x∧x≤12 then 2 ^ (12 - x.toNat) else 0)+tot t f long:=by
 induction f with
 | zero=>
  intro long h
  simp only[tot]
  rw[if_neg (by omega)];rfl
 | succ f ih=>
  intro long h
  simp only[tot,cnt]
  rw[ih (long+1) (by omega)]
  by_cases g:x=(long:Int)
  ·subst g
   rw[if_pos rfl,if_neg (by omega),if_pos (by omega),Int.toNat_natCast,Int.natCast_add,Int.natCast_one,Int.add_mul,Int.one_mul];omega
  ·rw[if_neg g,Nat.zero_add]
   by_cases g2:(long:Int)≤x∧x≤12
   ·rw[if_pos g2,if_pos (by omega)];omega
   ·rw[if_neg g2,if_neg (by omega),Int.zero_add,Int.zero_add]
theorem shr_pow (x:Int)(h0:0<x)(h1:x≤12):shr .i64 4096 x=2 ^ (12 - x.toNat):=by
 have:=(show ∀ n:Fin 13,shr .i64 4096 (n.val:Int)=2 ^ (12 - n.val) by decide) ⟨x.toNat,by omega⟩
 simp only at this
 rw[Int.toNat_of_nonneg (by omega)]at this
 exact this
theorem kr_tot (l:List Int):∀ s:Int,inAll 0 12 l=true→kr s l=s+tot l 12 1:=by
 induction l with
 | nil=>intro s _;simp[kr,tot,cnt]
 | cons x t ih=>
  intro s h
  have hx:=inAll_mem h x (by simp)
  have ht:inAll 0 12 t=true:=by simp only[inAll,List.all_cons,Bool.and_eq_true]at h;exact h.2
  rw[tot_cons x t 12 1 rfl,kr,ih _ ht]
  by_cases g:x > 0
  ·rw[if_pos g,if_pos (by omega),shr_pow x g hx.2];omega
  ·rw[if_neg g,if_neg (by omega)];omega
theorem codes_iv (l:List Int)(h:inAll 0 12 l=true)(hk:kr 0 l≤4096)(fin:Int × Int × List ByteArray)(e:cout l 12 1 (0,0,List.replicate l.length ⟨#[]⟩)=some fin):∃ cs,Iv fin.2.2 cs 4096:=by
 have z:∀ j,cz (List.replicate l.length (⟨#[]⟩:ByteArray)) j=0:=by
  intro j
  unfold cz
  rw[List.getD_eq_getElem?_getD,List.getElem?_replicate]
  split <;> rfl
 obtain⟨cs,v⟩:=cout_iv l 12 1 _ fin (fun _=>0) 0 (by omega) rfl (by simp) ⟨by simp,by simp,by simp,by simp,by simp[nx]⟩ ⟨fun j hj=>absurd (z j) hj,fun i j _ hi=>absurd (z i) hi⟩ e
 have:=kr_tot l 0 h
 refine⟨cs,fun j hj=>?_,v.2⟩
 have:=v.1 j hj
 exact⟨this.1,this.2.1,by omega⟩
theorem ext0 (b:ByteArray)(n:Nat):(b.extract 0 n).data.toList=b.data.toList.take n:=by
 rw[ByteArray.data_extract,Array.toList_extract,List.extract_eq_take_drop,List.drop_zero,Nat.sub_zero]
def apartC (ws:List ByteArray):Prop:=∀ i j,i≠j→¬ front (ws.getD j ByteArray.empty) (ws.getD i ByteArray.empty)
theorem Iv_apart (ws:List ByteArray)(cs:Nat→Nat)(h:Iv ws cs 4096):apartC ws:=by
 intro i j hij hf
 obtain⟨f1,f2,f3⟩:=hf
 have hi:cz ws i≠0:=f1
 have hle:cz ws i≤cz ws j:=f2
 have hj:cz ws j≠0:=by omega
 obtain⟨i1,i2,i3⟩:=h.1 i hi
 obtain⟨j1,j2,j3⟩:=h.1 j hj
 have hd:=h.2 i j hij hi hj
 have e:=congrArg (fun b:ByteArray=>b.data.toList) f3
 simp only[ext0]at e
 rw[i2,j2,baL_data,baL_data,baL_size,cbits_length]at e
 generalize cz ws i=a at *
 obtain⟨d,hd2⟩:∃ d,cz ws j=a+d:=⟨cz ws j - a,by omega⟩
 rw[hd2]at hd e j1 j3
 generalize cs i=x at *
 generalize cs j=y at *
 rw[cbits_split,List.take_left' (cbits_length _ _)]at e
 have e2:=cbits_inj a _ _ e
 have lt:∀ u m:Nat,m≤12→((u:Int)+1)*2 ^ (12 - m)≤4096→u<2 ^ m:=by
  intro u m hm hu
  have e4:(4096:Int)=2 ^ m*2 ^ (12 - m):=by rw[← Int.pow_add,show m+(12 - m)=12 by omega];rfl
  rw[e4]at hu
  have:=Int.le_of_mul_le_mul_right hu (Int.pow_pos (by decide))
  have c:((2 ^ m:Nat):Int)=(2:Int) ^ m:=by simp
  omega
 have lx:=lt x a i1 i3
 have ly:=lt y (a+d) j1 j3
 have ly2:y / 2 ^ d<2 ^ a:=by
  rw[Nat.div_lt_iff_lt_mul (Nat.pow_pos (by omega)),← Nat.pow_add];exact ly
 rw[Nat.mod_eq_of_lt ly2,Nat.mod_eq_of_lt lx]at e2
 have p:0<2 ^ d:=Nat.pow_pos (by omega)
 have m1:x*2 ^ d≤y:=by rw[← e2];exact Nat.div_mul_le_self _ _
 have m2:y<(x+1)*2 ^ d:=by rw[← e2];exact Nat.lt_mul_of_div_lt (Nat.lt_succ_self _) p
 have cd:((2 ^ d:Nat):Int)=(2:Int) ^ d:=by simp
 have n1:(x:Int)*2 ^ d≤(y:Int):=by rw[← cd,← Int.natCast_mul];omega
 have n2:(y:Int)+1≤((x:Int)+1)*2 ^ d:=by
  rw[← cd,show (x:Int)+1=((x+1:Nat):Int) by simp,← Int.natCast_mul];omega
 have q:(0:Int)<2 ^ (12 - (a+d)):=Int.pow_pos (by decide)
 have eP:(2:Int) ^ (12 - a)=2 ^ d*2 ^ (12 - (a+d)):=by rw[← Int.pow_add,show d+(12 - (a+d))=12 - a by omega]
 have k1:=Int.mul_le_mul_of_nonneg_right n1 (Int.le_of_lt q)
 have k2:=Int.mul_le_mul_of_nonneg_right n2 (Int.le_of_lt q)
 rw[Int.mul_assoc,← eP]at k1 k2
 rw[Int.add_mul (y:Int),Int.one_mul]at k2 hd
 generalize (2:Int) ^ (12 - (a+d))=Q at *
 generalize (y:Int)*Q=Y at *
 generalize ((x:Int)+1)*2 ^ (12 - a)=X1 at *
 generalize (x:Int)*2 ^ (12 - a)=X0 at *
 omega
theorem codes_apart (l:List Int)(hg:goodLengths l=true)(fin:Int × Int × List ByteArray)(e:cout l 12 1 (0,0,List.replicate l.length ⟨#[]⟩)=some fin):apartC fin.2.2:=by
 unfold goodLengths at hg
 rw[Bool.and_eq_true]at hg
 have hw:=within_facts hg.1
 obtain⟨cs,v⟩:=codes_iv l hw.2 (of_decide_eq_true hg.2) fin e
 exact Iv_apart _ cs v
def catC (ws:List ByteArray):List Int→ByteArray
 | []=>⟨#[]⟩
 | k :: t=>ws.getD k.toNat ByteArray.empty++catC ws t
def valC (l:List Int)(t:List Int):Prop:=∀ k∈t,(0≤k∧k<(l.length:Int))∧l.getD k.toNat 0≠0
theorem ba_assoc (a b c:ByteArray):(a++b)++c=a++(b++c):=ba_ext (by simp only[ByteArray.data_append,Array.toList_append,List.append_assoc])
theorem ba_nil (a:ByteArray):a++(⟨#[]⟩:ByteArray)=a:=ba_ext (by rw[ByteArray.data_append,Array.toList_append];show _++[]=_;rw[List.append_nil])
theorem nil_ba (a:ByteArray):(⟨#[]⟩:ByteArray)++a=a:=ba_ext (by rw[ByteArray.data_append,Array.toList_append];show []++_=_;rw[List.nil_append])
theorem enc_ok (l:List Int)(ws:List ByteArray)(t:List Int):∀ acc:ByteArray,(enc l ws t acc).2=true→valC l t∧(enc l ws t acc).1=acc++catC ws t:=by
 induction t with
 | nil=>intro acc _;exact⟨fun k hk=>(by cases hk),(ba_nil acc).symm⟩
 | cons k t ih=>
  intro acc h
  unfold enc at h ⊢
  by_cases g:(0≤k∧k<(l.length:Int))∧l.getD k.toNat 0≠0
  ·rw[if_pos g]at h ⊢
   obtain⟨h1,h2⟩:=ih _ h
   refine⟨fun x hx=>?_,by rw[h2,catC,ba_assoc]⟩
   rcases List.mem_cons.1 hx with hx | hx
   ·rw[hx];exact g
   ·exact h1 x hx
  ·rw[if_neg g]at h;cases h
theorem enc_of (l:List Int)(ws:List ByteArray)(t:List Int):∀ acc:ByteArray,valC l t→enc l ws t acc=(acc++catC ws t,true):=by
 induction t with
 | nil=>intro acc _;unfold enc;rw[catC,ba_nil]
 | cons k t ih=>
  intro acc h
  unfold enc
  rw[if_pos (h k List.mem_cons_self),ih _ (fun x hx=>h x (List.mem_cons_of_mem _ hx)),catC,ba_assoc]
theorem enc_no (l:List Int)(ws:List ByteArray)(t:List Int):∀ acc:ByteArray,(enc l ws t acc).2=false→enc l ws t acc=(⟨#[]⟩,false):=by
 induction t with
 | nil=>intro acc h;cases h
 | cons k t ih=>
  intro acc h
  unfold enc at h ⊢
  by_cases g:(0≤k∧k<(l.length:Int))∧l.getD k.toNat 0≠0
  ·rw[if_pos g]at h ⊢;exact ih _ h
  ·rw[if_neg g]
theorem catC_size (l:List Int)(ws:List ByteArray)(hz:∀ j,cz ws j≤12)(t:List Int):(catC ws t).size≤12*t.length:=by
 induction t with
 | nil=>exact Nat.le_refl _
 | cons k t ih=>
  have:=hz k.toNat
  unfold cz at this
  rw[catC,ByteArray.size_append,List.length_cons];omega
theorem front_app (a b:ByteArray)(h:a.size≠0):front (a++b) a:=by
 refine⟨h,by rw[ByteArray.size_append];omega,ba_ext ?_⟩
 rw[ext0,ByteArray.data_append,Array.toList_append,List.take_left' (by rw[data_length])]
theorem tail_app (a b:ByteArray):(a++b).extract a.size (a++b).size=b:=by
 apply ba_ext
 rw[ByteArray.data_extract,Array.toList_extract,List.extract_eq_take_drop,ByteArray.data_append,Array.toList_append,List.drop_left' (by rw[data_length]),List.take_of_length_le (by rw[data_length,ByteArray.size_append];omega)]
theorem front_front (bits a b:ByteArray)(ha:front bits a)(hb:front bits b)(h:a.size≤b.size):front b a:=by
 refine⟨ha.1,h,ba_ext ?_⟩
 have e1:=congrArg (fun x:ByteArray=>x.data.toList) ha.2.2
 have e2:=congrArg (fun x:ByteArray=>x.data.toList) hb.2.2
 simp only[ext0]at e1 e2
 rw[ext0,← e2,List.take_take,Nat.min_eq_left h,e1]
theorem nxt_miss (bits:ByteArray)(t:List ByteArray):∀ (i:Int) (k:Nat),0≤i→k<t.length→front bits (t.getD k ByteArray.empty)→nxt bits i t ≠ -1:=by
 induction t with
 | nil=>intro i k _ hk;simp at hk
 | cons x t ih=>
  intro i k h0 hk hf
  unfold nxt
  split
  ·omega
  ·rename_i g
   cases k with
   | zero=>exact absurd hf g
   | succ k=>exact ih (i+1) k (by omega) (by simpa using hk) (by simpa using hf)
theorem nxt_hit (ws:List ByteArray)(hp:apartC ws)(bits:ByteArray)(k:Nat)(hk:k<ws.length)(hf:front bits (ws.getD k ByteArray.empty)):nxt bits 0 ws=(k:Int):=by
 rcases nxt_range bits ws 0 (by omega) with h | ⟨h1,h2,h3⟩
 ·exact absurd h (nxt_miss bits ws 0 k (by omega) hk hf)
 ·rw[Int.sub_zero]at h3
  by_cases g:(nxt bits 0 ws).toNat=k
  ·omega
  ·rcases Nat.le_total (ws.getD (nxt bits 0 ws).toNat ByteArray.empty).size (ws.getD k ByteArray.empty).size with q | q
   ·exact absurd (front_front bits _ _ h3 hf q) (hp _ _ g)
   ·exact absurd (front_front bits _ _ hf h3 q) (hp _ _ (fun e=>g e.symm))
theorem dec_cat (l:List Int)(ws:List ByteArray)(hw:ws.length=l.length)(hs:∀ j,j<l.length→((cz ws j:Nat):Int)=l.getD j 0)(hp:apartC ws)(t:List Int):∀ (d:Nat) (out:List Int),valC l t→t.length≤d→dec ws d (catC ws t) out=(out++t,⟨#[]⟩):=by
 induction t with
 | nil=>intro d out _ _;rw[catC,dec_empty _ _ _ _ rfl,List.append_nil]
 | cons k t ih=>
  intro d out h hd
  obtain⟨d,rfl⟩:∃ q,d=q+1:=⟨d - 1,by rw[List.length_cons]at hd;omega⟩
  obtain⟨hk,hk2⟩:=h k List.mem_cons_self
  obtain⟨j,rfl⟩:∃ j:Nat,k=j:=⟨k.toNat,by omega⟩
  rw[Int.toNat_natCast]at hk2
  have hz:(ws.getD j ByteArray.empty).size≠0:=by
   have:=hs j (by omega)
   unfold cz at this
   omega
  have hn:=nxt_hit ws hp (ws.getD j ByteArray.empty++catC ws t) j (by omega) (front_app _ _ hz)
  rw[catC,Int.toNat_natCast,dec,hn,if_neg (by omega),Int.toNat_natCast,tail_app]
  rw[List.length_cons]at hd
  rw[ih d (out++[(j:Int)]) (fun x hx=>h x (List.mem_cons_of_mem _ hx)) (by omega),List.append_assoc]
  rfl
theorem cat_dec (l:List Int)(ws:List ByteArray)(hw:ws.length=l.length)(hs:∀ j,j<l.length→((cz ws j:Nat):Int)=l.getD j 0)(d:Nat):∀ (bits:ByteArray) (out:List Int),(dec ws d bits out).2.size=0→∃ t,(dec ws d bits out).1=out++t∧bits=catC ws t∧valC l t:=by
 have nil:∀ bits:ByteArray,bits.size=0→bits=⟨#[]⟩:=fun bits h=>ba_ext (List.eq_nil_of_length_eq_zero (by rw[data_length];exact h))
 induction d with
 | zero=>
  intro bits out h
  exact⟨[],(List.append_nil _).symm,nil bits h,fun k hk=>by cases hk⟩
 | succ d ih=>
  intro bits out h
  unfold dec at h ⊢
  rcases nxt_range bits ws 0 (by omega) with g | ⟨g1,g2,g3⟩
  ·rw[g,if_pos (by omega)]at h ⊢
   exact⟨[],(List.append_nil _).symm,nil bits h,fun k hk=>by cases hk⟩
  ·rw[if_neg (by omega)]at h ⊢
   generalize nxt bits 0 ws=n at g1 g2 g3 h ⊢
   rw[Int.sub_zero]at g3
   obtain⟨t,e1,e2,e3⟩:=ih _ _ h
   refine⟨n :: t,by rw[e1,List.append_assoc];rfl,?_,fun k hk=>?_⟩
   ·rw[catC,← e2]
    have:=cut_join bits (ws.getD n.toNat ByteArray.empty).size g3.2.1
    rw[g3.2.2]at this
    exact this
   ·rcases List.mem_cons.1 hk with hk | hk
    ·rw[hk]
     refine⟨⟨g1,by omega⟩,?_⟩
     have:=hs n.toNat (by omega)
     have h1:=g3.1
     unfold cz at this
     omega
    ·exact e3 k hk
def encR (l:List Int)(ws:List ByteArray)(m:List Int):ByteArray × Bool:=if m.length > 200 then (⟨#[]⟩,false) else enc l ws m ⟨#[]⟩
noncomputable def decR (ws:List ByteArray) (bits:ByteArray):List Int × Bool:=if bits.size > 4000 then ([],false) else decRes (dec ws 200 bits [])
theorem impl_enc_no (l m:List Int):Ev (fun k=>impl_EncodeBy.j0 k l m true) ((⟨#[]⟩:ByteArray),false):=by
 refine Ev.succ ?_
 simp only[impl_EncodeBy.j0]
 exact Ev.pos (by trivial) (Ev.ret _)
theorem impl_dec_no (l:List Int)(bits:ByteArray):Ev (fun k=>impl_DecodeBy.j0 k l bits true) (([]:List Int),false):=by
 refine Ev.succ ?_
 simp only[impl_DecodeBy.j0]
 exact Ev.pos (by trivial) (Ev.ret _)
theorem model_bad (l:List Int)(hl:l.length≤1048576)(g:¬ goodLengths l=true):(Ev (fun k=>spec_CodesOf.f k l) (([]:List ByteArray),false)∧Ev (fun k=>impl_CodesOf.f k l) (([]:List ByteArray),false))∧(∀ m,Ev (fun k=>spec_EncodeBy.f k l m) ((⟨#[]⟩:ByteArray),false)∧Ev (fun k=>impl_EncodeBy.f k l m) ((⟨#[]⟩:ByteArray),false))∧(∀ bits,Ev (fun k=>spec_DecodeBy.f k l bits) (([]:List Int),false)∧Ev (fun k=>impl_DecodeBy.f k l bits) (([]:List Int),false)):=by
 refine⟨⟨?_,?_⟩,fun m=>⟨?_,?_⟩,fun bits=>⟨?_,?_⟩⟩
 ·simp only[spec_CodesOf.f]
  exact Ev.bnd (spec_GoodLengths_ev l (by omega)) (Ev.neg g (Ev.ret _))
 ·simp only[impl_CodesOf.f]
  exact Ev.bnd (impl_GoodLengths_ev l) (Ev.neg g (Ev.ret _))
 ·simp only[spec_EncodeBy.f]
  exact Ev.bnd (spec_GoodLengths_ev l (by omega)) (Ev.neg g (Ev.ret _))
 ·simp only[impl_EncodeBy.f]
  exact Ev.bnd (impl_GoodLengths_ev l) (Ev.neg g (impl_enc_no l m))
 ·simp only[spec_DecodeBy.f]
  exact Ev.bnd (spec_GoodLengths_ev l (by omega)) (Ev.neg g (Ev.ret _))
 ·simp only[impl_DecodeBy.f]
  exact Ev.bnd (impl_GoodLengths_ev l) (Ev.neg g (impl_dec_no l bits))
def okCodes (l:List Int)(ws:List ByteArray):Prop:=l.length≤12∧ws.length=l.length∧(∀ j,j<l.length→((cz ws j:Nat):Int)=l.getD j 0)∧apartC ws∧∀ j,cz ws j≤12
theorem model_good (l:List Int)(g:goodLengths l=true):∃ ws,okCodes l ws∧(Ev (fun k=>spec_CodesOf.f k l) (ws,true)∧Ev (fun k=>impl_CodesOf.f k l) (ws,true))∧(∀ m,m.length≤1048576→Ev (fun k=>spec_EncodeBy.f k l m) (encR l ws m)∧Ev (fun k=>impl_EncodeBy.f k l m) (encR l ws m))∧(∀ bits,bits.size≤1048576→Ev (fun k=>spec_DecodeBy.f k l bits) (decR ws bits)∧Ev (fun k=>impl_DecodeBy.f k l bits) (decR ws bits)):=by
 have hw:within 12 l=true:=by unfold goodLengths at g;rw[Bool.and_eq_true]at g;exact g.1
 have h12:=within_facts hw
 obtain⟨fin,e,hi,hlen,hs⟩:=codes_ev l h12.1
 have hsz:=codes_sizes l h12.2 fin e
 have hb:=codes_bits l fin e
 have hap:=codes_apart l g fin e
 have hcz:∀ j,cz fin.2.2 j≤12:=by
  intro j
  by_cases hj:j<l.length
  ·have:=hsz j hj
   have:=inAll_mem h12.2 (l.getD j 0) (by rw[List.getD_eq_getElem?_getD,List.getElem?_eq_getElem hj];exact List.getElem_mem hj)
   unfold cz
   omega
  ·unfold cz
   rw[List.getD_eq_getElem?_getD,List.getElem?_eq_none (by omega)]
   exact Nat.zero_le _
 generalize fin.2.2=ws at hi hlen hs hsz hb hap hcz
 refine⟨ws,⟨h12.1,hlen,hsz,hap,hcz⟩,⟨?_,?_⟩,fun m hm=>?_,fun bits hbt=>?_⟩
 ·simp only[spec_CodesOf.f]
  exact Ev.bnd (spec_GoodLengths_ev l (by omega)) (Ev.pos g (Ev.bnd hs (Ev.ret _)))
 ·simp only[impl_CodesOf.f]
  exact Ev.bnd (impl_GoodLengths_ev l) (Ev.pos g (Ev.bnd1 hi (Ev.ret _)))
 ·unfold encR
  by_cases g2:m.length > 200
  ·rw[if_pos g2]
   refine⟨?_,?_⟩
   ·simp only[spec_EncodeBy.f]
    exact Ev.bnd (spec_GoodLengths_ev l (by omega)) (Ev.pos g (Ev.pos (by omega) (Ev.ret _)))
   ·simp only[impl_EncodeBy.f]
    refine Ev.bnd (impl_GoodLengths_ev l) (Ev.pos g ?_)
    rw[decide_eq_true (by omega)]
    exact impl_enc_no l m
  ·rw[if_neg g2]
   refine⟨?_,?_⟩
   ·simp only[spec_EncodeBy.f,spec_l11Encode.f]
    have h:=spec_enc l ws h12.1 hlen hsz h12.2 m [] (⟨#[]⟩:ByteArray) (by simp only[List.nil_append];omega) (by show 0+12*m.length≤20000;omega)
    exact Ev.bnd (spec_GoodLengths_ev l (by omega)) (Ev.pos g (Ev.neg (by omega) (Ev.bnd (a:=enc l ws m (⟨#[]⟩:ByteArray)) (Ev.bnd hs (by simpa using h)) (Ev.ret _))))
   ·simp only[impl_EncodeBy.f]
    refine Ev.bnd (impl_GoodLengths_ev l) (Ev.pos g ?_)
    rw[decide_eq_false (by omega)]
    have h:=impl_enc l ws h12.1 hlen hsz h12.2 m [] (⟨#[]⟩:ByteArray) (by simp only[List.nil_append];omega) (by show 0+12*m.length≤20000;omega)
    refine Ev.succ ?_
    simp only[impl_EncodeBy.j0]
    exact Ev.neg (by simp) (Ev.bnd1 hi (by simpa using h))
 ·unfold decR
  by_cases g2:bits.size > 4000
  ·rw[if_pos g2]
   refine⟨?_,?_⟩
   ·simp only[spec_DecodeBy.f]
    exact Ev.bnd (spec_GoodLengths_ev l (by omega)) (Ev.pos g (Ev.pos (by omega) (Ev.ret _)))
   ·simp only[impl_DecodeBy.f]
    have e0:goodBits bits=false:=by unfold goodBits;rw[decide_eq_false (by omega),Bool.and_false]
    have e1:=impl_areBits_eq bits (by omega)
    rw[e0]at e1
    exact Ev.bnd (impl_GoodLengths_ev l) (Ev.pos g (Ev.bnd1 e1 (impl_dec_no l bits)))
  ·rw[if_neg g2]
   refine⟨?_,?_⟩
   ·simp only[spec_DecodeBy.f,spec_l11Decode.f]
    have hd:=spec_dec0 ws (by omega) 200 bits [] (by omega) rfl
    exact Ev.bnd (spec_GoodLengths_ev l (by omega)) (Ev.pos g (Ev.neg (by omega) (Ev.bnd (Ev.bnd hs hd) (Ev.ret _))))
   ·simp only[impl_DecodeBy.f]
    refine Ev.bnd (impl_GoodLengths_ev l) (Ev.pos g ?_)
    cases hg:goodBits bits with
    | false=>
     have e1:=impl_areBits_eq bits (by omega)
     rw[hg]at e1
     rw[decRes_neg _ (fun hz=>by
      have:=dec_bits ws hb 200 bits [] hz
      unfold goodBits at hg
      rw[this,decide_eq_true (by omega)]at hg
      cases hg)]
     exact Ev.bnd1 e1 (impl_dec_no l bits)
    | true=>
     have e1:=impl_areBits_eq bits (by omega)
     rw[hg]at e1
     refine Ev.bnd1 e1 (Ev.succ ?_)
     simp only[impl_DecodeBy.j0,impl_decode.f]
     have hd:=impl_dec ws (by omega) 200 bits [] (by omega) rfl
     refine Ev.neg (by simp) (Ev.bnd (Ev.bnd1 hi hd) ?_)
     by_cases gz:(dec ws 200 bits []).2.size=0
     ·rw[decRes_pos _ gz];exact Ev.pos ((ne_nil _).2 gz) (Ev.ret _)
     ·rw[decRes_neg _ gz];exact Ev.neg (fun h=>gz ((ne_nil _).1 h)) (Ev.ret _)
theorem enc_dec (l:List Int)(ws:List ByteArray)(h:okCodes l ws)(m:List Int)(he:(encR l ws m).2=true):decR ws (encR l ws m).1=(m,true)∧(encR l ws m).1.size≤2400:=by
 unfold encR at he ⊢
 by_cases g:m.length > 200
 ·rw[if_pos g]at he;cases he
 ·rw[if_neg g]at he ⊢
  obtain⟨h1,h2⟩:=enc_ok l ws m _ he
  rw[nil_ba]at h2
  have hz:=catC_size l ws h.2.2.2.2 m
  rw[h2]
  refine⟨?_,by omega⟩
  unfold decR
  rw[if_neg (by omega),dec_cat l ws h.2.1 h.2.2.1 h.2.2.2.1 m 200 [] h1 (by omega),decRes_pos _ rfl]
  rfl
theorem dec_enc (l:List Int)(ws:List ByteArray)(h:okCodes l ws)(bits:ByteArray)(hd:(decR ws bits).2=true):encR l ws (decR ws bits).1=(bits,true):=by
 unfold decR at hd ⊢
 by_cases g:bits.size > 4000
 ·rw[if_pos g]at hd;cases hd
 ·rw[if_neg g]at hd ⊢
  by_cases gz:(dec ws 200 bits []).2.size=0
  ·rw[decRes_pos _ gz]
   obtain⟨t,e1,e2,e3⟩:=cat_dec l ws h.2.1 h.2.2.1 200 bits [] gz
   have hl:=dec_len ws 200 bits []
   simp only[List.length_nil,Nat.zero_add]at hl
   unfold encR
   rw[if_neg (by simp only;omega),e1,List.nil_append,enc_of l ws t _ e3,nil_ba,← e2]
  ·rw[decRes_neg _ gz]at hd;cases hd
theorem decR_len (ws:List ByteArray)(bits:ByteArray):(decR ws bits).1.length≤200:=by
 unfold decR
 split
 ·simp
 ·unfold decRes
  split
  ·have:=dec_len ws 200 bits []
   simpa using this
  ·simp
theorem among_ok2 (l:List Int)(hl:∀ x∈l,0≤x∧x≤255)(a sd:Int)(xs:List Int)(hx:1≤xs.length∧xs.length≤1000)(h0:0≤a)(h1:a≤4000000000000000000):∃ x a' sd',spec_l1Cur_among.f l a sd xs=some (x,a',sd')∧a≤a'∧a'≤a+2:=by
 obtain⟨p,a1,s1,e1,p0,p1,q1,q2⟩:=pick_ok l hl a sd (xs.length:Int) h0 (by omega) (by omega)
 have hp:=p1 (by omega)
 unfold spec_l1Cur_among.f
 rw[e1]
 simp only[Option.bind_some]
 rw[if_pos p0,if_pos hp]
 exact⟨_,_,_,rfl,q1,q2⟩
theorem counts_l0 (l:List Int)(hl:∀ x∈l,0≤x∧x≤255)(m:Nat):∀ (out:List Int) (a sd:Int),out.length+m≤1000→0≤a→a+2*m+4≤3000000000000000000 →
  ∃ r a' sd',Ev (fun k=>spec_l1Cur_counts.l0 k (m:Int) out l a sd) (r,a',sd')∧r.length=out.length+m∧a≤a'∧a'≤a+2*m+4:=by
 induction m with
 | zero=>
  intro out a sd ho h0 h1
  by_cases g:(out.length:Int) > 0
  ·obtain⟨b,a1,s1,e1,q1,q2⟩:=one_ok l hl a sd 30 h0 (by omega) (by omega)
   by_cases g2:b=true
   ·obtain⟨x,a2,s2,e2,p1,p2⟩:=among_ok2 l hl a1 s1 [(-1),1001] (by decide) (by omega) (by omega)
    refine⟨out.set (0:Int).toNat x,a2,s2,Ev.succ ?_,by rw[List.length_set];omega,by omega,by omega⟩
    simp only[spec_l1Cur_counts.l0]
    exact Ev.neg (by omega) (Ev.pos g (Ev.bnd1 e1 (Ev.pos g2 (Ev.bnd1 e2 (Ev.pos (by omega) (Ev.ret _))))))
   ·refine⟨out,a1,s1,Ev.succ ?_,by omega,by omega,by omega⟩
    simp only[spec_l1Cur_counts.l0]
    exact Ev.neg (by omega) (Ev.pos g (Ev.bnd1 e1 (Ev.neg g2 (Ev.ret _))))
  ·refine⟨out,a,sd,Ev.succ ?_,by omega,by omega,by omega⟩
   simp only[spec_l1Cur_counts.l0]
   exact Ev.neg (by omega) (Ev.neg g (Ev.ret _))
 | succ m ih=>
  intro out a sd ho h0 h1
  obtain⟨x,a1,s1,e1,q1,q2⟩:=among_ok2 l hl a sd [0,1,1,2,3,5,8,100,1000] (by decide) h0 (by omega)
  obtain⟨r,a',sd',e,p1,p2,p3⟩:=ih (out++[x]) a1 s1 (by rw[List.length_append,List.length_singleton];omega) (by omega) (by omega)
  rw[List.length_append,List.length_singleton]at p1
  refine⟨r,a',sd',Ev.succ ?_,by omega,by omega,by omega⟩
  simp only[spec_l1Cur_counts.l0]
  rw[w64 (x:=((m+1:Nat):Int) - 1) (by omega) (by omega),show ((m+1:Nat):Int) - 1=(m:Int) by omega]
  exact Ev.pos (by omega) (Ev.bnd1 e1 (Ev.pos (by omega) e))
theorem lengths_l0 (l:List Int)(hl:∀ x∈l,0≤x∧x≤255)(m:Nat):∀ (out:List Int) (a sd:Int),out.length+m≤1000→0≤a→a+2*m≤3000000000000000000 →
  ∃ r a' sd',Ev (fun k=>spec_l1Cur_lengths.l0 k (m:Int) out l a sd) (r,a',sd')∧r.length=out.length+m∧a≤a'∧a'≤a+2*m:=by
 induction m with
 | zero=>
  intro out a sd ho h0 h1
  refine⟨out,a,sd,Ev.succ ?_,by omega,by omega,by omega⟩
  simp only[spec_l1Cur_lengths.l0]
  exact Ev.neg (by omega) (Ev.ret _)
 | succ m ih=>
  intro out a sd ho h0 h1
  obtain⟨x,a1,s1,e1,q1,q2⟩:=among_ok2 l hl a sd [0,1,2,3,3,4,4,5,12] (by decide) h0 (by omega)
  obtain⟨r,a',sd',e,p1,p2,p3⟩:=ih (out++[x]) a1 s1 (by rw[List.length_append,List.length_singleton];omega) (by omega) (by omega)
  rw[List.length_append,List.length_singleton]at p1
  refine⟨r,a',sd',Ev.succ ?_,by omega,by omega,by omega⟩
  simp only[spec_l1Cur_lengths.l0]
  rw[w64 (x:=((m+1:Nat):Int) - 1) (by omega) (by omega),show ((m+1:Nat):Int) - 1=(m:Int) by omega]
  exact Ev.pos (by omega) (Ev.bnd1 e1 (Ev.pos (by omega) e))
theorem lengths_j0 (l:List Int)(hl:∀ x∈l,0≤x∧x≤255)(m:Nat)(hm:m≤13)(a sd:Int)(h0:0≤a)(h1:a≤2000000000000000000):∃ r a' sd',Ev (fun k=>spec_l1Cur_lengths.j0 k (m:Int) l a sd) (r,a',sd')∧r.length≤13∧a≤a'∧a'≤a+100:=by
 obtain⟨c,a1,s1,e1,p1,p2,p3⟩:=counts_l0 l hl m [] a sd (by simp;omega) h0 (by omega)
 simp only[List.length_nil,Nat.zero_add]at p1
 obtain⟨⟨r,b⟩,e2,q1,q2⟩:=lengthsOf_ev c (by omega)
 simp only at q1 q2
 have rest:∀ (a sd:Int),0≤a→a≤2000000000000001000→∃ r' a' sd',Ev (fun k=>spec_l1Cur_lengths.j1 k (m:Int) r false l a sd) (r',a',sd')∧r'.length≤13∧a≤a'∧a'≤a+30:=by
  intro a sd h0 h1
  obtain⟨r',a',sd',e3,z1,z2,z3⟩:=lengths_l0 l hl m [] a sd (by simp;omega) h0 (by omega)
  simp only[List.length_nil,Nat.zero_add]at z1
  refine⟨r',a',sd',Ev.succ ?_,by omega,by omega,by omega⟩
  simp only[spec_l1Cur_lengths.j1]
  exact Ev.neg (by simp) e3
 by_cases g:b=true
 ·obtain⟨b2,a2,s2,e3,z1,z2⟩:=one_ok l hl a1 s1 3 (by omega) (by omega) (by omega)
  by_cases g2:b2=true
  ·obtain⟨r',a',sd',e4,y1,y2,y3⟩:=rest a2 s2 (by omega) (by omega)
   refine⟨r',a',sd',Ev.succ ?_,y1,by omega,by omega⟩
   simp only[spec_l1Cur_lengths.j0,spec_l1Cur_counts.f]
   refine Ev.bnd e1 (Ev.bnd e2 (Ev.pos g (Ev.bnd1 e3 ?_)))
   rw[g2]
   exact e4
  ·refine⟨r,a2,s2,Ev.succ ?_,by omega,by omega,by omega⟩
   simp only[spec_l1Cur_lengths.j0,spec_l1Cur_counts.f]
   refine Ev.bnd e1 (Ev.bnd e2 (Ev.pos g (Ev.bnd1 e3 (Ev.succ ?_))))
   simp only[spec_l1Cur_lengths.j1]
   exact Ev.pos (by rw[Bool.not_eq_true]at g2;rw[g2];rfl) (Ev.ret _)
 ·obtain⟨r',a',sd',e4,y1,y2,y3⟩:=rest a1 s1 (by omega) (by omega)
  refine⟨r',a',sd',Ev.succ ?_,y1,by omega,by omega⟩
  simp only[spec_l1Cur_lengths.j0,spec_l1Cur_counts.f]
  exact Ev.bnd e1 (Ev.bnd e2 (Ev.neg g e4))
theorem lengths_ok (l:List Int)(hl:∀ x∈l,0≤x∧x≤255)(a sd:Int)(h0:0≤a)(h1:a≤1000000000000000000):∃ r a' sd',Ev (fun k=>spec_l1Cur_lengths.f k l a sd) (r,a',sd')∧r.length≤13∧a≤a'∧a'≤a+200:=by
 obtain⟨p,a1,s1,e1,p0,p1,q1,q2⟩:=pick_ok l hl a sd 7 h0 (by omega) (by omega)
 have p2:=p1 (by omega)
 obtain⟨b,a2,s2,e2,z1,z2⟩:=one_ok l hl a1 s1 20 (by omega) (by omega) (by omega)
 by_cases g:b=true
 ·obtain⟨q,a3,s3,e3,y0,y1,y2,y3⟩:=pick_ok l hl a2 s2 2 (by omega) (by omega) (by omega)
  have y4:=y1 (by omega)
  obtain⟨r,a',sd',e4,x1,x2,x3⟩:=lengths_j0 l hl (12+q.toNat) (by omega) a3 s3 (by omega) (by omega)
  refine⟨r,a',sd',?_,x1,by omega,by omega⟩
  simp only[spec_l1Cur_lengths.f]
  refine Ev.bnd1 e1 (Ev.bnd1 e2 (Ev.pos g (Ev.bnd1 e3 ?_)))
  rw[w64 (x:=12+q) (by omega) (by omega),show 12+q=((12+q.toNat:Nat):Int) by omega]
  exact e4
 ·obtain⟨r,a',sd',e4,x1,x2,x3⟩:=lengths_j0 l hl (1+p.toNat) (by omega) a2 s2 (by omega) (by omega)
  refine⟨r,a',sd',?_,x1,by omega,by omega⟩
  simp only[spec_l1Cur_lengths.f]
  refine Ev.bnd1 e1 (Ev.bnd1 e2 (Ev.neg g ?_))
  rw[w64 (x:=1+p) (by omega) (by omega),show 1+p=((1+p.toNat:Nat):Int) by omega]
  exact e4
theorem coded_j2 (l:List Int)(hl:∀ x∈l,0≤x∧x≤255)(n out:List Int)(hn:n.length≤1000)(a sd:Int)(h0:0≤a)(h1:a≤3000000000000000000):∃ r a' sd',Ev (fun k=>spec_l1Cur_coded.j2 k n out l a sd) (r,a',sd')∧r.length=out.length∧a≤a'∧a'≤a+4:=by
 by_cases g:(out.length:Int) > 0
 ·obtain⟨b,a1,s1,e1,q1,q2⟩:=one_ok l hl a sd 12 h0 (by omega) (by omega)
  by_cases g2:b=true
  ·obtain⟨p,a2,s2,e2,p0,p1,y1,y2⟩:=pick_ok l hl a1 s1 (wrap64 ((n.length:Int)+1)) (by omega) (by omega) (by rw[w64 (by omega) (by omega)];omega)
   refine⟨out.set (0:Int).toNat p,a2,s2,Ev.succ ?_,by rw[List.length_set],by omega,by omega⟩
   simp only[spec_l1Cur_coded.j2]
   exact Ev.pos g (Ev.bnd1 e1 (Ev.pos g2 (Ev.bnd1 e2 (Ev.pos (by omega) (Ev.ret _)))))
  ·refine⟨out,a1,s1,Ev.succ ?_,rfl,by omega,by omega⟩
   simp only[spec_l1Cur_coded.j2]
   exact Ev.pos g (Ev.bnd1 e1 (Ev.neg g2 (Ev.ret _)))
 ·refine⟨out,a,sd,Ev.succ ?_,rfl,by omega,by omega⟩
  simp only[spec_l1Cur_coded.j2]
  exact Ev.neg g (Ev.ret _)
theorem coded_l1 (l:List Int)(hl:∀ x∈l,0≤x∧x≤255)(n have_:List Int)(hn:n.length≤1000)(hh:have_.length≤1000)(m:Nat):∀ (out:List Int) (a sd:Int),out.length+m≤1000→0≤a→a+2*m≤2000000000000000000→∃ r a' sd',Ev (fun k=>spec_l1Cur_coded.l1 k n have_ out (m:Int) l a sd) (r,a',sd')∧r.length≤out.length+m∧a≤a'∧a'≤a+2*m+4:=by
 induction m with
 | zero=>
  intro out a sd ho h0 h1
  obtain⟨r,a',sd',e,p1,p2,p3⟩:=coded_j2 l hl n out hn a sd h0 (by omega)
  refine⟨r,a',sd',Ev.succ ?_,by omega,by omega,by omega⟩
  simp only[spec_l1Cur_coded.l1]
  exact Ev.neg (by omega) e
 | succ m ih=>
  intro out a sd ho h0 h1
  by_cases g:(have_.length:Int) > 0
  ·obtain⟨p,a1,s1,e1,p0,p1,y1,y2⟩:=pick_ok l hl a sd (have_.length:Int) (by omega) (by omega) (by omega)
   have p2:=p1 (by omega)
   obtain⟨r,a',sd',e,q1,q2,q3⟩:=ih (out++[rd have_ p]) a1 s1 (by rw[List.length_append,List.length_singleton];omega) (by omega) (by omega)
   rw[List.length_append,List.length_singleton]at q1
   refine⟨r,a',sd',Ev.succ ?_,by omega,by omega,by omega⟩
   simp only[spec_l1Cur_coded.l1]
   rw[w64 (x:=((m+1:Nat):Int) - 1) (by omega) (by omega),show ((m+1:Nat):Int) - 1=(m:Int) by omega]
   exact Ev.pos (by omega) (Ev.pos g (Ev.bnd1 e1 (Ev.pos p0 (Ev.pos p2 (Ev.pos (by omega) e)))))
  ·obtain⟨r,a',sd',e,p1,p2,p3⟩:=coded_j2 l hl n out hn a sd h0 (by omega)
   refine⟨r,a',sd',Ev.succ ?_,by omega,by omega,by omega⟩
   simp only[spec_l1Cur_coded.l1]
   exact Ev.pos (by omega) (Ev.neg g e)
theorem coded_l0 (l:List Int)(hl:∀ x∈l,0≤x∧x≤255)(n:List Int)(hn:n.length≤1000)(a sd:Int)(h0:0≤a)(h1:a≤1000000000000000000)(d:Nat):∀ (i:Nat) (have_:List Int),i+d=n.length→have_.length≤i→∃ r a' sd',Ev (fun k=>spec_l1Cur_coded.l0 k n have_ n (n.length:Int) (i:Int) l a sd) (r,a',sd')∧r.length≤8∧a≤a'∧a'≤a+30:=by
 induction d with
 | zero=>
  intro i have_ hi hh
  obtain⟨p,a1,s1,e1,p0,p1,y1,y2⟩:=pick_ok l hl a sd 8 (by omega) (by omega) (by omega)
  have p2:=p1 (by omega)
  obtain⟨m,rfl⟩:∃ m:Nat,p=m:=⟨p.toNat,by omega⟩
  obtain⟨r,a',sd',e,q1,q2,q3⟩:=coded_l1 l hl n have_ hn (by omega) m [] a1 s1 (by simp;omega) (by omega) (by omega)
  simp only[List.length_nil,Nat.zero_add]at q1
  refine⟨r,a',sd',Ev.succ ?_,by omega,by omega,by omega⟩
  simp only[spec_l1Cur_coded.l0]
  exact Ev.neg (by omega) (Ev.bnd1 e1 e)
 | succ d ih=>
  intro i have_ hi hh
  have hw:wrap64 ((i:Int)+1)=((i+1:Nat):Int):=by rw[w64 (by omega) (by omega)];omega
  by_cases g:rd n (i:Int) > 0
  ·obtain⟨r,a',sd',e,q1,q2,q3⟩:=ih (i+1) (have_++[(i:Int)]) (by omega) (by rw[List.length_append,List.length_singleton];omega)
   refine⟨r,a',sd',Ev.succ ?_,q1,q2,q3⟩
   simp only[spec_l1Cur_coded.l0]
   rw[hw]
   exact Ev.pos (by omega) (Ev.pos (by omega) (Ev.pos (by omega) (Ev.pos g (Ev.pos (by omega) e))))
  ·obtain⟨r,a',sd',e,q1,q2,q3⟩:=ih (i+1) have_ (by omega) (by omega)
   refine⟨r,a',sd',Ev.succ ?_,q1,q2,q3⟩
   simp only[spec_l1Cur_coded.l0]
   rw[hw]
   exact Ev.pos (by omega) (Ev.pos (by omega) (Ev.pos (by omega) (Ev.neg g e)))
theorem coded_ok (l:List Int)(hl:∀ x∈l,0≤x∧x≤255)(n:List Int)(hn:n.length≤1000)(a sd:Int)(h0:0≤a)(h1:a≤1000000000000000000):∃ r a' sd',Ev (fun k=>spec_l1Cur_coded.f k l a sd n) (r,a',sd')∧r.length≤8∧a≤a'∧a'≤a+30:=by
 have h:=coded_l0 l hl n hn a sd h0 h1 n.length 0 [] (by omega) (by simp)
 simp only[spec_l1Cur_coded.f]
 exact h
theorem DrawEncodeBy_ok (l:List Int)(hl:∀ x∈l,0≤x∧x≤255):∃ n m,Ev (fun k=>spec_DrawEncodeBy.f k l) (n,m)∧n.length≤13∧m.length≤8:=by
 obtain⟨n,a1,s1,e1,p1,p2,p3⟩:=lengths_ok l hl 0 0 (by omega) (by omega)
 obtain⟨m,a2,s2,e2,q1,q2,q3⟩:=coded_ok l hl n (by omega) a1 s1 (by omega) (by omega)
 refine⟨n,m,?_,p1,q1⟩
 simp only[spec_DrawEncodeBy.f]
 exact Ev.bnd e1 (Ev.bnd e2 (Ev.ret _))
theorem DrawDecodeBy_ok (l:List Int)(hl:∀ x∈l,0≤x∧x≤255):∃ n s,Ev (fun k=>spec_DrawDecodeBy.f k l) (n,s)∧n.length≤13∧s.size≤1000:=by
 obtain⟨n,a1,s1,e1,p1,p2,p3⟩:=lengths_ok l hl 0 0 (by omega) (by omega)
 obtain⟨m,a2,s2,e2,q1,q2,q3⟩:=coded_ok l hl n (by omega) a1 s1 (by omega) (by omega)
 have he:∃ r:ByteArray × Bool,Ev (fun k=>spec_EncodeBy.f k n m) r∧r.1.size≤96:=by
  by_cases g:goodLengths n=true
  ·obtain⟨ws,h,_,he,_⟩:=model_good n g
   refine⟨_,(he m (by omega)).1,?_⟩
   unfold encR
   rw[if_neg (by omega)]
   cases hb:(enc n ws m ⟨#[]⟩).2 with
   | true=>
    have:=(enc_ok n ws m _ hb).2
    rw[this,nil_ba]
    have:=catC_size n ws h.2.2.2.2 m
    omega
   | false=>rw[enc_no n ws m _ hb];exact Nat.zero_le _
  ·exact⟨_,((model_bad n (by omega) g).2.1 m).1,Nat.zero_le _⟩
 obtain⟨r,e3,z3⟩:=he
 obtain⟨b,a3,s3,e4,y1,y2⟩:=one_ok l hl a2 s2 3 (by omega) (by omega) (by omega)
 by_cases g:b=true
 ·obtain⟨s,a4,s4,e5,x1,x2,x3⟩:=spoilt_ok l hl r.1 (⟨#[48,49]⟩:ByteArray) (by decide) a3 s3 (by omega) (by omega) (by omega)
  refine⟨n,s,?_,p1,by omega⟩
  simp only[spec_DrawDecodeBy.f]
  exact Ev.bnd e1 (Ev.bnd e2 (Ev.bnd e3 (Ev.bnd1 e4 (Ev.pos g (Ev.bnd e5 (Ev.ret _))))))
 ·refine⟨n,r.1,?_,p1,by omega⟩
  simp only[spec_DrawDecodeBy.f]
  exact Ev.bnd e1 (Ev.bnd e2 (Ev.bnd e3 (Ev.bnd1 e4 (Ev.neg g (Ev.ret _)))))
theorem sameInts_l0 (d:Nat):∀ (a:List Int) (i:Nat),i+d=a.length→a.length≤100000→Ev (fun k=>laws_sameInts.l0 k a a (a.length:Int) (i:Int)) true:=by
 induction d with
 | zero=>
  intro a i hi hl
  refine Ev.succ ?_
  simp only[laws_sameInts.l0]
  exact Ev.neg (by omega) (Ev.ret _)
 | succ d ih=>
  intro a i hi hl
  refine Ev.succ ?_
  simp only[laws_sameInts.l0]
  rw[w64 (x:=(i:Int)+1) (by omega) (by omega)]
  refine Ev.pos (by omega) (Ev.pos (by omega) (Ev.pos (by omega) (Ev.pos (by omega) (Ev.pos (by trivial) ?_))))
  have:=ih a (i+1) (by omega) hl
  simpa using this
theorem sameInts_self (a:List Int)(hl:a.length≤100000):Ev (fun k=>laws_sameInts.f k a a) true:=by
 simp only[laws_sameInts.f]
 exact Ev.pos (by trivial) (sameInts_l0 a.length a 0 (by omega) hl)
theorem sameTexts_l0 (d:Nat):∀ (a:List ByteArray) (i:Nat),i+d=a.length→a.length≤100000→Ev (fun k=>laws_sameTexts.l0 k a a (a.length:Int) (i:Int)) true:=by
 induction d with
 | zero=>
  intro a i hi hl
  refine Ev.succ ?_
  simp only[laws_sameTexts.l0]
  exact Ev.neg (by omega) (Ev.ret _)
 | succ d ih=>
  intro a i hi hl
  refine Ev.succ ?_
  simp only[laws_sameTexts.l0]
  rw[w64 (x:=(i:Int)+1) (by omega) (by omega)]
  refine Ev.pos (by omega) (Ev.pos (by omega) (Ev.pos (by omega) (Ev.pos (by omega) (Ev.pos (by trivial) ?_))))
  have:=ih a (i+1) (by omega) hl
  simpa using this
theorem sameTexts_self (a:List ByteArray)(hl:a.length≤100000):Ev (fun k=>laws_sameTexts.f k a a) true:=by
 simp only[laws_sameTexts.f]
 exact Ev.pos (by trivial) (sameTexts_l0 a.length a 0 (by omega) hl)
theorem coded_last (x1:List Int)(hl:∀ x∈x1,0≤x∧x≤255):Ev (fun k=>(spec_DrawDecodeBy.f k x1).bind fun bt390=>((impl_DecodeBy.f k bt390.1 bt390.2).bind fun bt394=>((spec_DecodeBy.f k bt390.1 bt390.2).bind fun bt398=>(if (bt394.2 != bt398.2)=true then (laws_FnCoded.j4 k bt390.1 bt390.2 bt394.1 bt394.2 true) else ((laws_sameInts.f k bt394.1 bt398.1).bind fun t402=>(laws_FnCoded.j4 k bt390.1 bt390.2 bt394.1 bt394.2 (!t402))))))) true:=by
 obtain⟨n,s,e1,h1,h2⟩:=DrawDecodeBy_ok x1 hl
 refine Ev.bnd e1 ?_
 by_cases g:goodLengths n=true
 ·obtain⟨ws,h,_,he,hd⟩:=model_good n g
  obtain⟨d1,d2⟩:=hd s (by omega)
  have hlen:=decR_len ws s
  refine Ev.bnd d2 (Ev.bnd d1 (Ev.neg (by simp) (Ev.bnd (sameInts_self _ (by omega)) (Ev.succ ?_))))
  simp only[laws_FnCoded.j4]
  refine Ev.neg (by simp) ?_
  by_cases g2:(decR ws s).2=true
  ·have e:=dec_enc n ws h s g2
   have e2:=(he (decR ws s).1 (by omega)).2
   rw[e]at e2
   exact Ev.pos g2 (Ev.bnd e2 (Ev.pos rfl (Ev.eq (Ev.ret _) (by simp))))
  ·exact Ev.neg g2 (Ev.ret _)
 ·obtain⟨d1,d2⟩:=(model_bad n (by omega) g).2.2 s
  refine Ev.bnd d2 (Ev.bnd d1 (Ev.neg (by simp) (Ev.bnd (sameInts_self _ (by simp)) (Ev.succ ?_))))
  simp only[laws_FnCoded.j4]
  exact Ev.neg (by simp) (Ev.neg (by simp) (Ev.ret _))
theorem coded_in (x1:List Int)(n:List Int)(ws:List ByteArray)(h:okCodes n ws)(i:Nat)(hi:i<ws.length)(R:Bool)(hR:Ev (fun k=>laws_FnCoded.l0 k x1 n ws ws (ws.length:Int) ((i+1:Nat):Int)) R)(d:Nat):∀ j:Nat,j+d=ws.length→Ev (fun k=>laws_FnCoded.l1 k x1 n ws (i:Int) (rdOf ByteArray.empty ws (i:Int)) ws (ws.length:Int) (i:Int) ws (ws.length:Int) (j:Int)) R:=by
 have h12:=h.1
 have hlen:=h.2.1
 induction d with
 | zero=>
  intro j hj
  refine Ev.succ ?_
  simp only[laws_FnCoded.l1]
  rw[w64 (x:=(i:Int)+1) (by omega) (by omega)]
  rw[Int.natCast_add,Int.natCast_one]at hR
  exact Ev.neg (by omega) hR
 | succ d ih=>
  intro j hj
  have hs:((rdOf ByteArray.empty ws (i:Int)).size:Int)=rd n (i:Int):=by
   have:=h.2.2.1 i (by omega)
   unfold cz at this
   unfold rdOf rd
   rw[Int.toNat_natCast]
   exact this
  have hr:=ih (j+1) (by omega)
  rw[Int.natCast_add,Int.natCast_one]at hr
  refine Ev.succ ?_
  simp only[laws_FnCoded.l1]
  rw[w64 (x:=(j:Int)+1) (by omega) (by omega)]
  refine Ev.pos (by omega) (Ev.pos (by omega) (Ev.pos (by omega) ?_))
  by_cases g:(i:Int)=(j:Int)
  ·exact Ev.pos g (Ev.pos (by omega) (Ev.pos (by omega) (Ev.pos hs hr)))
  ·refine Ev.neg g ?_
   by_cases g2:(rdOf ByteArray.empty ws (i:Int)).toList=([]:List UInt8)
   ·exact Ev.pos g2 (Ev.pos (by omega) (Ev.pos (by omega) (Ev.pos hs hr)))
   ·refine Ev.neg g2 ?_
    by_cases g3:((rdOf ByteArray.empty ws (j:Int)).size:Int)≥((rdOf ByteArray.empty ws (i:Int)).size:Int)
    ·refine Ev.pos g3 (Ev.pos (by omega) (Ev.pos g3 (Ev.neg (fun e=>?_) (Ev.pos (by omega) (Ev.pos (by omega) (Ev.pos hs hr))))))
     refine h.2.2.2.1 i j (by omega) ⟨fun z=>g2 ((ne_nil _).2 z),?_,(toList_iff _ _).1 e⟩
     exact Int.ofNat_le.1 g3
    ·exact Ev.neg g3 (Ev.pos (by omega) (Ev.pos (by omega) (Ev.pos hs hr)))
theorem coded_out (x1:List Int)(hl:∀ x∈x1,0≤x∧x≤255)(n:List Int)(ws:List ByteArray)(h:okCodes n ws)(d:Nat):∀ i:Nat,i+d=ws.length→Ev (fun k=>laws_FnCoded.l0 k x1 n ws ws (ws.length:Int) (i:Int)) true:=by
 have h12:=h.1
 have hlen:=h.2.1
 induction d with
 | zero=>
  intro i hi
  refine Ev.succ ?_
  simp only[laws_FnCoded.l0]
  exact Ev.neg (by omega) (coded_last x1 hl)
 | succ d ih=>
  intro i hi
  refine Ev.succ ?_
  simp only[laws_FnCoded.l0]
  exact Ev.pos (by omega) (Ev.pos (by omega) (Ev.pos (by omega) (coded_in x1 n ws h i (by omega) true (ih (i+1) (by omega)) ws.length 0 (by omega))))
theorem coded_none (x1:List Int)(hl:∀ x∈x1,0≤x∧x≤255)(n:List Int):Ev (fun k=>laws_FnCoded.l0 k x1 n [] [] ((([]:List ByteArray).length:Nat):Int) 0) true:=by
 refine Ev.succ ?_
 simp only[laws_FnCoded.l0]
 exact Ev.neg (by simp) (coded_last x1 hl)
theorem big_total (l0 l1:List Int):∃ bg,laws_big.f l0 l1=some bg:=by
 unfold laws_big.f
 split
 ·exact⟨_,rfl⟩
 ·exact⟨_,rfl⟩
theorem wf8 (l:List Int)(h:∀ x∈l,(Lit.int .u8 x).wf=true):∀ x∈l,0≤x∧x≤255:=by
 intro x hx
 have:=h x hx
 simp only[Lit.wf,IntKind.min,IntKind.max,IntKind.signed,IntKind.bits,Bool.and_eq_true,decide_eq_true_eq]at this
 simp at this
 omega
theorem FnCoded:laws_FnCoded.Pure:=by
 intro l0 l1 h1 h2 h3 h4 h5 h6
 have b0:=wf8 l0 h3
 have b1:=wf8 l1 h6
 refine Ev.all ?_
 simp only[laws_FnCoded.f]
 obtain⟨bg,ebg⟩:=big_total l0 l1
 refine Ev.bnd1 ebg ?_
 by_cases hb:bg=true
 ·exact Ev.pos hb (Ev.ret _)
 ·obtain⟨n,m,e1,hn,hm⟩:=DrawEncodeBy_ok l0 b0
  refine Ev.neg hb (Ev.bnd e1 ?_)
  by_cases g:goodLengths n=true
  ·obtain⟨ws,h,⟨c1,c2⟩,he,hd⟩:=model_good n g
   obtain⟨i1,i2⟩:=he m (by omega)
   have h12:=h.1
   have hlen:=h.2.1
   refine Ev.bnd i2 (Ev.bnd i1 (Ev.bnd c2 (Ev.bnd c1 (Ev.neg (by simp) (Ev.pos rfl (Ev.neg (by simp) (Ev.bnd (sameTexts_self _ (by simp only;omega)) (Ev.succ ?_))))))))
   have last:Ev (fun k=>laws_FnCoded.j1 k l1 n ws) true:=by
    refine Ev.succ ?_
    simp only[laws_FnCoded.j1]
    have:=coded_out l1 b1 n ws h ws.length 0 (by omega)
    simpa using this
   simp only[laws_FnCoded.j0]
   refine Ev.neg (by simp) ?_
   by_cases g2:(encR n ws m).2=true
   ·obtain⟨e2,e3⟩:=enc_dec n ws h m g2
    have d2:=(hd (encR n ws m).1 (by omega)).2
    rw[e2]at d2
    exact Ev.pos g2 (Ev.bnd d2 (Ev.pos rfl (Ev.bnd (sameInts_self _ (by simp only;omega)) (Ev.pos (by trivial) last))))
   ·exact Ev.neg g2 last
  ·obtain⟨⟨c1,c2⟩,he,_⟩:=model_bad n (by omega) g
   obtain⟨i1,i2⟩:=he m
   refine Ev.bnd i2 (Ev.bnd i1 (Ev.bnd c2 (Ev.bnd c1 (Ev.neg (by simp) (Ev.pos rfl (Ev.neg (by simp) (Ev.bnd (sameTexts_self _ (by simp)) (Ev.succ ?_))))))))
   simp only[laws_FnCoded.j0]
   refine Ev.neg (by simp) (Ev.neg (by simp) (Ev.succ ?_))
   simp only[laws_FnCoded.j1]
   exact coded_none l1 b1 n
end Go.Proofs.YtmgkflkfoccgkabDoor.Pure
